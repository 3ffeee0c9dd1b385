/- What the functions of the program compute, for every input. -/
import Derived.Test.YtejndadjmphbiaaGreatDoorLawC
import Derived.Test.YtejndadjmphbiaaGreatDoorLawB
import Derived.Deep.Slices
import Derived.SliceStrings
namespace Go.Dam.C
open Go Go.Dam
variable{X:aA}{pm:Perm}{H ab bX ai:ae}{n:Nat}
theorem ey.app{L xs:List Value}{w n:Nat}{f:Nat->List Value}(h:ey L w n f)(a:xs.length=w):ey (L++xs) w (n+1) λj=>if j=n then xs else f j:=by
 refine⟨by simp[h.1,a,j0],λj _=>?_⟩;by_cases e:j=n
 ·subst e;simp;refine⟨a,λ_ _=>?_⟩;rw[iq (by rw[h.1];omega),h.1];congr 1;omega
 ·simp[e];refine⟨(h.2 j ω).1,λk a=>?_⟩;rw[hY (h.lt ω a)];exact(h.2 j ω).2 k a
structure eW(pm:Perm)(p aX aH e9 fE:Nat)(H ab:ae):Prop where
 h:bl pm ab
 next:H.next<=ab.next
 get:∀b,b<H.next->e7 p aX aH b->ab.get b=H.get b
 cf:∀b o,H.get b=some (.cf o)->ab.get b=some (.cf o)
 t:e9=aX∨H.next<=e9
 r:fE=aH∨H.next<=fE
variable{p aX aH cI e9 fE NH NF c3:Nat}{cL dF jS:Value}{deep:Bool}{s:bV}{cs:List a1}
theorem eW.GV(k:eW pm p aX aH e9 fE H ab){b:Nat}(a:b<H.next)(h:e7 p aX aH b):e7 p e9 fE b:=⟨h.1,by have:=k.t;have:=h.2.1;omega,by have:=k.r;have:=h.2.2;omega⟩
theorem eW.trans(k:eW pm p aX aH e9 fE H ab)(l:eW pm p e9 fE NH NF ab bX):eW pm p aX aH NH NF H bX:=
 ⟨l.h,a8 k.next l.next,λb a h=>(l.get b (fK a k.next) (k.GV a h)).trans (k.get b a h),λb o h=>l.cf b o (k.cf b o h),by
  have:=k.t;have:=l.t;have:=k.next;omega,by have:=k.r;have:=l.r;have:=k.next;omega⟩
theorem eW.p7(k:K pm H ab):eW pm p aX aH aX aH H ab:=⟨k.h,k.next,λb a _=>k.get b a,k.cf,.inl rfl,.inl rfl⟩
theorem eW.some(k:eW pm p aX aH e9 fE H ab)(g:bl pm H){b:Nat}{y:bz}(h:e7 p aX aH b)(e:H.get b=Option.some y):ab.get b=Option.some y:=(k.get b (g.lt e) h).trans e
theorem eW.up(k:eW pm p aX aH e9 fE H ab)(a:p<=aX)(a:p<=aH)(a:p<H.next):aC pm p H ab:=⟨k.h,k.next,λb _=>k.get b ω ⟨ω,ω,ω⟩,k.cf⟩
theorem eW.S7(k:eW pm p aX aH e9 fE H ab)(g:bl pm H){a w:Nat}{v:Value}{P b:Nat->List Value->Prop}(h:hh H (e7 p aX aH) v a w P)(c:∀i cs,i<a->P i cs->b i cs):hh ab (e7 p e9 fE) v a w b:=
 h.imp (λ_ _ a e=>⟨k.GV (g.lt e) a,k.some g a e⟩) c
theorem E2(hX:nw X)(g:bl pm H)(ag:pm.ah<=p)(h:fY H p cL dF deep c3 s aX aH cI)(ai:hh H (e7 p aX aH) jS cs.length 5 (gA cs))(hn:s.tree.length<=1000)(ht:s.todo.length<=1000):
 Call X pm F.pw [.pointer (some ⟨p,0,none⟩),jS] H λr ab=>∃e9 fE W,r=.int .i64 (s.tree.length:Int)/\fY ab p cL dF deep c3 (s.U cs) e9 fE W/\eW pm p aX aH e9 fE H ab:=by
 refine Call.W hX.pw rfl λ_ hQ=>?_;let⟨⟨_,_⟩,⟨⟨_,ar⟩,_,au⟩,B,rv,l,m,a,av,aw,ax,ay⟩:=h;have lp:=g.lt a;have aP:=g.lt ar;have ar:=g.lt au;obtain⟨C,o,D,ho,E,cf,hf⟩:∃C o,pF H rv 5 s.tree.length C o/\(∀t,o=some t->t=aH)/\∃E,ey C 5 s.tree.length E/\∀i (G:i<s.tree.length),∃Y,E i=s.tree[i].cells Y/\j8 H (np p aX aH) Y s.tree[i].d:=by
  rcases aw with⟨rfl,e⟩ | ⟨rfl,L,b7,E,cH,cD⟩
  ·rw[e];exact⟨[],none,⟨rfl,rfl,rfl⟩,σ',λ_=>[],⟨rfl,λj Z=>absurd Z (gS _)⟩,λi G=>absurd G (gS _)⟩
  ·exact⟨L,some aH,⟨rfl,cH.1,b7⟩,λt e=>by cases e;rfl,E,cH,cD⟩
 obtain⟨q,I⟩:=ε H.next;obtain⟨N,J⟩:=ε (H.new (.cells [.int .i64 (-1),.string ⟨#[]⟩,.int .i64 0,.int .i64 0,.slice none 0 0] (.n 5)));have O:K pm H N:=by rw[J];exact K.new g _
 have E:=O.h;have az:N.next=q+1:=by rw[J,I];rfl
 have aA:N.get q=some (.cells [.I (-1),.string ⟨#[]⟩,.I 0,.I 0,.Z] (.n 5)):=by rw[J,I];exact cc
 let⟨H2,a1,a2,a3,a4,a5⟩:=E6 E (cR:=64) (n:=p+1) (D.ext λt y _ e=>O.some g e) (xs:=[.I (-1),.string ⟨#[]⟩,.I 0,.I 0,.Z]) rfl rfl δ ω δ ω (λt E=>by
  have e:=ho t E;have b:t≠p:=λd=>by
   rw[E]at D;have b7:=D.2.2;rw[d,a]at b7;cases b7
  exact⟨ω,ej ω⟩)
 have t:=a3.h;rw[az]at a1 a2 a4 a5;have t:=O.some g a;have aj:H2.get p=some (.cells [cL,dF,.bool deep,.I (c3:Int),B,rv,.I s.L.st,ak s.L.val,l,.Z,.Z,m] (.t h1)):=(a3.get p ω).trans t;obtain⟨_,_⟩:=ε (Value.slice (some ⟨q+1,0,none⟩) (s.tree.length+1) (s.tree.length+1));obtain⟨c,w⟩:=ε (H2.put p (.cells [cL,dF,.bool deep,.int .i64 (c3:Int),B,.slice (some ⟨q+1,0,none⟩) (s.tree.length+1) (s.tree.length+1),.int .i64 s.L.st,ak s.L.val,l,.slice none 0 0,.slice none 0 0,m] (.t h1)));have u3:aC pm p N c:=by rw[w];exact aC.put (a3.mono ω) (bc _) aj σ' _
 have P:=u3.h;have al:c.get p=some (.cells [cL,dF,.bool deep,.I (c3:Int),B,.S (q+1) (s.tree.length+1) (s.tree.length+1),.I s.L.st,ak s.L.val,l,.Z,.Z,m] (.t h1)):=by rw[w];exact bO
 have t:c.next=q+2:=by rw[w];exact a4
 have aB:pm.may p=true:=ej ag;have wn:wr .i64 (s.tree.length:Int)=s.tree.length:=cE;have an:∀b,b<q->b≠p->o≠some b->c.get b=H.get b:=λb b7 cH cD=>by
  rw[w,a6 cH,a5 b ω cD,J,sY ω]
 have aa:∀b,b<q->e7 p aX aH b->c.get b=H.get b:=λb b7 cH=>an b b7 cH.1 λe=>cH.2.2 (ho b e);obtain⟨z,Q⟩:=ε c.next;obtain⟨f,x⟩:=ε ((c.up 18).put (z+13) (.cells [.int .i64 (s.tree.length:Int),jS] (.n 2)));have t:K pm c (c.up 18):=(K.refl P).up 18;have ad:=λj=>(by rw[Q];exact P.none j:(c.up 18).get (z+j)=none);have aD:=(by rw[Q];exact P.O:(c.up 18).get z=none);have aE:K pm c f:=by rw[x];exact aC.fill t ω (ad 13) (by show z+13<c.next+18;omega) _
 have aF:f.get (z+13)=some (.cells [.I (s.tree.length:Int),jS] (.n 2)):=by rw[x];exact bO
 have ae:∀j,j≠13->f.get (z+j)=none:=λj Z=>by rw[x,a6 ω];exact ad j
 have t:f.next=z+18:=by rw[x,Q];rfl
 have M:∀b,b≠z+13->f.get b=c.get b:=λb a=>by rw[x,a6 a];rfl
 have aG:ou f (λb=>b<q/\e7 p aX aH b) aX cI B s.todo:=by
  refine av.imp (λb y a e=>?_) λL e=>?_
  ·have I:=g.lt e;exact⟨⟨ω,a⟩,by rw[M b ω,aa b ω a];exact e⟩
  ·have b:aX≠p:=λd=>by rw[d,a]at e;cases e
   have g:o≠some aX:=λd=>by
    rw[d]at D;have b7:=D.2.2;rw[e]at b7;cases b7
   rw[M aX ω,an aX ω b g];exact e
 have t:hh f (λb=>b<q/\e7 p aX aH b) jS cs.length 5 (gA cs):=ai.imp (λb y a e=>by
  have I:=g.lt e;exact⟨⟨ω,a⟩,by rw[M b ω,aa b ω a];exact e⟩) λ_ _ _ h=>h
 let⟨af,e9,W,R,F,_,e1,d,S,e4,D,_,e6,aI,e8,aJ⟩:=aG.app (dZ:=z+14) (ah:=pm.ah) (fJ:=pm.ok) (k:=s.tree.length) (λb a=>⟨by have:=a.2.2.1;omega,ω⟩) ω (ej ω) ω t (ae 14 δ);have T:R.get p=some (.cells [cL,dF,.bool deep,.I (c3:Int),B,.S (q+1) (s.tree.length+1) (s.tree.length+1),.I s.L.st,ak s.L.val,l,.Z,.Z,m] (.t h1)):=D p _ ω (by rw[M p ω];exact al) (λL h=>by cases h);have aK:∀j,14<j->R.get (z+j)=none:=λj Z=>by rw[e4 _ ω ω];exact ae j ω
 obtain⟨u,v⟩:=ε (R.put p (.cells [cL,dF,.bool deep,.int .i64 (c3:Int),af,.slice (some ⟨q+1,0,none⟩) (s.tree.length+1) (s.tree.length+1),.int .i64 s.L.st,ak s.L.val,l,.slice none 0 0,.slice none 0 0,m] (.t h1)));have ao:u.get p=some (.cells [cL,dF,.bool deep,.I (c3:Int),af,.S (q+1) (s.tree.length+1) (s.tree.length+1),.I s.L.st,ak s.L.val,l,.Z,.Z,m] (.t h1)):=by rw[v];exact bO
 have aL:=λo=>ej (ah:=pm.ah) (ok:=pm.ok) (o:=o) (b:=p) ag;have aM:dd jS=true/\jS.cells=#[jS]:=by
  let⟨_,_,e⟩:=ai.form;rw[e];exact⟨rfl,rfl⟩
 have dz:c6 [z+13] [p]=true:=gd ω;have aN:p<z:=ω
 simp[g.pick,g.make,fill,<-I,<-J,a,aA,bB,a1,aj,aB,setCells,<-w,-Eo];refine cx.of P.ah rfl ?_;rw[<-Q];simp[b8,ad,aD,al,wn,fill,bA,aM,Perm.make,Perm.pick, <-x,ae,aF,bB,e1,aK,T,aL,e8,aJ,setCells,<-v,dz,aN,b3,bZ, cU,-Eo];refine⟨λx j=>by have:=e6 x j;omega,?_⟩;simp[ao,wn];refine hQ _ _ _ ?_;simp;have j:aC pm p H c:=aC.trans (O.mono ω) u3;have t:aC pm p H f:=j.k aE ω;have f:aC pm p H R:=aI t ω ω ω;have U:aC pm p H u:=by rw[v];exact aC.put f (bc _) T σ' _
 have f:∀b,b≠p->b≠aX->b<z->u.get b=c.get b:=λb b7 cH cD=>by
  rw[v,a6 b7,e4 b cH ω,M b ω]
 have fz:∀b,b<q->e7 p aX aH b->u.get b=H.get b:=λb b7 cH=>by
  have cD:=cH.2.1;rw[f b cH.1 ω ω];exact aa b b7 cH
 have V:∀b y,e7 p aX aH b->H.get b=some y->e7 p e9 (q+1) b/\u.get b=some y:=λb y h e=>by
  have c:=g.lt e;have cD:=h.2.1;exact⟨⟨h.1,ω,ω⟩,by rw[fz b ω h];exact e⟩
 have aq:u.get (q+1)=some (.cells (C++[.I (-1),.string ⟨#[]⟩,.I 0,.I 0,.Z]) (.n 5)):=by
  rw[f (q+1) ω ω ω,w,a6 ω];exact a2.2.2
 have aO:∃y,u.get e9=some y:=by
  rcases d with⟨_,e,_⟩ | ⟨_,_,L,e,_⟩
  ·simp at e
  ·exact⟨_,by rw[v,a6 (λS=>by rw[S,T]at e;cases e)];exact e⟩
 refine⟨e9,q+1,⟨W,⟨ω,ω⟩,⟨aO,_,aq⟩,af,_,l,m,ao,?_,?_,ax.imp λb y a e=>⟨⟨a.1,(V b y a.f e).1.2⟩,(V b y a.f e).2⟩,ay.up U⟩,⟨U.h,U.next,λb a h=>fz b ω h,U.cf,ω,.inr ω⟩⟩
 ·refine d.imp (λb y a e=>⟨⟨a.2.1,by have:=a.2.2.1;omega,ω⟩,?_⟩) λL e=>?_
  ·rw[v,a6 a.2.1];exact e
  ·rw[v,a6 (λS=>by rw[S,T]at e;cases e)];exact e
 ·refine .inr ⟨by simp[bV.U],C++[.I (-1),.string ⟨#[]⟩,.I 0,.I 0,.Z],aq,_,by simpa [bV.U]using cf.app (xs:=[.I (-1),.string ⟨#[]⟩,.I 0,.I 0,.Z]) rfl,λi G=>?_⟩
  ·have G:i<s.tree.length+1:=by simpa [bV.U]using G
   by_cases e:i=s.tree.length
   ·subst e;simp[bV.U,List.getElem_append_right (bc _),Nat.sub_self,List.getElem_cons_zero];exact⟨.Z,rfl,.nil,λ_ _ _ _ h=>(by cases h)⟩
   ·have c:i<s.tree.length:=ω
    simp[bV.U,List.getElem_append_left c,e];exact(hf i c).imp λY q=>⟨q.1,q.2.imp λb y a e=>⟨⟨a.1,(V b y a.f e).1.2⟩,(V b y a.f e).2⟩⟩
end Go.Dam.C
namespace Go.Dam.C
open Go Go.Dam
variable{X:aA}{pm:Perm}{H ab bX ai:ae}{n:Nat}
theorem Mj(a:nw X)(g:bl pm H){l:List UInt8}(aY:l.length<1000000)(b:isNum l=true):Call X pm F.px [ak l] H λr ab=>K pm H ab/\b4 ab r (rd l):=by
 refine Call.has a.px rfl ?_;simp;refine al.of (qS a.toEL g aY) ?_;rintro r _ ⟨c,h⟩
 rcases h with⟨e,rfl⟩ | ⟨q,p,e,rfl,fw⟩
 ·simp[isNum,e]at b
 ·simp[rd,e];exact⟨c,fw⟩
def Fj(o:Option Nat):Int:=match o with
 | some i=>(i:Int)
 | none=>-1
theorem Vr{a:List a1}{x:List (List UInt8)}(h:∀i,i<a.length->((a.getD i bY).int&&decide ((bU x i).den≠1))=false):kE a x=none:=by
 unfold kE;rw[List.find?_range_eq_none];intro i a;rw[h i a];rfl
theorem Vq{a:List a1}{x:List (List UInt8)}{i:Nat}(az:i<a.length)(b:((a.getD i bY).int&&decide ((bU x i).den≠1))=true)(h:∀j,j<i->((a.getD j bY).int&&decide ((bU x j).den≠1))=false):kE a x=some i:=by
 unfold kE;rw[List.find?_range_eq_some];exact⟨b,o6.2 az,λj a=>by rw[h j a];rfl⟩
abbrev JN:Nat:=T.acD
theorem Vs(o:nw X)(g:bl pm H){p:Nat}{cL u:Value}{C:List Value}{D:cM}{a:List a1}{x:List (List UInt8)}(E:H.get p=some (.cells (cL::C) D))(G:hO H cL a)(I:fp H u x)(aY:x.length=a.length)(J:x.all isNum=true)(L:∀s∈x,s.length<=10000)(C:a.length<=1000):
 Call X pm F.sn [.pointer (some ⟨p,0,none⟩),u] H λr ab=>K pm H ab/\r=.int .i64 (Fj (kE a x)):=by
 refine Call.hT o.sn rfl ?_;obtain⟨M,N,rfl,O⟩:=G.at;obtain⟨P,Q,rfl,v⟩:=I.ex;rw[aY]at v;obtain⟨b,l⟩:∃b:Nat->Bool,b=λi=>(a.getD i bY).int&&decide ((bU x i).den≠1):=⟨_,rfl⟩;have R:(∀i,i<a.length->b i=false)->kE a x=none:=λh=>Vr λi d=>by have:=h i d;rw[l]at this;exact this
 have S:∀i,i<a.length->b i=true->(∀j,j<i->b j=false)->kE a x=some i:=λi d u h=>Vq d (by rw[l]at u;exact u) λj m=>by have:=h j m;rw[l]at this;exact this
 simp[E,-L6,-L7,-cm]
 refine er (σ:=Unit) a.length (λ_ _=>[(0,.P p),(1,.slice P x.length Q),(11,.slice M a.length N)])
  (λi _ ab=>K pm H ab/\∀j,j<i->b j=false) () ⟨K.refl g,λj m=>absurd m (gS _)⟩ ?_ ?_
 ·rintro i _ n d ⟨e,w⟩;have f:=e.h;obtain⟨_,F,_,H,_,rfl,T,U,V,c,W,rfl⟩:=O i d;obtain⟨_,_,_,_,_,X,Y,Z,f4,s,y,rfl⟩:=v i d;subst X;have u:a.getD i bY=c:=by rw[e5,W];rfl
  have v:bU x i=rd s:=by simp[bU,List.getD,y]
  have p:b i=(c.int&&decide ((rd s).den≠1)):=by rw[l];show((a.getD i bY).int&&decide ((bU x i).den≠1))=_;rw[u,v]
  have z:b i=false->∀j,j<i+1->b j=false:=λh j m=>by
   by_cases g:j=i
   ·subst g;exact h
   ·exact w j ω
  have a:=cX y;have aa:isNum s=true:=(eA.1 J) s a;have ab:=L s a;have ad:=e.some g T;have ae:=e.some g Y;obtain⟨q,r⟩:=ε n.next;obtain⟨A,t⟩:=ε ((n.new (.cells [.string ⟨#[]⟩,.string ⟨#[]⟩,.string ⟨#[]⟩,.string ⟨#[]⟩,.bool false] (.t JN))).put q (.cells [ak c.name,ak c.low,ak c.up,ak c.cost,.bool c.int] (.t JN)));have k:K pm n A:=by rw[t,r];exact gh f _ _
  have g2:=k.h;have a:A.get q=some (.cells [ak c.name,ak c.low,ak c.up,ak c.cost,.bool c.int] (.t JN)):=by rw[t];exact bO
  have b:∀x,(n.new x).get q=some x:=λx=>by rw[r];exact cc
  have h:pm.may q=true:=f.may ω;have af:=k.some f ae;have j:bB H (F+i*5) 5=some [ak c.name,ak c.low,ak c.up,ak c.cost,.bool c.int]:=V;simp[d,ad,U,j,f.pick,f.make,ptr,bA,<-r,b,h,setCells,<-t,a,-AP,-vq,-cm]
  cases B:c.int with
  | false=>
    simp[aR,-AP,-vq,-cm];refine al.not ?_;simp[-Ep,-vq,-cm];refine al.not ?_;simp[aR,-cm];exact⟨e.trans k,z (by rw[p,B];rfl)⟩
  | true=>
    simp[aY,d,af,Z,f4,-AP,-vq,-cm];refine al.of (aq:=[ak s]) (Mj o g2 ω aa) ?_;rintro u _ ⟨g,a⟩;have b:=g.h;simp[-Ep,-vq,-cm];refine al.of (aq:=[u]) (EX o.toEL b a.of (jf ab)) ?_;rintro _ _ ⟨rfl,rfl⟩;by_cases a:(rd s).den=1
    ·simp[a,-cm];exact⟨(e.trans k).trans g,z (by rw[p,a];simp)⟩
    ·simp[a];refine⟨(e.trans k).trans g,?_⟩;rw[S i d (by rw[p,B];simp[a]) w];rfl
 ·rintro _ _ ⟨a,b⟩;simp;exact⟨a,by rw[R b];rfl⟩
def q1(cs:List a1)(i:Nat)(ah a:List UInt8):List a1:=cs.set i {cs.getD i bY with low:=ah,up:=a}
theorem ND(t:nw X)(g:bl pm H){u:Value}{cs:List a1}{G i:Nat}{ah a:List UInt8}(v:ds H G u cs.length 5 (gA cs))(az:i<cs.length)(I:cs.length<=1000):
 Call X pm F.qR [u,.int .i64 (i:Int),ak ah,ak a] H λr ab=>K pm H ab/\ds ab H.next r (q1 cs i ah a).length 5 (gA (q1 cs i ah a)):=by
 refine Call.W t.qR rfl λ_ J=>?_;let⟨M,N,l,_⟩:=id v;subst l;simp[-L2,-L1];refine al.of (aq:=[.slice M cs.length N]) (tQ (w:=5) (cR:=72) t.k0 g v I (λi cs ⟨c,_,l⟩=>by rw[l];rfl)) ?_;rintro r x ⟨y,O,P,Q⟩;have l:=y.h;obtain⟨b,L,k,R,rfl,z,m⟩:=P.pos ω;have B:∀j,j<cs.length->O j=(cs.getD j bY).cells:=λj f=>by
  let⟨c,d,g⟩:=Q j f;rw[g,e5,d];rfl
 obtain⟨e,n⟩:=ε (L.set (i*5+1) (ak ah));obtain⟨h,C⟩:=ε (e.set (i*5+2) (ak a));obtain⟨p,q⟩:=ε (x.put b (.cells e (.n 5)));obtain⟨D,s⟩:=ε (p.put b (.cells h (.n 5)));have l:=m.lt az (δ:1<5);have o:=m.lt az (δ:2<5);have t:setCells L (i*5+1) [ak ah]=some e:=by rw[n];exact setCells_one l
 have u:setCells e (i*5+2) [ak a]=some h:=by rw[C];exact setCells_one (by rw[n];simpa using o)
 have l:p.get b=some (.cells e (.n 5)):=by rw[q];exact bO
 have S:D.get b=some (.cells h (.n 5)):=by rw[s];exact bO
 have o:ey e 5 cs.length λj=>(if j=i then{cs.getD i bY with low:=ah} else cs.getD j bY:a1).cells:=by
  rw[n];exact m.set az δ _ (by rw[B i az];simp[a1.cells]) λj f c=>by simp[c,B j f]
 have T:ey h 5 cs.length λj=>(if j=i then{cs.getD i bY with low:=ah,up:=a} else cs.getD j bY:a1).cells:=by
  rw[C];exact o.set az δ _ (by simp[a1.cells]) λj _ c=>by simp[c]
 have e:pm.may b=true:=g.may k;have m:K pm H p:=by rw[q];exact aC.put y k z σ' _
 have n:K pm H D:=by rw[s];exact aC.put m k l σ' _
 simp[az,z,t,e,<-q,l,u,<-s];refine J _ _ _ ?_;simp;have E:(q1 cs i ah a).length=cs.length:=by simp[q1]
 rw[E];refine⟨n,eS.e (ah:=H.next) (az:=x.next) (.inr ⟨b,h,k,R,rfl,S,T⟩) λj f=>?_⟩;refine⟨_,?_,rfl⟩;have b:j<(q1 cs i ah a).length:=by rw[E];exact f
 have:=pX (cs:=cs) (i:=i) (j:=j) (c:={cs.getD i bY with low:=ah,up:=a}) (d:=bY) az;rw[<-this];show(q1 cs i ah a)[j]? = some ((q1 cs i ah a).getD j bY);rw[e5,en b];rfl
end Go.Dam.C
namespace Go.Dam.C
open Go Go.Dam
variable{X:aA}{pm cu:Perm}{H ab bX ai:ae}{n p aX aH cI e9 fE c3:Nat}{cL dF jS:Value}{deep:Bool}{s:bV}{cs:List a1}
theorem eW.perm(k:eW pm p aX aH e9 fE H ab)(a:cu.num=none)(b:cu.ah<=ab.next):eW cu p aX aH e9 fE H ab:=⟨k.h.perm a b,k.next,k.get,k.cf,k.t,k.r⟩
theorem fY.k(h:fY H p cL dF deep c3 s aX aH cI)(g:bl pm H)(k:K pm H ab):fY ab p cL dF deep c3 s aX aH cI:=by
 let⟨d,c,f,i,j,l,a,m,n,o,r⟩:=h;have e:∀b y,e7 p aX aH b->H.get b=some y->e7 p aX aH b/\ab.get b=some y:=λb y a e=>⟨a,k.some g e⟩;exact⟨d,⟨c.1.imp λ_ q=>k.some g q,c.2.imp λ_ q=>k.some g q⟩,f,i,j,l,k.some g a,m.imp e λL q=>k.some g q,n.imp (λb y a h=>⟨a,(e b y a.f h).2⟩) λL q=>k.some g q,o.imp (λb y a h=>⟨a,(e b y a.f h).2⟩),r.up k⟩
theorem fY.lt(h:fY H p cL dF deep c3 s aX aH cI)(g:bl pm H):p<H.next/\aX<H.next/\aH<H.next:=by
 let⟨_,⟨⟨_,a⟩,_,b⟩,_,_,_,_,c,_⟩:=h;exact⟨g.lt c,g.lt a,g.lt b⟩
theorem fY.new(h:fY H p cL dF deep c3 s aX aH cI)(g:bl pm H){a k w:Nat}{v:Value}{P:Nat->List Value->Prop}(b:ds ab a v k w P)(c:H.next<=a):hh ab (e7 p aX aH) v k w P:=by
 let⟨_,_,_⟩:=h.lt g;exact b.p.imp (λ_ _ _ e=>⟨⟨ω,ω,ω⟩,e⟩) λ_ _ _ h=>h
theorem b4.S6(k:eW pm p aX aH e9 fE H ab){w:Value}{q:Rat}(h:b4 H w q):b4 ab w q:=let ⟨b,a,c⟩:=h;⟨b,a,k.cf b _ c⟩
theorem gp.set{A:Nat->Prop}{v eN:Value}{l:List cz}(h:gp H A aH v l){k:Nat}(av:k<l.length)(x:cz)(g:j8 H A eN x.d)(j:∀b,A b->b≠aH):
 ∃L ea,v=.slice (some ⟨aH,0,none⟩) l.length l.length/\H.get aH=some (.cells L (.n 5))/\L.length=l.length*5/\setCells L (k*5) (x.cells eN)=some ea/\gp (H.put aH (.cells ea (.n 5))) A aH v (l.set k x):=by
 rcases h with⟨_,e⟩ | ⟨rfl,L,cD,f,dS,gf⟩
 ·grind
 ·have h:=dS.1;have a:k*5+5<=l.length*5:=ω
  have m:∃ea,setCells L (k*5) (x.cells eN)=some ea:=by
   unfold setCells;rw[cJ,hd (show k*5+(x.cells eN).length<=L.length by simp[cz.cells];omega)];exact⟨_,rfl⟩
  let⟨ea,c⟩:=m;let⟨_,_,n⟩:=vf c;have o:(x.cells eN).length=5:=rfl;have d:∀b y,A b->H.get b=some y->A b/\(H.put aH (.cells ea (.n 5))).get b=some y:=λb y a e=>⟨a,by rw[a6 (j b a)];exact e⟩;refine⟨L,ea,rfl,cD,h,c,.inr ⟨σ',ea,bO,λj=>if j=k then x.cells eN else f j,⟨by simp;omega,λj a=>?_⟩,λi c=>?_⟩⟩
  ·have a:j<l.length:=φ a
   by_cases e:j=k
   ·grind
   ·simp[e];refine⟨(dS.2 j a).1,λq b=>?_⟩;rw[n,o,aw ω];exact(dS.2 j a).2 q b
  ·have b:i<l.length:=φ c
   by_cases e:i=k
   ·subst e;simp[List.getElem_set_self];exact⟨eN,rfl,g.imp d⟩
   ·simp[List.getElem_set_ne (Ne.symm e),e];exact(gf i b).imp λeN q=>⟨q.1,q.2.imp d⟩
theorem fY.node(h:fY H p cL dF deep c3 s aX aH cI)(g:bl pm H){k:Nat}(av:k<s.tree.length)(x:cz){eN:Value}(b:j8 H (np p aX aH) eN x.d):
 ∃L ea d f,H.get p=some (.cells (cL::dF::.bool deep::.int .i64 (c3:Int)::d::.slice (some ⟨aH,0,none⟩) s.tree.length s.tree.length::f) (.t h1))/\H.get aH=some (.cells L (.n 5))/\L.length=s.tree.length*5/\setCells L (k*5) (x.cells eN)=some ea/\
  fY (H.put aH (.cells ea (.n 5))) p cL dF deep c3 {s with tree:=s.tree.set k x} aX aH cI/\eW pm p aX aH aX aH H (H.put aH (.cells ea (.n 5))):=by
 let⟨i,j,c,_,l,m,a,o,q,r,t⟩:=h;obtain⟨L,ea,rfl,d,v,w,z⟩:=q.set av x b λb a=>a.2.2;have q:p≠aH:=λe=>π
 have f:∀b y,e7 p aX aH b->H.get b=some y->e7 p aX aH b/\(H.put aH (.cells ea (.n 5))).get b=some y:=λb y a e=>⟨a,by rw[a6 a.2.2];exact e⟩;have u:=aC.put (n:=0) (.refl g) (Nat.zero_le _) d σ' (.cells ea (.n 5));refine⟨L,ea,c,_,a,d,v,w,⟨i,⟨?_,_,bO⟩,c,_,l,m,by rw[a6 q];simpa using a,o.imp f λ_ e=>?_,φ z,r.imp (λb y a e=>⟨a,(f b y a.f e).2⟩),t.up u⟩,⟨u.h,u.next,λb _ h=>a6 h.2.2,u.cf,.inl rfl,.inl rfl⟩⟩
 ·by_cases e:aX=aH
  ·simp_all
  ·rw[a6 e];exact j.1
 ·by_cases a:aX=aH
  ·grind
  ·rw[a6 a];exact e
abbrev JO:Nat:=T.acC
theorem getD_at{cs:List a1}{i:Nat}(az:i<cs.length):cs[i]? = some (cs.getD i bY):=by
 grind
theorem Vp(f:nw X)(g:bl pm H)(aL:pm.ah<=p)(h:fY H p cL dF deep c3 s aX aH cI){k i:Nat}(W:hh H (e7 p aX aH) jS cs.length 5 (gA cs))(av:k<s.tree.length)(az:i<cs.length)(aM:cs.length<=1000){w:Value}{v:Rat}(hw:b4 H w v)
 (sv:bo v=true) (sf:bo (v.floor:Rat)=true) (aY:bo ((v.floor:Rat)+1)=true) (hn:s.tree.length<=900) (ht:s.todo.length<=900):
 Call X pm F.sl [.pointer (some ⟨p,0,none⟩),.agg #[.int .i64 (k:Int),jS],.int .i64 (i:Int),w] H λ_ ab=>∃e9 fE aZ,fY ab p cL dF deep c3 (s.branch k cs i v) e9 fE aZ/\eW pm p aX aH e9 fE H ab:=by
 refine Call.W f.sl rfl λ_ hQ=>?_;let⟨cb,Y,Z⟩:=W.form;let⟨_,_,e2,_,a1⟩:=id W;subst Z;cases e2;have aZ:cb≠none:=λZ=>π
 cases cb with
 | none=>grind
 | some _=>
 obtain⟨b,N,y,a6,rfl,_,hy,a7,_,a8⟩:=a1 _ rfl;obtain⟨_,aN,_,aO,rfl⟩:=a8 i az;rw[getD_at az]at aO;cases aO;obtain⟨c,hc⟩:=ε (cs.getD i bY);rw[<-hc]at aN;have a_:bB a6 (N+i*5) 5=some [ak c.name,ak c.low,ak c.up,ak c.cost,.bool c.int]:=aN;obtain⟨l,ao⟩:=ε H.next;obtain⟨H1,aa⟩:=ε (H.new (.cells [.int .i64 (k:Int),.slice (some ⟨b,N,none⟩) cs.length Y] (.t ma)));have k1:K pm H H1:=by rw[aa];exact K.new g _
 have g1:=k1.h;have n1:H1.next=l+1:=by rw[aa,ao];rfl
 have aN:H1.get l=some (.cells [.I (k:Int),.slice (some ⟨b,N,none⟩) cs.length Y] (.t ma)):=by rw[aa,ao];exact cc
 simp[g.pick,g.make,ptr,<-ao,<-aa,-L5,-L4];refine al.of (aq:=[w]) (Un f.toEL g1 (hw.up k1).of sv) ?_;rintro r H2 ⟨k2,ba⟩;have O:=k2.h;have aa:=k2.next;have aP:=k1.trans k2;have aQ:=k2.some g1 aN;have bb:=aP.some g hy;obtain⟨j,B⟩:=ε H2.next;have bc:pm.may j=true:=O.may ω;have bd:∀aa,(H2.new aa).get j=some aa:=λaa=>by simp_all
 obtain⟨t,ad⟩:=ε ((H2.new (.cells [.string ⟨#[]⟩,.string ⟨#[]⟩,.string ⟨#[]⟩,.string ⟨#[]⟩,.bool false] (.t JO))).put j (.cells [ak c.name,ak c.low,ak c.up,ak c.cost,.bool c.int] (.t JO)));have k3:K pm H2 t:=by rw[ad,B];exact gh O _ _
 have q:=k3.h;have n3:t.next=j+1:=by rw[ad,B];rfl
 have ae:=aP.trans k3;have ar:t.get j=some (.cells [ak c.name,ak c.low,ak c.up,ak c.cost,.bool c.int] (.t JO)):=by rw[ad];exact bO
 have au:=k3.some O aQ;have af:=ba.up k3;have av:=h.k g ae;simp[aQ,az,bb,a7,a_,O.pick,O.make,ptr,bA,<-B,bd,bc,setCells,<-ad,-L3];refine cx.of q.ah rfl ?_;obtain⟨z,P⟩:=ε t.next;have Q:K pm t (t.up 11):=(K.refl q).up 11;have aw:=λu=>(by rw[P];exact q.none u:(t.up 11).get (z+u)=none);have O:=(by rw[P];exact q.O:(t.up 11).get z=none);rw[<-P];simp[b8,aw,O,au,ar];refine cY Q.h (aq:=[r]) (by simp[aw]) rfl (λcu d=>g' d (mn f.toEL d (af.up Q).of sf)) ?_;rintro _ _-⟨rfl,rfl⟩;simp;refine fG Q.h (aq:=[.slice (some ⟨b,N,none⟩) cs.length Y,.I (i:Int),ak c.low,ak (bk (v.floor:Rat))]) (by simp[aw]) rfl (λcu d=>ND f d (W.e.imp ((ae.trans Q).ext g) λ_ _ _ h=>h) az aM) ?_;rintro aa _ O h4;have R:=O.h;have G:=K.trans Q O;have ax:=O.res q;rw[<-P]at ax;have bf:=av.k q G;have Q:(t.up 11).next=z+11:=by rw[P];rfl
 have t:=O.next;have t:q1 cs i c.low (bk (v.floor:Rat))=h2 cs i (bk (v.floor:Rat)):=by rw[hc];rfl
 rw[t]at h4;have bg:=av.new q h4 ω;let⟨_,_,_⟩:=av.lt q;let⟨_,_,_⟩:=h.lt g;simp;refine d'.fixed (aq:=[.P p,aa]) (by simp[ax]) σ' σ' rfl (E2 f (R.perm rfl R.ah) aL bf bg ω ω) ?_;rintro _ I ⟨bh,bj,_,rfl,ay,e⟩;have e:=e.perm (cu:=pm) g.num (by have:=e.next;grind);have a:=e.h;have t:=e.next;have f5:e7 p aX aH l:=⟨ω,ω,ω⟩;have t:e7 p aX aH j:=⟨ω,ω,ω⟩;have S:=e.some R f5 (G.some q au);have ag:=e.some R t (G.some q ar);have ai:=(af.up G).S6 e;have bl:=e.S7 R (W.imp (λb y q Z=>⟨q,(K.trans ae G).some g Z⟩) λ_ _ _ h=>h) λ_ _ _ h=>h;have q:∀m,c6 (dj m [r]) [l]=true:=λm=>jT af au m;have t:∀m,c6 (dj m [r]) [j]=true:=λm=>jT af ar m;simp[b3,bZ, cU,q,t,show l<z by omega,show j<z by omega,-tO];refine⟨(e.get _ ω ⟨ω,ω,ω⟩).trans (ax 10 δ),?_⟩;have q:=ay.lt a;have q:=a.lt S;have q:=a.lt ag;refine cx.of a.ah rfl ?_;obtain⟨T,C⟩:=ε I.next;have kV:K pm I (I.up 13):=(K.refl a).up 13;have q:=λu=>(by rw[C];exact a.none u:(I.up 13).get (T+u)=none);have t:=(by rw[C];exact a.O:(I.up 13).get T=none);have z:(I.up 13).next=T+13:=by rw[C];rfl
 rw[<-C];simp[b8,q,t,S,ag,-tO];refine cY kV.h (aq:=[.I 1]) (by simp[q]) rfl (λcu d=>ml f.toEL d (n:=1) δ δ) ?_;rintro on _ J aj;have t:=J.h;have L:=K.trans kV J;have q:=J.res a;rw[<-C]at q;have z:((1:Int):Rat)=1:=rfl;rw[z]at aj;simp[-tO];have bm:bo (1:Rat)=true:=by decide +kernel
 refine cY t (aq:=[r,on]) (by simp[q]) rfl (λcu d=>n8 f.toEL d (ai.up L).of aj.of sf bm) ?_;rintro aA _ U aB;have g7:=U.h;have an:=K.trans L U;have aC:=(K.trans J U).res a;rw[<-C]at aC;simp[-tO];refine cY g7 (aq:=[aA]) (by simp[aC]) rfl (λcu d=>g' d (mn f.toEL d aB.of aY)) ?_;rintro _ _-⟨rfl,rfl⟩;simp[-tO];refine fG g7 (aq:=[.slice (some ⟨b,N,none⟩) cs.length Y,.I (i:Int),ak (bk ((v.floor:Rat)+1)),ak c.up]) (by simp[aC]) rfl (λcu d=>ND f d (bl.e.imp (an.ext a) λ_ _ _ h=>h) az aM) ?_;rintro z _ q t;have g8:=q.h;have aR:=K.trans an q;have aD:=(K.trans J (K.trans U q)).res a;rw[<-C]at aD;have bn:=ay.k a aR;have C:q1 cs i (bk ((v.floor:Rat)+1)) c.up=ig cs i (bk ((v.floor:Rat)+1)):=by rw[hc];rfl
 rw[C]at t;have c:=J.next;have c:=U.next;have c:=q.next;have bp:=ay.new a t ω;simp[-tO];refine d'.fixed (aq:=[.P p,z]) (by simp[aD]) σ' σ' rfl (E2 f (g8.perm rfl g8.ah) aL bn bp (by simp[bV.U];omega) (by simp[bV.U];omega)) ?_;rintro _ M ⟨aS,V,bq,rfl,aE,D⟩;have D:=D.perm (cu:=pm) g.num (by have:=D.next;grind);have x:=D.h;have c:=D.next;have aF:=(eW.p7 (p:=p) (aX:=bh) (aH:=bj) aR).trans D;have c:=e.GV ω f5;have aG:=aF.some a c S;have aI:=ai.S6 aF;have d3:∀m,c6 (dj m [r,on]) [l]=true:=λm=>kI (ai.up L) aj (L.some a S) m;have d4:∀m,c6 (dj m [r,on]) [j]=true:=λm=>kI (ai.up L) aj (L.some a ag) m;have d5:∀m,c6 (dj m [aA]) [l]=true:=λm=>jT aB (an.some a S) m;have d6:∀m,c6 (dj m [aA]) [j]=true:=λm=>jT aB (an.some a ag) m;have d7:∀m,dj m [Value.int .i64 1]=[]:=λm=>rfl;simp[b3,bZ,fT,cU,d3,d4,d5,d6,d7,show l<T by omega,show j<T by omega];refine⟨(D.get _ ω ⟨ω,ω,ω⟩).trans (aD 12 δ),?_⟩;have a:k<((s.U (h2 cs i (bk (v.floor:Rat)))).U (ig cs i (bk ((v.floor:Rat)+1)))).tree.length:=by simp[bV.U];omega
 have E:K pm M (M.up 14):=(K.refl x).up 14;have aT:=E.h;let⟨br,L',_,_,B,aU,bs,bt,aV,aW⟩:=(aE.k x E).node aT a ⟨i,bk (v.floor:Rat),s.tree.length,s.tree.length+1,[]⟩ (eN:=.Z) ⟨.nil,λ_ _ _ _ h=>(by cases h)⟩;have a:((s.U (h2 cs i (bk (v.floor:Rat)))).U (ig cs i (bk ((v.floor:Rat)+1)))).tree.length=s.tree.length+2:=by simp[bV.U]
 rw[a]at B bs;refine cx.of x.ah rfl ?_;obtain⟨y,aJ⟩:=ε M.next;have aK:=λu=>(by rw[aJ];exact x.none u:(M.up 14).get (y+u)=none);have c:=(by rw[aJ];exact x.O:(M.up 14).get y=none);rw[<-aJ];have a:=B;simp[r4]at a aU;simp[b8,aK,c,aG,a];refine cY aT (aq:=[r]) (by simp[aK]) rfl (λcu d=>g' d (mn f.toEL d (aI.up E).of sf)) ?_;rintro _ _-⟨rfl,rfl⟩;obtain⟨A,hA⟩:=ε ((M.up 14).put V (.cells L' (.n 5)));have a:∀m,c6 (dj m [r]) [p]=true:=λm=>jT (aI.up E) B m;have c:∀m,c6 (dj m [r]) [l]=true:=λm=>jT (aI.up E) (E.some x aG) m;have d:(((s.U (h2 cs i (bk (v.floor:Rat)))).tree.length:Nat):Int)=(s.tree.length:Int)+1:=by simp[bV.U]
 have f:setCells br (k*5) [.I (i:Int),ak (bk (v.floor:Rat)),.I (s.tree.length:Int),.I ((s.tree.length:Int)+1),.Z]=some L':=bt;have j:=aE.lt x;have j:=λo=>ej (ah:=pm.ah) (ok:=pm.ok) (o:=o) (b:=V) (by have:=aE.ge;omega);have m:=x.lt aG;rw[<-hA]at aV aW;simp[aK,fill,d,show k<s.tree.length+2 by omega,bA,aU,f,j,<-hA,b3,bZ, cU,a,c,show p<y by omega,show l<y by omega,show V<y by omega];refine hQ _ _ _ ?_;simp;have a:eW pm p aX aH aS V H A:=(((eW.p7 (p:=p) (aX:=aX) (aH:=aH) (K.trans ae G)).trans e).trans aF).trans ((eW.p7 E).trans aW);exact⟨aS,V,⟨bq,aV⟩,a⟩
end Go.Dam.C
namespace Go.Dam.C
open Go Go.Dam
variable{X:aA}{pm:Perm}{H ab bX ai:ae}{n:Nat}
theorem V'{aX cI k n ah dZ kG:Nat}{fJ:List Nat}{L:List Value}(h:H.get aX=some (.cells L (.n 2)))(g:L.length=cI*2)(av:k+1+n<=cI)(i:∀j,j<(k+1+n)*2->∃v,L[j]? = some v/\dd v=true)(l:Perm.may ⟨ah,fJ,some dZ⟩ aX=true):
 ∃a ab F M,(fz 2 (.slice (some ⟨aX,(k+1)*2,none⟩) n kG) λnew m=>fj 2 32 (.slice (some ⟨aX,0,none⟩) k cI) new m).runT ⟨ah,fJ,some dZ⟩ H=some (.slice (some ⟨aX,0,none⟩) (k+n) cI,ab,F,M)/\ab.get aX=some (.cells a (.n 2))/\a.length=cI*2/\
  (∀b,b≠aX->ab.get b=H.get b)/\ab.next=H.next/\(∀x∈F,x=aX)/\(∀j,j<(k+n)*2->a[j]? = if j<k*2 then L[j]? else L[j+2]?)/\(∀{c:Nat} {ai:ae} {pm:Perm},aC pm c ai H->c<=aX->aC pm c ai ab):=by
 have d:bB L ((k+1)*2) (n*2)=some ((L.drop ((k+1)*2)).take (n*2)):=pW ω;by_cases e:n=0
 ·subst e;refine⟨L,H,[aX],[],?_,h,g,λ_ _=>rfl,rfl,σ',λj _=>by rw[aL ω],λu _=>u⟩;unfold fz;simp[bf.runT,h,rowOf,d];unfold fj;simp[bf.runT]
 ·have m:((L.drop ((k+1)*2)).take (n*2)).all dd=true:=by
   rw[eA];intro v c;obtain⟨j,b,rfl⟩:=tp c;have c:j<n*2:=by simp at b;omega
   let⟨v,f,g⟩:=i ((k+1)*2+j) ω;have:((L.drop ((k+1)*2)).take (n*2))[j]? = some v:=by rw[jY c,jZ];exact f
   rw[en b]at this;rw[jH this];exact g
  have c:((L.drop ((k+1)*2)).take (n*2)).length=n*2:=by simp;omega
  have o:∃g,setCells L (k*2) ((L.drop ((k+1)*2)).take (n*2))=some g:=by
   unfold setCells;rw[cJ,hd (by rw[c];omega)];exact⟨_,rfl⟩
  let⟨a,f⟩:=o;let⟨_,_,p⟩:=vf f;refine⟨a,H.put aX (.cells a (.n 2)),[aX,aX],[aX],?_,bO,ω,λb a=>a6 a,rfl,σ',λj _=>?_,λu a=>aC.put u a h σ' _⟩
  ·unfold fz;simp[bf.runT,h,rowOf,d];unfold fj;simp[e,show k+n<=cI by omega,putRow,h,m,f,l]
  ·rw[p,c];by_cases a:j<k*2
   ·rw[aL a,aw ω]
   ·rw[aw a,aL ω,jY ω,jZ];congr 1;omega
theorem S8{c off l h m cap:Nat}{cs:List Value}{IN:Perm}(a:H.get c=some (.cells cs (.n 2)))(b:l<=h)(d:h<=m)(e:m<=cap):
 (jU 2 (some ⟨c,off,none⟩) l h m cap).runT IN H=some (.slice (some ⟨c,off+l*2,none⟩) (h-l) (m-l),H,[c],[]):=by
 unfold jU;simp[b,d,e,a,bf.runT]
theorem Ua(x:Has X F.pa C.pa)(g:bl pm H){aX cI k len:Nat}{L:List Value}(h:H.get aX=some (.cells L (.n 2)))(y:L.length=cI*2)(A:len<=cI)(av:k<len)(aY:len<=1000000)(B:∀j,j<len*2->∃v,L[j]? = some v/\dd v=true)(p:pm.ah<=aX):
 Call X pm F.pa [.slice (some ⟨aX,0,none⟩) len cI,.int .i64 (k:Int),.int .i64 ((k:Int)+1)] H λr ab=>r=.slice (some ⟨aX,0,none⟩) (len-1) cI/\∃ea,ab.get aX=some (.cells ea (.n 2))/\ea.length=cI*2/\(∀b,b≠aX->ab.get b=H.get b)/\(∀j,j<(len-1)*2->ea[j]? = if j<k*2 then L[j]? else L[j+2]?)/\aC pm aX H ab:=by
 refine Call.W x rfl λ_ C=>?_;have x:=g.lt h;obtain⟨z,e⟩:=ε H.next;have D:K pm H (H.up 8):=(K.refl g).up 8;have q:=λj=>(by rw[e];exact g.none j:(H.up 8).get (z+j)=none);have E:=(by rw[e];exact g.O:(H.up 8).get z=none);obtain⟨a,G⟩:=ε (len-(k+1));let⟨x,f,F,_,I,i,_,s,_,J,M,N⟩:=V' (H:=H.up 8) (aX:=aX) (cI:=cI) (k:=k) (n:=a) (ah:=pm.ah) (dZ:=z+6) (kG:=cI-(k+1)) (fJ:=pm.ok) (L:=L) h y ω (λj O=>B j ω) (ej p);have P:∀j,f.get (z+j)=none:=λj=>by rw[s _ ω];exact q j
 have Q:∃c,setCells x ((k+a)*2) [.I 0,.Z]=some c:=by
  unfold setCells;rw[cJ,hd (by simp;omega)];exact⟨_,rfl⟩
 let⟨c,t⟩:=Q;let⟨_,_,R⟩:=vf t;obtain⟨S,d⟩:=ε (f.put aX (.cells c (.n 2)));have T:pm.may aX=true:=ej p;have p:wr .i64 ((k:Int)+1)=(k:Int)+1:=cE;have u:c8 (some (Value.int .i64 ((k:Int)+1)))=some (k+1):=by
  have:((k:Int)+1)=((k+1:Nat):Int):=σ'
  rw[this];simp[c8]
 have p:k+a=len-1:=ω
 have p:aC pm aX H f:=N (D.mono ω) (bc _);have U:aC pm aX H S:=by rw[d];exact aC.put p (bc _) i σ' _
 have V:=DM (pm:=pm) (cn:=2) (off:=0) (m:=len) (cap:=cI) h (.inl rfl) (ω:k<=k+1) ω A;have v:=S8 (H:=H.up 8) (off:=0) (l:=0) (h:=k) (m:=cI) (cap:=cI) (IN:=⟨pm.ah,pm.ok,some (z+2)⟩) h ω ω (bc _);have o:=S8 (H:=H.up 8) (off:=0) (l:=k+1) (h:=len) (m:=cI) (cap:=cI) (IN:=⟨pm.ah,pm.ok,some (z+5)⟩) h ω ω (bc _);rw[<-G]at o;simp[Nat.zero_mul,Nat.zero_add,Nat.sub_zero]at v o;simp[u,V,show ¬(k:Int)=(k:Int)+1 by omega,-DF];refine cx.of g.ah rfl ?_;rw[<-e];simp[b8,q,E,u,v,o,I,P,show aX<z by omega,b3,bZ, -fz,-DF];refine⟨λx e=>.inl (.inl (.inl (by have:=J x e;omega))),?_⟩;have w:=DM (pm:=pm) (cn:=2) (off:=0) (l:=k+a) (h:=len) (m:=cI) (cap:=cI) i (.inl rfl) ω ω (bc _);rw[show len-(k+a)=1 by omega,Nat.zero_add]at w;have e:c8 (some (Value.int .i64 ((k:Int)+(a:Int))))=some (k+a):=by
  have:((k:Int)+(a:Int))=((k+a:Nat):Int):=σ'
  rw[this];simp[c8]
 simp[e,w,y1,times,i,t,T,<-d];refine C _ _ _ ?_;simp;refine⟨ω,c,by rw[d];exact bO,ω,λb a=>?_,λj O=>?_,U⟩
 ·rw[d,a6 a,s b a];rfl
 ·rw[R,aw ω];exact M j ω
variable{p aX aH cI c3:Nat}{cL dF:Value}{deep:Bool}{s:bV}
theorem WR{α:Type}{l:List α}{k i:Nat}(av:k<l.length)(az:i<(l.eraseIdx k).length):∃h,(l.eraseIdx k)[i]=l[if i<k then i else i+1]'h:=by
 have a:(l.eraseIdx k).length=l.length-1:=by rw[List.length_eraseIdx,aL av]
 have h:(if i<k then i else i+1)<l.length:=by split<;>omega
 refine⟨h,?_⟩;rw[List.getElem_eraseIdx];by_cases e:i<k<;>simp[e]
theorem Y3(S:nw X)(g:bl pm H)(aj:pm.ah<=p)(h:fY H p cL dF deep c3 s aX aH cI)(T:s.todo≠[])(hn:s.todo.length<=1000):
 Call X pm F.sr [.pointer (some ⟨p,0,none⟩)] H λr ab=>∃x z,s.todo[lr deep s.todo.length]? = some x/\r=.agg #[.int .i64 (x.1:Int),z]/\hh ab (e7 p aX aH) z x.2.length 5 (gA x.2)/\fY ab p cL dF deep c3 (s.del (lr deep s.todo.length)) aX aH cI/\eW pm p aX aH aX aH H ab:=by
 refine Call.W S.sr rfl λan hQ=>?_;obtain⟨⟨ao,ar⟩,au,_,B,D,E,a,av,ax,ay,az⟩:=h;have lp:=g.lt a;have aU:0<s.todo.length:=rT.2 T
 rcases av with⟨_,e,_⟩ | ⟨rfl,WW,L,a',G5,G6⟩
 ·exact absurd e T
 have T:=g.lt a';have U:p≠aX:=λe=>by rw[<-e,a]at a';cases a'
 obtain⟨k,m⟩:∃k,k=lr deep s.todo.length:=⟨_,rfl⟩;have n:k<s.todo.length:=by rw[m];unfold lr;split<;>omega
 obtain⟨x,V⟩:∃x,x=s.todo[k]:=⟨_,rfl⟩;obtain⟨W,z,aA,P⟩:=G6 k n;rw[<-V]at W P;have aB:bB L (k*2) 2=some [.int .i64 (x.1:Int),z]:=by
  rw[pW (by omega)];congr 1;apply n4;intro j
  rcases j with _ | _ | j
  ·rw[jY (by decide),jZ];simpa using W
  ·rw[jY (by decide),jZ];simpa using aA
  ·rw[hc (by simp;omega)];simp
 have aD:∀j,j<s.todo.length*2->∃z,L[j]? = some z/\dd z=true:=λj Y=>by
  obtain⟨g,i,h,l⟩:=G6 (j/2) (by omega)
  rcases Nat.mod_two_eq_zero_or_one j with e | e
  ·rw[show j/2*2=j by omega]at g;exact⟨_,g,rfl⟩
  ·rw[show j/2*2+1=j by omega]at h;obtain⟨b,_,e⟩:=l.form;exact⟨i,h,by rw[e];rfl⟩
 obtain⟨d,G⟩:∃b,b=H.next:=⟨_,rfl⟩;obtain⟨c,t⟩:∃A,A=H.new (.cells [.int .i64 0,.slice none 0 0] (.t ma)):=⟨_,rfl⟩;have I:K pm H c:=by rw[t];exact K.new g _
 have f:=I.h;have j:c.next=d+1:=by rw[t,G];rfl
 have aE:c.get d=some (.cells [.int .i64 0,.slice none 0 0] (.t ma)):=by rw[t,G];exact cc
 have J:=I.some g a;have Z:=I.some g a';obtain⟨o,M⟩:∃b,b=c.next:=⟨_,rfl⟩;have aG:pm.may d=true:=g.may (by omega);have aI:pm.may o=true:=f.may (by omega);have aJ:∀x,(c.new x).get o=some x:=λx=>by rw[M];exact cc
 obtain⟨u,v,aK⟩:=P.form;subst aK;obtain⟨Q,N⟩:∃A,A=(c.new (.cells [.int .i64 0,.slice none 0 0] (.t ma))).put o (.cells [.int .i64 (x.1:Int),.slice u x.2.length v] (.t ma)):=⟨_,rfl⟩;have j:K pm c Q:=by rw[N,M];exact gh f _ _
 have z:=j.h;have aa:=I.trans j;have I:Q.next=o+1:=by rw[N,M];rfl
 have ad:=j.some f J;have I:=j.some f Z;have aM:=j.some f aE;have aN:Q.get o=some (.cells [.int .i64 (x.1:Int),.slice u x.2.length v] (.t ma)):=by rw[N];exact bO
 have Q:wr .i64 ((k:Int)+1)=(k:Int)+1:=cE;have aO:wr .i64 ((s.todo.length:Int)-1)=((s.todo.length-1:Nat):Int):=by rw[cE];omega
 have ae:∀j,aF 0 j=some (.pointer (some ⟨p,0,none⟩))->aF 2 j=some (.pointer (some ⟨d,0,none⟩))->aF 3 j=some (.int .i64 (k:Int))->wp X pm (.code C.AR) j c [] an:=λj c l2 j=>by
  simp[c,j,J,n,Z,aB,f.pick,f.make,ptr,bA,<-M,aJ,aI,setCells,<-N,Q,ad,-Md];refine al.of (aq:=[.slice (some ⟨aX,0,none⟩) s.todo.length cI,.int .i64 (k:Int),.int .i64 ((k:Int)+1)]) (Ua S.pa z I G5 WW n (by omega) aD (by omega)) ?_;rintro _ X ⟨rfl,L',aF,aP,C,ab,L⟩;have c:=L.h;have c:=L.next;have af:=(C p U).trans ad;obtain⟨r,i⟩:∃A,A=X.put p (.cells [cL,dF,.bool deep,.int .i64 (c3:Int),.slice (some ⟨aX,0,none⟩) (s.todo.length-1) cI,B,.int .i64 s.L.st,ak s.L.val,D,.slice none 0 0,.slice none 0 0,E] (.t h1)):=⟨_,rfl⟩;have aQ:r.get p=some (.cells [cL,dF,.bool deep,.int .i64 (c3:Int),.slice (some ⟨aX,0,none⟩) (s.todo.length-1) cI,B,.int .i64 s.L.st,ak s.L.val,D,.slice none 0 0,.slice none 0 0,E] (.t h1)):=by rw[i];exact bO
  have aR:r.get o=some (.cells [.int .i64 (x.1:Int),.slice u x.2.length v] (.t ma)):=by rw[i,a6 (by omega),C _ (by omega)];exact aN
  have ag:r.get d=some (.cells [.int .i64 0,.slice none 0 0] (.t ma)):=by rw[i,a6 (by omega),C _ (by omega)];exact aM
  obtain⟨l,q⟩:∃A,A=r.put d (.cells [.int .i64 (x.1:Int),.slice u x.2.length v] (.t ma)):=⟨_,rfl⟩;have c:l.get d=some (.cells [.int .i64 (x.1:Int),.slice u x.2.length v] (.t ma)):=by rw[q];exact bO
  have d:pm.may p=true:=ej aj;simp[af,d,setCells,<-i,aR,ag,aG,bB,bA,<-q, l2];refine hQ _ _ _ ?_;simp[ft,c,bB,bA,l2];have c:aC pm p H r:=by rw[i];exact aC.put ((aC.trans (aC.mono aa (by omega)) (aC.mono L (by omega)):aC pm p H X)) (bc _) af (by simp) _
  have F:aC pm p H l:=by rw[q];exact aC.put c (by omega) ag (by simp) _
  have K:∀b,b<H.next->b≠p->b≠aX->l.get b=H.get b:=λb c d f=>by
   rw[q,a6 (by omega),i,a6 d,C b f];exact aa.get b c
  have w:∀b y,e7 p aX aH b->H.get b=some y->e7 p aX aH b/\l.get b=some y:=λb y h e=>⟨h,by rw[K b (g.lt e) h.1 h.2.1];exact e⟩;have R:l.get aX=some (.cells L' (.n 2)):=by rw[q,a6 (by omega),i,a6 (Ne.symm U)];exact aF
  have ah:l.get p=some (.cells [cL,dF,.bool deep,.int .i64 (c3:Int),.slice (some ⟨aX,0,none⟩) (s.todo.length-1) cI,B,.int .i64 s.L.st,ak s.L.val,D,.slice none 0 0,.slice none 0 0,E] (.t h1)):=by rw[q,a6 (by omega)];exact aQ
  have aS:s.todo[lr deep s.todo.length]? = some x:=by rw[<-m,V,en n]
  have ai:(s.todo.eraseIdx k).length=s.todo.length-1:=by rw[List.length_eraseIdx,aL n]
  obtain⟨f,c⟩:=au.2;have aT:∃y,l.get aH=some y:=by
   by_cases e:aH=p
   ·rw[e];exact⟨_,ah⟩
   ·by_cases d:aH=aX
    ·rw[d];exact⟨_,R⟩
    ·exact⟨f,by rw[K aH (g.lt c) e d];exact c⟩
  rw[<-m];refine⟨x.1,x.2,?_,_,⟨rfl,rfl⟩,P.imp w λ_ _ _ h=>h,⟨⟨ao,ar⟩,⟨⟨_,R⟩,aT⟩,_,B,D,E,ah,?_,?_,ay.imp λb y a e=>⟨a,(w b y a.f e).2⟩,az.up F⟩,⟨F.h,F.next,λb a h=>K b a h.1 h.2.1,F.cf,.inl rfl,.inl rfl⟩⟩
  ·rw[m];exact aS
  ·refine .inr ⟨by simp[bV.del,ai],by simp only[bV.del];omega,L',R,aP,λi c=>?_⟩;simp only[bV.del]at c|-;obtain⟨Y,e⟩:=WR n c;rw[ai]at c;rw[e];obtain⟨c,g,d,f⟩:=G6 _ Y;rw[ab (i*2) (by omega),ab (i*2+1) (by omega)];by_cases j:i<k
   ·rw[aL (show i*2<k*2 by omega),aL (show i*2+1<k*2 by omega)];simp only[j,if_true]at c d f|-;exact⟨c,g,d,f.imp w λ_ _ _ h=>h⟩
   ·rw[aw (show ¬i*2<k*2 by omega),aw (show ¬i*2+1<k*2 by omega)];simp only[j,if_false]at c d f|-;rw[show(i+1)*2=i*2+2 by omega]at c;rw[show(i+1)*2+1=i*2+1+2 by omega]at d;exact⟨c,g,d,f.imp w λ_ _ _ h=>h⟩
  ·refine ax.imp (λb y a e=>⟨a,(w b y a.f e).2⟩) λ_ e=>?_;have s:aH≠p:=λh=>by rw[h,a]at e;cases e
   have p:aH≠aX:=λh=>by rw[h,a']at e;cases e
   rw[K aH (g.lt e) s p];exact e
 cases O:deep with
 | false=>
   simp[g.pick,g.make,ptr,<-G,<-t,J,O,-AR];refine ae _ (by simp) (by simp) ?_;have:k=0:=by rw[m,O];rfl
   simp[this]
 | true=>
   simp[g.pick,g.make,ptr,<-G,<-t,J,O,aO,-AR];refine ae _ (by simp) (by simp) ?_;have:k=s.todo.length-1:=by rw[m,O];rfl
   simp[this]
end Go.Dam.C
namespace Go.Dam.C
open Go Go.Dam
variable{X:aA}{pm cu:Perm}{H ab bX ai:ae}{n:Nat}
theorem acf{aa:ar}{T:bu}(h:c5 aa)(b:hv aa.j (e6 aa) T):bI e0 (aa.P T.v):=by
 have c:=Q' h.e6 b.inv b.sR h.uY.v1 (λk d=>(b.at' k d).bI h.uY) h.uj.p h.uj.le h.uj.z;refine bI.mono (a:=aa.j.n*(hN aa.a.length*jP aa.j.n ((aa.j.n*hN aa.a.length)^aa.j.n) (mm aa.a.length) eC)+jP aa.j.n ((aa.j.n*hN aa.a.length)^aa.j.n) (mm aa.a.length) eC) c ?_;have b:=h.n;have c:hN aa.a.length<=bS 210:=by
  unfold hN;rw[show eC*eC^aa.a.length=eC^(aa.a.length+1) by rw[eB,eZ],zH,fQ];exact hX δ ω
 have d:jP aa.j.n ((aa.j.n*hN aa.a.length)^aa.j.n) (mm aa.a.length) eC<=bS 1660:=a8 (gj _ _) (M7 b);have e:hN aa.a.length*jP aa.j.n ((aa.j.n*hN aa.a.length)^aa.j.n) (mm aa.a.length) eC<=bS 1870:=by
  have:=gk c d;rwa [pn (δ:210+1660=1870)]at this
 have c:aa.j.n*(hN aa.a.length*jP aa.j.n ((aa.j.n*hN aa.a.length)^aa.j.n) (mm aa.a.length) eC)<=6*bS 1870:=gk b e;have b:bS 1660<=bS 1870:=j4 δ;have b:e0=bS 30*bS 1870:=(pn (δ:30+1870=1900)).symm;have b:7<=bS 30:=a8 (show 7<=bS 1 by rw[fQ];decide) (j4 δ);have c:=fV (bS 1870) b;grind
theorem DO{aa:ar}(h:c5 aa)(d:aa.I=true){a:cW}(ax:fZ aa a)(b:a.st=1):isNum a.val=true/\a.val.length<=10000:=by
 cases ax with
 | inf _ _ _ _ _=>cases b
 | cB _ _ _ _ _=>cases b
 | opt T a _=>
   have b:=a.1.1;have c:∀j,j<aa.a.length->bI e0 (T.v j):=λj a=>me (b.ud h ω);have e:il aa T=(List.range aa.a.length).map λj=>bk (T.v j):=rfl;have f:gy aa (il aa T)=some (aa.P T.v):=by
    unfold gy;rw[e,aL (td d c),Ge λj a=>o9 a (c j a)]
   have a:=acf h b;show isNum (tK aa (il aa T))=true/\(tK aa (il aa T)).length<=10000;unfold tK;rw[f];exact⟨a.isNum,a.len⟩
theorem Tc{aa:ar}(h:c5 aa)(b:aa.I=true){a:cW}(ax:fZ aa a)(c:a.st=1):a.x.length=aa.a.length/\a.x.all isNum=true/\∀s∈a.x,s.length<=10000:=by
 let⟨a,_,_⟩:=ax.R0 h b c;unfold dJ at a;grind
variable{p aX aH cI e9 fE c3:Nat}{cL dF jS:Value}{deep:Bool}{s:bV}{cs:List a1}
theorem gp.aa4{A:Nat->Prop}{v eN:Value}{l:List cz}(h:gp H A aH v l){k:Nat}(av:k<l.length)(d:List (List UInt8))(g:j8 H A eN d)(j:∀b,A b->b≠aH):
 ∃L ea,v=.slice (some ⟨aH,0,none⟩) l.length l.length/\H.get aH=some (.cells L (.n 5))/\L.length=l.length*5/\setCells L (k*5+4) [eN]=some ea/\gp (H.put aH (.cells ea (.n 5))) A aH v (l.set k {l.getD k fs with d:=d}):=by
 rcases h with⟨_,e⟩ | ⟨rfl,L,cD,f,dS,gf⟩
 ·grind
 ·have a:∀b y,A b->H.get b=some y->A b/\(H.put aH (.cells (L.set (k*5+4) eN) (.n 5))).get b=some y:=λb y c e=>⟨c,by rw[a6 (j b c)];exact e⟩;have m:l.getD k fs=l[k]:=by rw[e5,en av];rfl
  let⟨_,b,_⟩:=gf k av;refine⟨L,L.set (k*5+4) eN,rfl,cD,dS.1,setCells_one (dS.lt av δ),.inr ⟨σ',_,bO,λj=>if j=k then({l.getD k fs with d:=d}:cz).cells eN else f j,?_,λi c=>?_⟩⟩
  ·rw[tl];exact dS.set av δ eN (by rw[b,m];simp[cz.cells]) λj _ h=>by simp[h]
  ·have d:i<l.length:=φ c
   by_cases e:i=k
   ·subst e;simp[List.getElem_set_self];exact⟨eN,rfl,g.imp a⟩
   ·simp[List.getElem_set_ne (Ne.symm e),e];exact(gf i d).imp λeN q=>⟨q.1,q.2.imp a⟩
theorem fY.Wk(h:fY H p cL dF deep c3 s aX aH cI)(g:bl pm H){k:Nat}(av:k<s.tree.length)(d:List (List UInt8)){eN:Value}(b:j8 H (np p aX aH) eN d):
 ∃L ea f i,H.get p=some (.cells (cL::dF::.bool deep::.int .i64 (c3:Int)::f::.slice (some ⟨aH,0,none⟩) s.tree.length s.tree.length::i) (.t h1))/\H.get aH=some (.cells L (.n 5))/\L.length=s.tree.length*5/\setCells L (k*5+4) [eN]=some ea/\
  fY (H.put aH (.cells ea (.n 5))) p cL dF deep c3 (s.Z k d) aX aH cI/\eW pm p aX aH aX aH H (H.put aH (.cells ea (.n 5))):=by
 let⟨j,l,c,_,m,o,a,q,r,t,v⟩:=h;obtain⟨L,ea,rfl,f,w,x,z⟩:=r.aa4 av d b λb a=>a.2.2;have r:p≠aH:=λe=>π
 have i:∀b y,e7 p aX aH b->H.get b=some y->e7 p aX aH b/\(H.put aH (.cells ea (.n 5))).get b=some y:=λb y a e=>⟨a,by rw[a6 a.2.2];exact e⟩;have u:=aC.put (n:=0) (.refl g) (Nat.zero_le _) f σ' (.cells ea (.n 5));refine⟨L,ea,c,_,a,f,w,x,⟨j,⟨?_,_,bO⟩,c,_,m,o,by rw[a6 r];simpa [bV.Z]using a,q.imp i λ_ e=>?_,by simpa [bV.Z]using z,t.imp (λb y a e=>⟨a,(i b y a.f e).2⟩),v.up u⟩,⟨u.h,u.next,λb _ h=>a6 h.2.2,u.cf,.inl rfl,.inl rfl⟩⟩
 ·by_cases e:aX=aH
  ·simp_all
  ·rw[a6 e];exact l.1
 ·by_cases a:aX=aH
  ·grind
  ·rw[a6 a];exact e
abbrev vj:Nat:=T.acE
end Go.Dam.C
namespace Go.Dam.C
open Go Go.Dam
variable{X:aA}{pm cu:Perm}{H ab bX ai:ae}{n p aX aH cI e9 fE c3:Nat}{cL dF jS:Value}{deep:Bool}{s:bV}{cs:List a1}{l:ar}
theorem YE{k:Nat}(a:(⟨cs,l.rows⟩:ar).I=false):s.look l k cs=s:=by unfold bV.look;rw[a];rfl
theorem YF{k:Nat}{a:cW}(b:(⟨cs,l.rows⟩:ar).I=true)(aI:fZ ⟨cs,l.rows⟩ a)(h:a.st≠1):s.look l k cs=s.Z k a.d:=by unfold bV.look;rw[aL b,vg aI,aw h]
theorem YD{k:Nat}{a:cW}(b:(⟨cs,l.rows⟩:ar).I=true)(aI:fZ ⟨cs,l.rows⟩ a)(h:a.st=1)(c:nB s.val (rd a.val)=true):s.look l k cs=s.Z k a.d:=by unfold bV.look;rw[aL b,vg aI,aL h,aL c]
theorem YB{k:Nat}{a:cW}(b:(⟨cs,l.rows⟩:ar).I=true)(aI:fZ ⟨cs,l.rows⟩ a)(h:a.st=1)(c:nB s.val (rd a.val)=false)(d:kE l.a a.x=none):s.look l k cs={s.Z k a.d with val:=some (rd a.val),L:=⟨1,a.val,a.x,[],[]⟩}:=by
 unfold bV.look;rw[aL b,vg aI,aL h,aw (by rw[c];decide),d]
theorem YC{k i:Nat}{a:cW}(b:(⟨cs,l.rows⟩:ar).I=true)(aI:fZ ⟨cs,l.rows⟩ a)(h:a.st=1)(c:nB s.val (rd a.val)=false)(d:kE l.a a.x=some i):s.look l k cs=(s.Z k a.d).branch k cs i (bU a.x i):=by
 unfold bV.look;rw[aL b,vg aI,aL h,aw (by rw[c];decide),d]
theorem fY.R1{c d k l tN tL:Value}{b:cW}{aQ:Option Rat}(g:bl pm H)(m:p<=aX/\p<=aH)(i:(∃y,H.get aX=some y)/\∃y,H.get aH=some y)(a:H.get p=some (.cells [cL,dF,.bool deep,.int .i64 (c3:Int),c,d,.int .i64 s.L.st,ak s.L.val,k,.slice none 0 0,.slice none 0 0,l] (.t h1)))
 (o:ou H (e7 p aX aH) aX cI c s.todo) (q:gp H (np p aX aH) aH d s.tree) (r:j8 H (np p aX aH) tN b.x) (t:fv H tL aQ):
 fY (H.put p (.cells [cL,dF,.bool deep,.int .i64 (c3:Int),c,d,.int .i64 b.st,ak b.val,tN,.slice none 0 0,.slice none 0 0,tL] (.t h1))) p cL dF deep c3 {s with L:=b,val:=aQ} aX aH cI/\
  eW pm p aX aH aX aH H (H.put p (.cells [cL,dF,.bool deep,.int .i64 (c3:Int),c,d,.int .i64 b.st,ak b.val,tN,.slice none 0 0,.slice none 0 0,tL] (.t h1))):=by
 have u:=aC.put (n:=0) (.refl g) (Nat.zero_le _) a σ' (.cells [cL,dF,.bool deep,.I (c3:Int),c,d,.I b.st,ak b.val,tN,.Z,.Z,tL] (.t h1));obtain⟨A,f⟩:=ε (H.put p (.cells [cL,dF,.bool deep,.int .i64 (c3:Int),c,d,.int .i64 b.st,ak b.val,tN,.slice none 0 0,.slice none 0 0,tL] (.t h1)));rw[<-f]at u|-;have h:∀b y,e7 p aX aH b->H.get b=some y->e7 p aX aH b/\A.get b=some y:=λb y a e=>⟨a,by rw[f,a6 a.1];exact e⟩;have j:∀b,(∃y,H.get b=some y)->∃y,A.get b=some y:=λb ⟨y,v⟩=>by
  by_cases e:b=p
  ·simp_all
  ·exact⟨y,by rw[f,a6 e];exact v⟩
 refine⟨⟨m,⟨j _ i.1,j _ i.2⟩,c,d,tN,tL,by simp_all,o.imp h λc e=>?_,q.imp (λb y a e=>⟨a,(h b y a.f e).2⟩) λc e=>?_,r.imp (λb y a e=>⟨a,(h b y a.f e).2⟩),t.up u⟩,⟨u.h,u.next,λb _ h=>by rw[f,a6 h.1],u.cf,.inl rfl,.inl rfl⟩⟩
 ·rw[f,a6 (λ_=>π)];exact e
 ·rw[f,a6 (λ_=>π)];exact e
theorem Py{z:Int}(a:-ff<=(z:Rat))(b:(z:Rat)<=ff):bo (z:Rat)=true:=by
 have h:=jf (l:=bk (z:Rat)) (a8 (Pw (ze a b)) δ);rwa [Hd (ze a b)]at h
theorem Wz{v:Rat}(a:-ff<=v)(b:v<=ff):-ff<=((v.floor:Int):Rat)/\((v.floor:Int):Rat)<=ff:=by
 refine⟨?_,Rat.le_trans (Rat.floor_le v) b⟩;rw[vs]at a|-;exact Rat.intCast_le_intCast.2 (Rat.le_floor_iff.2 a)
theorem VD{v:Rat}(a:-ff<=v)(b:v<=ff)(c:v.den≠1):-ff<=((v.floor+1:Int):Rat)/\((v.floor+1:Int):Rat)<=ff:=by
 constructor
 ·rw[vs]at a|-;have:=Rat.le_floor_iff.2 a;exact Rat.intCast_le_intCast.2 ω
 ·rw[x0]at b|-;have a:((v.floor:Int):Rat)<((10^20:Int):Rat):=(by have:=Cc c;grind);have a:=Rat.intCast_lt_intCast.1 a;exact Rat.intCast_le_intCast.2 ω
theorem YG(E:nw X)(g:bl pm H)(aK:pm.ah<=p)(hm:jq l)(h:fY H p cL dF deep c3 s aX aH cI)(g0:bl pm ai)(br:ai.next<=p)(qC:aC pm p ai H)(aY:gD ai 0 (.agg #[cL,dF]) l){k:Nat}(av:k<s.tree.length)(O:kC l cs)(aj:hh H (e7 p aX aH) jS cs.length 5 (gA cs))(bq:∀i,i<l.rows.length->(l.row i).G.length<=1000)(hn:s.tree.length<=800)(ht:s.todo.length<=800)(hv:∀w,s.val=some w->bo w=true):
 Call X pm F.so [.pointer (some ⟨p,0,none⟩),.agg #[.int .i64 (k:Int),jS]] H λ_ ab=>∃e9 fE br,fY ab p cL dF deep c3 (s.look l k cs) e9 fE br/\eW pm p aX aH e9 fE H ab:=by
 refine Call.W E.so rfl λbs P=>?_;let⟨I,J,e⟩:=aj.form;subst e;let⟨_,_,e,aL,aM⟩:=id aY;cases e;let⟨Q,R,e,_⟩:=id aM;subst e;let⟨L,ad,e,_⟩:=id aL;subst e;have sh:=O.fM hm.s;have xt:∀{ab:ae} {e9 fE:Nat},eW pm p aX aH e9 fE H ab->Ext ai ab:=λk b y e=>by
  have a:=g0.lt e;have a:=h.ge;have a:=h.lt g;exact(k.get b ω ⟨ω,ω,ω⟩).trans ((qC.get b ω).trans e)
 obtain⟨t,an⟩:=ε H.next;obtain⟨m,af⟩:=ε (H.new (.cells [.int .i64 (k:Int),.slice I cs.length J] (.t ma)));have S:K pm H m:=by rw[af];exact K.new g _
 have G:=S.h;have n1:m.next=t+1:=by rw[af,an];rfl
 have aN:m.get t=some (.cells [.I (k:Int),.slice I cs.length J] (.t ma)):=by rw[af,an];exact cc
 have ao:=h.k g S;let⟨_,_,_⟩:=h.lt g;let⟨_,_,_,_,_,_,bt,_⟩:=id ao;obtain⟨z,hz⟩:=ε m.next;have kU:K pm m (m.up 17):=(K.refl G).up 17;have ar:=λj=>(by rw[hz];exact G.none j:(m.up 17).get (z+j)=none);have bu:=(by rw[hz];exact G.O:(m.up 17).get z=none);obtain⟨M,T⟩:=ε ((m.up 17).put (z+8) (.cells [.int .i64 0,.string ⟨#[]⟩,.slice none 0 0,.slice none 0 0,.slice none 0 0] (.t vj)));have au:K pm m M:=by rw[T];exact aC.fill kU ω (ar 8) (by simp_all) _
 have aO:=au.h;have ag:∀j,j≠8->M.get (z+j)=none:=λj hj=>by rw[T,a6 ω];exact ar j
 have bw:M.get (z+8)=some (.cells [.I 0,.string ⟨#[]⟩,.Z,.Z,.Z] (.t vj)):=by rw[T];exact bO
 have br:M.next=z+17:=by rw[T,hz];rfl
 have bx:gD M 0 (.agg #[.slice I cs.length J,.slice Q l.rows.length R]) ⟨cs,l.rows⟩:=(show gD H 0 _ ⟨cs,l.rows⟩ from⟨_,_,rfl,aj.e,aM.ext λb y e=>(qC.get b (by have:=g0.lt e;omega)).trans e⟩).ext ((S.trans au).ext g);have d1:c6 [z+8] [t]=true:=gd ω;have d2:c6 [z+8] [p]=true:=gd ω;have aP:=λU=>ej (ah:=pm.ah) (ok:=pm.ok) (o:=U) (b:=z+8) π;simp[g.pick,g.make,ptr,<-an,<-af,-Es];refine cx.of G.ah rfl ?_;rw[<-hz];simp[b8,ar,bu,aN,bt,fill,bA,Perm.make,Perm.pick,ptr,<-T,-Es];refine cY aO (aq:=[.agg #[.slice I cs.length J,.slice Q l.rows.length R]]) (by simp[ag]) rfl (λcu g'=>V0 E.toEF g' bx sh bq) ?_;rintro _ V T h2;have g2:=T.h;have af:=T.next;have aS:=K.trans au T;have z2:=T.some aO bw;have aT:∀j,j<17->j≠8->V.get (z+j)=none:=λj hj af=>(T.get _ ω).trans (ag j af)
 rcases h2 with⟨rp,rfl⟩ | ⟨rp,adF,a,u,rfl,_,_,hu,ax⟩
 ·obtain⟨c,a⟩:=ε (V.put (z+8) (.cells [.int .i64 0,.string ⟨#[]⟩,.slice none 0 0,.slice none 0 0,.slice none 0 0] (.t vj)));have b:K pm m c:=by rw[a];exact aC.put aS ω z2 σ' _
  simp[aT,z2,setCells, aP,<-a,b3,bZ, cU,dj,d1,d2,show t<z by omega,show p<z by omega,-L8];refine⟨by rw[a,a6 ω];grind,?_⟩;refine P _ _ _ ?_;simp;rw[YE rp];exact⟨aX,aH,⟨cI,ao.k G b⟩,.p7 (S.trans b)⟩
 ·obtain⟨_,_,_,rfl,aU,aV,T⟩:=id hu;let⟨x,B,e1,_⟩:=aU.1.ex;let⟨W,Y,e2,_⟩:=aV.1.ex;let⟨ab,ae,e3,_⟩:=T.1.ex;subst e1 e2 e3;obtain⟨q,F⟩:=ε (V.put (z+8) (.cells [.int .i64 a.st,ak a.val,.slice x a.x.length B,.slice W a.d.length Y,.slice ab a.r.length ae] (.t vj)));have T:K pm m q:=by rw[F];exact aC.put aS ω z2 σ' _
  have u:=T.h;have bz:=S.trans T;have m:q.next=V.next:=by rw[F];rfl
  have aW:q.get (z+8)=some (.cells [.I a.st,ak a.val,.slice x a.x.length B,.slice W a.d.length Y,.slice ab a.r.length ae] (.t vj)):=by rw[F];exact bO
  have aY:q.get t=some (.cells [.I (k:Int),.slice I cs.length J] (.t ma)):=T.some G aN;have m:=ao.k G T;have G:=m.lt u;have G:∀b,z<=b->e7 p aX aH b:=λb d=>⟨ω,ω,ω⟩;have S:∀{T:Value} {N:List (List UInt8)},h7 V M.next T N->j8 q (np p aX aH) T N:=λM=>by
   have f:=M.put (c:=z+8) ω (.cells [.I a.st,ak a.val,.slice x a.x.length B,.slice W a.d.length Y,.slice ab a.r.length ae] (.t vj));rw[<-F]at f;exact f.p.imp λb y d e=>⟨⟨ω,(G b ω).2⟩,e⟩
  have px:=S aU;have M:=S aV;have bC:e7 p aX aH t:=⟨ω,ω,ω⟩;have bD:=G (z+8) ω;have kV:K pm q (q.up 11):=(K.refl u).up 11;have G:=kV.h;let⟨aZ,S,_,_,bE,a1,_,bF,aw,ay⟩:=(m.k u kV).Wk G av a.d (eN:=.slice W a.d.length Y) (M.imp λb y d e=>⟨d,kV.some u e⟩);obtain⟨H4,a7⟩:=ε ((q.up 11).put aH (.cells S (.n 5)));rw[<-a7]at aw ay;have Z:=ay.h;have aa:=(eW.p7 (p:=p) (aX:=aX) (aH:=aH) kV).trans ay;have m:=aa.next;have az:=aa.some u bD aW;have bG:=aa.some u bC aY;have a8:eW pm p aX aH aX aH H H4:=(eW.p7 bz).trans aa;simp[aT,z2,setCells, aP,<-F,b3,bZ, cU,dj,d1,d2,show t<z by omega,show p<z by omega,-Er];refine⟨by rw[F,a6 ω];grind,?_⟩;refine cx.of u.ah rfl ?_;obtain⟨y,hy⟩:=ε q.next;have F:=λj=>(by rw[hy];exact u.none j:(q.up 11).get (y+j)=none);have G:=(by rw[hy];exact u.O:(q.up 11).get y=none);have m:=bE;simp[r4]at m a1;have q:=λU=>ej (ah:=pm.ah) (ok:=pm.ok) (o:=U) (b:=aH) π;rw[<-hy];simp[b8,F,G,m,aY,aW,av,a1,bF,q,<-a7,b3,bZ, show t<y by omega,show p<y by omega,show z+8<y by omega,show aH<y by omega,-Er];simp[az,-Et];by_cases D:a.st=1
  ·let⟨m,q⟩:=DO sh rp ax D;let⟨xl,xn,N⟩:=Tc sh rp ax D;have bH:bo (rd a.val)=true:=jf q;simp[D,az,-Mc,-Ma];refine al.of (aq:=[ak a.val]) (Mj E Z ω m) ?_;rintro a_ H5 ⟨m,aA⟩;have n:=m.h;have aB:=aw.k Z m;have aC:=a8.trans (eW.p7 (p:=p) (aX:=aX) (aH:=aH) m);have ba:=m.some Z az;have bI:=m.some Z bG;have bb:j8 H5 (np p aX aH) (.slice x a.x.length B) a.x:=px.imp λb y d e=>⟨d,m.some Z (aa.some u d.f e)⟩;let⟨_,_,aD,aE,aG,bc,ai,bJ,bK,bL,bd⟩:=id aB;have bf:nB s.val (rd a.val)=false->∀m,aF 0 m=some (.P p)->aF 3 m=some (.P t)->aF 5 m=some (.P (z+8))->aF 7 m=some a_->wp X pm (.code C.sq) m H5 [] bs:=λbg m l0 bM l5 l7=>by
    have m:hO H5 (.slice L l.a.length ad) l.a:=(aL.imp (xt aC) λ_ _ _ h=>h).aZ;simp[l0,l5,ba,-Mb,-L9];refine al.of (aq:=[.P p,.slice x a.x.length B]) (Vs E n ai m bb.1 (by rw[xl];exact O.len) xn N (by have:=hm.s.n;omega)) ?_;rintro _ r ⟨f,rfl⟩;have c:=f.h;have aF:=aB.k n f;have aI:=aC.trans (eW.p7 (p:=p) (aX:=aX) (aH:=aH) f);have X:=f.some n ba;have aR:=f.some n bI;have bh:j8 r (np p aX aH) (.slice x a.x.length B) a.x:=bb.imp λb y d e=>⟨d,f.some n e⟩;have m:=aF.lt c;have bj:=f.some n ai;have m:=aI.next;obtain⟨v,C⟩:=ε r.next;obtain⟨H,rfl,_⟩:=id aA;have bN:=aA.up f;have bP:=λU=>ej (ah:=pm.ah) (ok:=pm.ok) (o:=U) (b:=p) aK;have m:=c.lt X;have m:=c.lt aR
    cases aJ:kE l.a a.x with
    | none=>
      have g:K pm r (r.up 14):=(K.refl c).up 14;have al:=λj=>(by rw[C];exact c.none j:(r.up 14).get (v+j)=none);have bk:=(by rw[C];exact c.O:(r.up 14).get v=none);obtain⟨o,h⟩:=ε ((r.up 14).put p (.cells [.slice L l.a.length ad,.slice Q l.rows.length R,.bool deep,.int .i64 (c3:Int),aD,aE,.int .i64 (s.Z k a.d).L.st,ak (s.Z k a.d).L.val,aG,.slice none 0 0,.slice none 0 0,.pointer (some ⟨H,0,none⟩)] (.t h1)));let⟨q,m,_⟩:=id aF;have i:=fY.R1 (s:=s.Z k a.d) (b:=(s.Z k a.d).L) (tL:=.P H) (aQ:=some (rd a.val)) (tN:=aG) g.h q ⟨m.1,m.2⟩ (g.some c bj) ((bJ.imp (λb y d e=>⟨d,(f.trans g).some n e⟩) λaZ e=>(f.trans g).some n e)) ((bK.imp (λb y d e=>⟨d,(f.trans g).some n e⟩) λaZ e=>(f.trans g).some n e)) (bL.imp λb y d e=>⟨d,(f.trans g).some n e⟩) (bN.up g);rw[<-h]at i;have g7:=i.2.h;let⟨bl,bm,_,_,_,_,aq,bn,bo,_,bp⟩:=id i.1;have w:o.get p=some (.cells [.slice L l.a.length ad,.slice Q l.rows.length R,.bool deep,.I (c3:Int),aD,aE,.I (s.Z k a.d).L.st,ak (s.Z k a.d).L.val,aG,.Z,.Z,.P H] (.t h1)):=by rw[h];exact bO
      rw[w]at aq;cases aq;obtain⟨_,av⟩:=ε (o.put p (.cells [.slice L l.a.length ad,.slice Q l.rows.length R,.bool deep,.int .i64 (c3:Int),aD,aE,.int .i64 1,ak a.val,.slice x a.x.length B,.slice none 0 0,.slice none 0 0,.pointer (some ⟨H,0,none⟩)] (.t h1)));have ah:=fY.R1 (b:=⟨1,a.val,a.x,[],[]⟩) (tL:=.P H) (aQ:=some (rd a.val)) (tN:=.slice x a.x.length B) g7 bl bm w bn bo (bh.imp λb y d e=>⟨d,i.2.some g.h d.f (g.some c e)⟩) bp;rw[<-av]at ah;have dp:c6 [p] [z+8]=true:=gd ω;simp[Fj,  ];refine cx.of c.ah rfl ?_;rw[<-C];have ag:∀j,o.get (v+j)=none:=λj=>by rw[h,a6 ω];exact al j
      have d:o.get (z+8)=some (.cells [.I a.st,ak a.val,.slice x a.x.length B,.slice W a.d.length Y,.slice ab a.r.length ae] (.t vj)):=by rw[h,a6 ω];exact X
      simp[b8,al,bk,l0,l5,l7,X,fill,bA,bj,bP,setCells,<-h,ag,w, <-av,b3,bZ,cU,dp,show z+8<v by omega,show p<v by omega];refine P _ _ _ ?_;simp;rw[YB rp ax D bg aJ];exact⟨aX,aH,⟨cI,ah.1⟩,(aI.trans (eW.p7 g)).trans (i.2.trans ah.2)⟩
    | some i=>
      let⟨d,e,bO⟩:=Fk aJ;have l:i<cs.length:=by rw[O.len];exact d
      let⟨ah,al⟩:=JA hm.s O rp ax D l e;let⟨_,_,ex,bQ⟩:=bh.1.ex;cases ex;obtain⟨bR,_,_,_,w,bS,f2,f3,f4,b,f5,rfl⟩:=bQ i (by rw[xl];exact l);subst bS;have aQ:bU a.x i=rd b:=by simp[bU,List.getD,f5]
      have o:=cX f5;have a6:K pm r (r.up 10):=(K.refl c).up 10;have bT:=a6.h;have bk:=λj=>(by rw[C];exact c.none j:(r.up 10).get (v+j)=none);have bW:=(by rw[C];exact c.O:(r.up 10).get v=none);have bX:i<a.x.length:=by rw[xl];exact l
      simp[Fj,  ];refine cx.of c.ah rfl ?_;rw[<-C];simp[b8,bk,bW,l0,bM,l5,aR,X,bB,bA,bX,f2,f3,f4];refine cY bT (aq:=[ak b]) (by simp[bk]) rfl (λcu g'=>Mj E g' (by have:=N b o;omega) (eA.1 xn b o)) ?_;rintro bY _ d bl;have s:=d.h;have e:=K.trans a6 d;have bm:=d.res c;rw[<-C]at bm;have b0:=aF.k c e;have bn:=aI.trans (eW.p7 (p:=p) (aX:=aX) (aH:=aH) e);have b1:=bn.S7 g aj λ_ _ _ h=>h;rw[<-aQ]at bl;have sv:bo (bU a.x i)=true:=by rw[aQ];exact jf (N b o)
      let⟨b2,b4⟩:=Wz ah al;let⟨b,d⟩:=VD ah al bO;have bp:=Py b d;rw[Rat.intCast_add]at bp;simp;have b5:=Vp (pm:=⟨pm.ah,pm.ok,none⟩) E (s.perm rfl s.ah) aK b0 (k:=k) b1 (by simpa [bV.Z]using av) l (by have:=hm.s.n;have:=O.len;omega) bl sv (Py b2 b4) bp (by simp[bV.Z];omega) (by simp[bV.Z];omega);refine d'.fixed (aq:=[.P p,.agg #[.I (k:Int),.slice I cs.length J],.I (i:Int),bY]) (by simp[bm]) σ' (by simp[]) rfl b5 ?_;rintro _ _ ⟨d,e,f,j,b⟩;have b:=b.perm (cu:=pm) g.num (by have:=b.next;have:=s.ah;omega);simp[b3,bZ,fT,cU,dj,show z+8<v by omega,show t<v by omega,show bR<v by have:=c.lt f2;omega];refine P _ _ _ ?_;simp;rw[YC rp ax D bg aJ];exact⟨d,e,⟨f,j⟩,bn.trans b⟩
   simp[ai,-AQ,-L',-sq]
   cases b:s.val with
   | none=>
     have a:bc=.pointer none:=by simpa [bV.Z,b,fv]using bd
     subst a;simp[aR,-AQ,-sq];refine al.not ?_;simp[aR,-sq];exact bf (by rw[b];rfl) _ σ' σ' σ' σ'
   | some w=>
     have c:b4 H5 bc w:=by simpa [bV.Z,b,fv]using bd
     obtain⟨L,rfl,_⟩:=id c;simp[ai,-AQ,-sq];refine al.of (aq:=[a_,.P L]) (k7 E.toEL n aA.of c.of bH (hv w b)) ?_;rintro _ _ ⟨rfl,rfl⟩;by_cases c:w<=rd a.val
     ·simp[kb,show ¬rd a.val<w from fy.2 c,-sq];refine P _ _ _ ?_;simp;rw[YD rp ax D (by rw[b];simp[nB,c])];exact⟨aX,aH,⟨cI,aB⟩,aC⟩
     ·simp[kb,show rd a.val<w from Rat.not_le.1 c,-sq];exact bf (by rw[b];simp[nB,c]) _ σ' σ' σ' σ'
  ·simp[D,-Et];refine P _ _ _ ?_;simp;rw[YF rp ax D];exact⟨aX,aH,⟨cI,aw⟩,a8⟩
end Go.Dam.C
namespace Go.Dam.C
open Go Go.Dam
section
variable{α:Type}{f:α->Option α}
theorem PA{a:α}(h:Ends f a):∃k b,fH f k a=some b/\f b=none:=by
 let⟨k,c,d⟩:=h.least
 cases k with
 | zero=>cases c
 | succ j=>
   have c:=d j ω
   cases e:fH f j a with
   | none=>grind
   | some b=>
     refine⟨j,b,e,?_⟩
     cases a:f b with
     | none=>rfl
     | some _=>
       have:=Cm e a;grind
theorem He{G:α->Prop}(c:∀a b,G a->f a=some b->G b):∀{k:Nat} {a b:α},G a->fH f k a=some b->G b
 | 0,a,b,h,e=>by cases e;exact h
 | k+1,a,b,h,e=>by
   rw[fH]at e
   cases b:f a with
   | none=>grind
   | some d=>rw[b]at e;exact He c (c a d h b) e
end
theorem abo{aa:ar}(h:c5 aa)(j:aa.I=true):∃a,fZ aa a:=by
 have R:=Jo h j;let⟨_,b,j,c⟩:=PA (R.g1 _ R.s1).2.2;have i:x3 aa b:=He R.cw R.s1 j;unfold jx at c
 cases d:lH aa.j b with
 | some a=>
   rw[d]at c;simp at c
   cases e:lU aa.j b a (off aa.j b.v (b.rows a)) with
   | some _=>grind
   | none=>exact⟨_,.inf b a i d e⟩
 | none=>
   have c:=R.s2 b i d;let⟨_,a,b,e⟩:=PA (R.g2 _ c).2.2;have h:tR aa a:=He R.gg c b;unfold h' at e
   cases f:enters aa.j aa.cs a with
   | none=>exact⟨_,.opt a h f⟩
   | some g=>
     rw[f]at e;simp at e
     cases k:(dW aa.j a g (eF aa.j aa.cs a g) aa.j.m).e4 with
     | some _=>grind
     | none=>exact⟨_,.cB a g h f k⟩
theorem pg{aa:ar}(h:c5 aa)(b:aa.I=true):fZ aa (eo aa):=by
 let⟨_,a⟩:=abo h b;rw[vg a];exact a
structure sI(l:ar)(s:bV):Prop extends lO l s where
 v:∀w,s.val=some w->bo w=true
 t:s.todo.length<=s.tree.length
theorem sI.look{l:ar}{s:bV}(e:jq l)(h:sI l s){k:Nat}{cs:List a1}(b:kC l cs):sI l (s.look l k cs)/\((s.look l k cs).tree.length=s.tree.length/\(s.look l k cs).todo.length=s.todo.length∨(s.look l k cs).tree.length=s.tree.length+2/\(s.look l k cs).todo.length=s.todo.length+2):=by
 have a:∀f,sI l (s.Z k f):=λf=>⟨h.tolO.Z,h.v,by simpa [bV.Z]using h.t⟩;unfold bV.look;by_cases c:(⟨cs,l.rows⟩:ar).I=true
 ·rw[aL c];have g:=b.fM e.s;have i:=pg g c;by_cases d:(eo ⟨cs,l.rows⟩).st=1
  ·rw[aL d];split
   ·exact⟨a _,.inl ⟨by simp[bV.Z],rfl⟩⟩
   ·split
    ·exact⟨⟨⟨(a _).h0⟩,λ_ h=>by cases h;exact jf (DO g c i d).2,(a _).t⟩,.inl ⟨by simp[bV.Z],rfl⟩⟩
    ·rename_i m n;let⟨l,j,o⟩:=Fk n;have k:m<cs.length:=by rw[b.len];exact l
     let⟨p,q⟩:=JA e.s b c i d k j;refine⟨⟨(a _).tolO.branch b k j p q o,h.v,?_⟩,.inr ⟨by simp[bV.branch,bV.U,bV.Z],by simp[bV.branch,bV.U,bV.Z]⟩⟩;have:=h.t;simp[bV.branch,bV.U,bV.Z];omega
  ·rw[aw d];exact⟨a _,.inl ⟨by simp[bV.Z],rfl⟩⟩
 grind
theorem sI.del{l:ar}{s:bV}(h:sI l s){k:Nat}(av:k<s.todo.length):sI l (s.del k):=⟨h.tolO.del,h.v,by
 have:=h.t;have e:(s.todo.eraseIdx k).length=s.todo.length-1:=by rw[List.length_eraseIdx,aL av]
 show(s.todo.eraseIdx k).length<=s.tree.length;omega⟩
end Go.Dam.C
namespace Go.Dam.C
open Go Go.Dam
variable{X:aA}{pm cu:Perm}{H ab bX ai:ae}{n p aX aH cI e9 fE c3:Nat}{cL dF jS:Value}{deep:Bool}{s ve:bV}{cs:List a1}{l:ar}
theorem ou.form{A:Nat->Prop}{v:Value}{l:List (Nat×List a1)}(h:ou H A aX cI v l):∃a cap,v=.slice a l.length cap:=by
 rcases h with⟨rfl,rfl,_⟩ | ⟨rfl,_⟩
 ·exact⟨_,_,rfl⟩
 ·exact⟨_,_,rfl⟩
theorem gp.form{A:Nat->Prop}{v:Value}{l:List cz}(h:gp H A aH v l):∃a,v=.slice a l.length l.length:=by
 rcases h with⟨rfl,rfl⟩ | ⟨rfl,_⟩
 ·exact⟨_,rfl⟩
 ·exact⟨_,rfl⟩
theorem aaX(o:nw X)(g:bl pm H)(v:pm.ah<=p)(w:jq l)(h:fY H p cL dF deep c3 ve aX aH cI)(C:bl pm ai)(J:ai.next<=p)(qC:aC pm p ai H)(aY:gD ai 0 (.agg #[cL,dF]) l)(L:∀i,i<l.rows.length->(l.row i).G.length<=1000)(N:c3<=300)(y:ve.todo=[])(cA:ve.tree=[])(M:ve.val=none):
 Call X pm F.ss [.pointer (some ⟨p,0,none⟩)] H λr ab=>∃c b e9 fE N,hz l deep c3 (ve.U l.a) c b/\r=.bool b/\fY ab p cL dF deep c3 c e9 fE N/\aC pm p H ab:=by
 refine Call.W o.ss rfl λ_ D=>?_;have O:=h.lt g;have E:=h.ge;let⟨_,_,q,P,_⟩:=id aY;cases q;have N:hh H (e7 p aX aH) cL l.a.length 5 (gA l.a):=P.p.imp (λb _ _ q=>by
  have:=C.lt q;exact⟨⟨ω,ω,ω⟩,(qC.get b ω).trans q⟩) λ_ _ _ h=>h
 let⟨_,_,_,_,_,_,q,_⟩:=id h;simp[q,-Mg];refine al.of (aq:=[.P p,cL]) (E2 o g v h N (by rw[cA];simp) (by rw[y];simp)) ?_;rintro _ _ ⟨Q,R,S,rfl,N,q⟩;have P:=q.h;have P:=q.up E.1 E.2 O.1;simp[-Me,-Mf]
 refine fh.of (σ:=bV×Nat×Nat×Nat) (λ_=>[(0,.P p)]) (λq ab=>sI l q.1/\fY ab p cL dF deep c3 q.1 q.2.1 q.2.2.1 q.2.2.2/\aC pm p H ab/\q.1.tree.length<=c3+2/\∀c b,hz l deep c3 q.1 c b->hz l deep c3 (ve.U l.a) c b) (λq=>2*(c3+3-q.1.tree.length)+q.1.todo.length) (ve.U l.a,Q,R,S) σ'
  ⟨⟨(lO.mk (by rw[y];simp)).U w.node,by simp[bV.U,M],by simp[bV.U,y,cA]⟩,N,P,by simp[bV.U,cA],λ_ _ h=>h⟩ ?_
 rintro⟨s,z,A,B⟩ t ⟨f,d,i,q,e⟩;simp only at f d q e;have a:=i.h;let⟨G,_,_,_,_,_,j,T,U,_⟩:=id d;obtain⟨_,_,rfl⟩:=T.form;obtain⟨_,rfl⟩:=U.form;have u:=d.lt a;have q:=i.next;by_cases n:s.todo=[]
 ·simp[j,n];refine cx.of a.ah rfl ?_;simp[b8,a.none,a.O,j,b3,bZ, u.1];refine D _ _ _ ?_;simp;have b:=hz.done (l:=l) (deep:=deep) (m:=c3) s n;by_cases g:s.tree.length<=c3
  ·rw[hd g]at b;exact⟨s,.inr ⟨e _ _ b,g,⟨z,A,B,d.k a ((K.refl a).up 11)⟩,i.k ((K.refl a).up 11) ω⟩⟩
  ·rw[j1 g]at b;exact⟨s,.inl ⟨e _ _ b,ω,⟨z,A,B,d.k a ((K.refl a).up 11)⟩,i.k ((K.refl a).up 11) ω⟩⟩
 ·have b:0<s.todo.length:=rT.2 n;simp[j,b,-Eu];refine cx.of a.ah rfl ?_;have b:K pm t (t.up 10):=(K.refl a).up 10;have y:=b.h;have q:=d.k a b;have F:aC pm p H (t.up 10):=i.k b ω;by_cases b:c3<s.tree.length
  ·simp[b8,a.none,a.O,j,b3,bZ, u.1,b,-Eu];refine D _ _ _ ?_;simp;exact⟨s,e _ _ (.jj s n b),⟨z,A,B,q⟩,F⟩
  ·simp[b8,a.none,a.O,j,b3,bZ, u.1,b,-Mh];refine al.of (aq:=[.P p]) (Y3 o y v q n (by have:=f.t;omega)) ?_;rintro _ _ ⟨x,jS,g,rfl,K,m,a⟩;have H:=a.h;have r:=F.trans (a.up G.1 G.2 (by have:=u.1;show p<t.next+10;omega));have I:lr deep s.todo.length<s.todo.length:=by unfold lr;split<;>omega
   let⟨d,a⟩:=f.h0 x (cX g);have b:=f.del I;have i:(s.del (lr deep s.todo.length)).todo.length=s.todo.length-1:=by
    show(s.todo.eraseIdx _).length=_;rw[List.length_eraseIdx,aL I]
   have i:=r.next;simp;refine al.of (aq:=[.P p,.agg #[.I (x.1:Int),jS]]) (YG o H v w m C J (qC.trans r) aY (k:=x.1) d a K L (by show s.tree.length<=800;omega) (by have:=f.t;omega) b.v) ?_;rintro _ _ ⟨f,i,j,n,o⟩;have d:=m.ge;have q:=m.lt H;have m:=r.trans (o.up d.1 d.2 q.1);let⟨d,_⟩:=b.look w (k:=x.1) a;have a:(s.del (lr deep s.todo.length)).tree.length=s.tree.length:=rfl;simp;refine kt.of ((s.del (lr deep s.todo.length)).look l x.1 x.2,f,i,j) ?_ σ' ⟨d,n,m,?_,λc=>⟨λh=>e c false (.step s c false x g ω h),λh=>e c true (.step s c true x g ω h)⟩⟩
   ·show 2*(c3+3-((s.del (lr deep s.todo.length)).look l x.1 x.2).tree.length)+((s.del (lr deep s.todo.length)).look l x.1 x.2).todo.length<2*(c3+3-s.tree.length)+s.todo.length;omega
   ·show((s.del (lr deep s.todo.length)).look l x.1 x.2).tree.length<=c3+2;omega
end Go.Dam.C
namespace Go.Dam.C
open Go Go.Dam
variable{X:aA}{pm cu:Perm}{H ab bX ai:ae}{n:Nat}{deep:Bool}{l:ar}
def py:bV:=⟨[],[],⟨2,[],[],[],[]⟩,none⟩
def lo(k:Int):Nat:=if 0<k then min 300 k.toNat else 300
theorem QD{k:Int}:lo k<=300:=by unfold lo;split<;>omega
theorem gp.ext{A:Nat->Prop}{aH:Nat}{v:Value}{l:List cz}(h:gp H A aH v l)(e:Ext H ab):gp ab A aH v l:=h.imp (λb y a q=>⟨a,e b y q⟩) λ_ q=>e _ _ q
theorem gp.put{a aH c:Nat}{v:Value}{l:List cz}(h:gp H (λb=>a<=b) aH v l)(d:c<a)(d:a<=aH)(x:bz):gp (H.put c x) (λb=>a<=b) aH v l:=
 h.imp (λb _ d q=>⟨d,by rw[a6 ω];exact q⟩) λ_ q=>by rw[a6 ω];exact q
theorem gp.mono{a cw aH:Nat}{v:Value}{l:List cz}(h:gp H (λb=>a<=b) aH v l)(c:cw<=a):gp H (λb=>cw<=b) aH v l:=h.imp (λb _ _ q=>⟨ω,q⟩) λ_ q=>q
theorem aci(Q:nw X)(g:bl pm H)(hm:jq l){v:Value}(aY:gD H 0 v l)(af:∀i,i<l.rows.length->(l.row i).G.length<=1000){k:Int}(ax:-9223372036854775808<=k)(av:k<=9223372036854775807):
 Call X pm F.su [v,.bool deep,.int .i64 k] H λr ab=>K pm H ab/\∃a b A B aH,hz l deep (lo k) (py.U l.a) a b/\r=.tuple #[.agg #[.int .i64 a.L.st,ak a.L.val,A,.slice none 0 0,.slice none 0 0],B,.bool b]/\h7 ab H.next A a.L.x/\gp ab (λb=>H.next<=b) aH B a.tree/\H.next<=aH:=by
 refine Call.W Q.su rfl λag hQ=>?_;obtain⟨_,_,rfl,hc,C⟩:=id aY;let⟨j,i,e1,_⟩:=id hc;let⟨m,n,e2,_⟩:=id C;subst e1 e2;obtain⟨G,D⟩:=ε H.next;obtain⟨f,u⟩:=ε (H.new (.cells [.slice j l.a.length i,.slice m l.rows.length n] (.t T.TK)));have R:K pm H f:=by rw[u];exact K.new g _
 have S:=R.h;have ai:f.get G=some (.cells [.slice j l.a.length i,.slice m l.rows.length n] (.t T.TK)):=by rw[u,D];exact cc
 have n1:f.next=G+1:=by rw[u,D];rfl
 obtain⟨c,E⟩:=ε f.next;obtain⟨d,w⟩:=ε (f.new (.cells [.int .i64 0,.string ⟨#[]⟩,.slice none 0 0,.slice none 0 0,.slice none 0 0] (.t T.AS)));have G:K pm f d:=by rw[w];exact K.new S _
 have U:=G.h;have aj:d.get c=some (.cells [.I 0,.string ⟨#[]⟩,.Z,.Z,.Z] (.t T.AS)):=by rw[w,E];exact cc
 have an:=G.some S ai;have V:=R.trans G;have f:d.next=c+1:=by rw[w,E];rfl
 obtain⟨p,x⟩:=ε d.next;obtain⟨q,z⟩:=ε (d.new (.cells [.slice j l.a.length i,.slice m l.rows.length n,.bool deep,.int .i64 300,.slice none 0 0,.slice none 0 0,.int .i64 2,.string ⟨#[]⟩,.slice none 0 0,.slice none 0 0,.slice none 0 0,.pointer none] (.t h1)));have I:K pm d q:=by rw[z];exact K.new U _
 have W:=I.h;have J:q.get p=some (.cells [.slice j l.a.length i,.slice m l.rows.length n,.bool deep,.I 300,.Z,.Z,.I 2,.string ⟨#[]⟩,.Z,.Z,.Z,.pointer none] (.t h1)):=by rw[z,x];exact cc
 have ao:=K.trans V I;have f:q.next=p+1:=by rw[z,x];rfl
 have ar:pm.may p=true:=g.may ω;simp[g.pick,g.make,    ptr,<-D,<-u,<-E,<-w,<-x,<-z,an,bB,setCells,bA,-xZ,-Mi]
 have Y:∀f s,aF 9 f=some (.P p)->aF 6 f=some (.P c)->aC pm p q s->s.get p=some (.cells [.slice j l.a.length i,.slice m l.rows.length n,.bool deep,.I (lo k:Int),.Z,.Z,.I 2,.string ⟨#[]⟩,.Z,.Z,.Z,.pointer none] (.t h1))->
  wp X pm (.code xZ) f s [] ag:=by
  intro f s Z l6 v f
  have sr:fY s p (.slice j l.a.length i) (.slice m l.rows.length n) deep (lo k) py p p 0:=
   ⟨⟨bc _,bc _⟩,⟨⟨_,f⟩,⟨_,f⟩⟩,_,_,_,_,f,.inl ⟨rfl,rfl,rfl⟩,.inl ⟨rfl,rfl⟩,⟨fp.nil,λb _ _ i g=>by cases g⟩,rfl⟩
  have f:=v.h;have aa:aC pm p d s:=aC.trans (by rw[x];exact I) v;have d:=g.ah;simp[Z,-Ev];refine al.of (a':=σ') (aq:=[.P p]) (aaX Q f ω hm sr U ω aa (aY.ext (V.ext g)) af QD rfl rfl rfl) ?_;rintro _ h ⟨a,b,_,aH,_,C,rfl,d,F⟩;have e:=F.h;let⟨_,_,_,B,A,_,ab,_,ad,ae,_⟩:=id d;have L:h.get c=some (.cells [.I 0,.string ⟨#[]⟩,.Z,.Z,.Z] (.t T.AS)):=(F.get c ω).trans ((aa.get c ω).trans aj);have d:pm.may c=true:=g.may ω;obtain⟨M,N,rfl⟩:=ae.form;obtain⟨rb,rfl⟩:=ad.form;simp[-Ev];simp;refine cx.of e.ah rfl ?_;obtain⟨r,t⟩:=ε ((h.up 12).put c (.cells [.int .i64 a.L.st,ak a.L.val,.slice M a.L.x.length N,.slice none 0 0,.slice none 0 0] (.t T.AS)));have f:=e.lt ab;have i:=e.lt L;have d:K pm h (h.up 12):=(K.refl e).up 12;have j:=d.some e L;have m:aC pm c h r:=by rw[t];exact aC.put (d.mono ω) (bc _) j σ' _
  have n:c6 [c] [p]=true:=gd ω;have au:r.get c=some (.cells [.I a.L.st,ak a.L.val,.slice M a.L.x.length N,.Z,.Z] (.t T.AS)):=by rw[t];exact bO
  have p:=λo=>ej (ah:=pm.ah) (ok:=pm.ok) (o:=o) (b:=c) ω;have q:∀j,r.get (h.next+j)=none:=λj=>by rw[t,a6 ω];exact e.none j
  simp[b8,e.none,e.O,ab,L,Z,l6,p,q,bB,setCells,bA,b3,bZ, cU,n,f,i,<-t];have kF:K pm H r:=by
   have q:aC pm H.next H h:=aC.trans ao (aC.trans (v.mono ω) (F.mono ω));exact aC.trans q (m.mono ω)
  have O:∀b y,c<b->h.get b=some y->r.get b=some y:=λb y _ h=>by
   rw[t,a6 ω];exact d.some e h
  refine hQ _ _ _ ⟨.inr rfl,[.agg #[.I a.L.st,ak a.L.val,.slice M a.L.x.length N,.Z,.Z],.slice rb a.tree.length a.tree.length,.bool b],by simp[l6,au,ft,bA,bB],kF,a,b,_,_,aH,C,rfl,?_,?_,ω⟩
  ·exact ae.imp (iS:=λb=>H.next<=b) λb y a e=>⟨by have:=a.1;omega,O b y (by have:=a.1;omega) e⟩
  ·exact ad.imp (λb y a e=>⟨by have:=a.1;omega,O b y (by have:=a.1;omega) e⟩) λ_ e=>O _ _ ω e
 by_cases P:0<k
 ·simp[P,J,bB,setCells,ar,-xZ];refine Y _ _ σ' σ' (aC.put (.refl W) (bc _) J σ' _) ?_;rw[bO];have e:((lo k:Nat):Int)=if k<300 then k else 300:=by unfold lo;split<;>omega
  rw[e]
 ·simp[P,-xZ];refine Y _ _ σ' σ' (.refl W) ?_;have e:lo k=300:=by unfold lo;rw[aw P]
  rw[e];exact J
end Go.Dam.C
namespace Go.Dam.C
open Go Go.Dam
theorem U8{q:Rat}{N:Nat}(h:q.num.natAbs<=N):-((N:Int):Rat)<=q/\q<=((N:Int):Rat):=by
 have a:(N:Int)*1<=N*(q.den:Int):=Int.mul_le_mul_of_nonneg_left (by have:=q.den_pos;omega) ω;constructor
 ·rw[<-Rat.intCast_neg,Rat.le_iff,Rat.num_intCast,Rat.den_intCast,Int.neg_mul];omega
 ·rw[Rat.le_iff,Rat.num_intCast,Rat.den_intCast];omega
theorem ku.short{s:List UInt8}(aP:s≠[])(h:s.length<=20):ku s:=by
 have a:=U8 (tv h).1;have e:(((10^20:Nat):Nat):Int)=(10:Int)^20:=by decide +kernel
 rw[e]at a;refine⟨aP,ω,?_,?_⟩
 ·rw[x0];exact a.1
 ·rw[x0];exact a.2
def eE(t:Bool)(c:a1):a1:=if t then{c with cost:=[48]} else c
theorem oB{t:Bool}{c:a1}:(eE t c).low=c.low:=by cases t<;>rfl
theorem oC{t:Bool}{c:a1}:(eE t c).up=c.up:=by cases t<;>rfl
theorem vY{t:Bool}{c:a1}:(eE t c).int=c.int:=by cases t<;>rfl
noncomputable def cB(l:ar):Bool:=decide ((eo l).st=3)
noncomputable def db(l:ar):ar:=⟨l.a.map (eE (cB l)),l.rows⟩
def nV(l:ar):Bool:=l.a.any λc=>c.int&&(c.low.isEmpty||c.up.isEmpty)
theorem p1{l:ar}:(db l).a.length=l.a.length:=by simp[db]
theorem wJ{l:ar}{i:Nat}(az:i<l.a.length):(db l).ad i=eE (cB l) (l.ad i):=by
 rw[<-BK,<-BK];simp[db,en az]
structure nr(l:ar):Prop where
 s:c5 l
 b:∀c∈l.a,c.low.length<=20/\c.up.length<=20
 k:∀i,i<l.rows.length->(l.row i).G.length<=1000
theorem nr.ok{l:ar}(h:nr l)(d:nV l=false):jq (db l):=by
 refine⟨⟨by rw[p1];exact h.s.n,h.s.m,λc a=>?_,h.s.r⟩,λ_ b e=>?_⟩
 ·obtain⟨c,f,rfl⟩:=gl.1 a;let⟨g,i,_⟩:=h.s.c c f;refine⟨by rw[oB];exact g,by rw[oC];exact i,?_⟩;unfold eE;grind
 ·rw[p1]at b;rw[wJ b]at e|-;rw[vY]at e;rw[oB,oC];have a:=cX (ar.kc b);have c:=h.b _ a;have b:=List.any_eq_false.1 d _ a;simp[e]at b;exact⟨.short b.1 c.1,.short b.2 c.2⟩
inductive iy(l:ar)(deep:Bool)(k:Int):cW->List cz->Int->Prop
 | form:l.I=false->iy l deep k ⟨0,[],[],[],[]⟩ [] 1
 | wide:l.I=true->nV l=true->iy l deep k ⟨0,[],[],[],[]⟩ [] 10
 | jj (iN:bV):l.I=true->nV l=false->hz (db l) deep (lo k) (py.U (db l).a) iN false->iy l deep k ⟨4,[],[],[],[]⟩ [] 0
 | cB (iN:bV):l.I=true->nV l=false->hz (db l) deep (lo k) (py.U (db l).a) iN true->cB l=true->iN.L.st=1->iy l deep k ⟨3,[],iN.L.x,[],(eo l).r⟩ [] 0
 | done (iN:bV):l.I=true->nV l=false->hz (db l) deep (lo k) (py.U (db l).a) iN true->¬(C.cB l=true/\iN.L.st=1)->iy l deep k ⟨iN.L.st,iN.L.val,iN.L.x,[],[]⟩ iN.tree 0
variable{X:aA}{pm cu:Perm}{H ab bX ai:ae}{n:Nat}
variable{deep:Bool}{l:ar}
theorem YZ(M:nw X)(g:bl pm H)(q:nr l){v:Value}(aY:gD H 0 v l){k:Int}(br:-9223372036854775808<=k)(av:k<=9223372036854775807):
 Call X pm F.si [v,.bool deep,.int .i64 k] H λr ab=>K pm H ab/\∃u C aH a t e,r=.tuple #[u,C,.int .i64 e]/\ky ab H.next u a/\gp ab (λb=>H.next<=b) aH C t/\H.next<=aH/\iy l deep k a t e:=by
 refine Call.W M.si rfl λaG hQ=>?_;obtain⟨c1,_,rfl,hc,hr⟩:=id aY;let⟨N,O,D,_⟩:=id hc;let⟨E,G,e2,_⟩:=id hr;subst D e2;obtain⟨p0,aJ⟩:=ε H.next;obtain⟨I,aj⟩:=ε (H.new (.cells [.slice N l.a.length O,.slice E l.rows.length G] (.t T.TJ)));have k1:K pm H I:=by rw[aj];exact K.new g _
 have g1:=k1.h;have bs:I.get p0=some (.cells [.slice N l.a.length O,.slice E l.rows.length G] (.t T.TJ)):=by rw[aj,aJ];exact cc
 have n1:I.next=p0+1:=by rw[aj,aJ];rfl
 obtain⟨p,aK⟩:=ε I.next;obtain⟨J,an⟩:=ε (I.new (.cells [.int .i64 0,.string ⟨#[]⟩,.slice none 0 0,.slice none 0 0,.slice none 0 0] (.t T.sk)));have x:K pm I J:=by rw[an];exact K.new g1 _
 have g2:=x.h;have bt:J.get p=some (.cells [.I 0,.string ⟨#[]⟩,.Z,.Z,.Z] (.t T.sk)):=by rw[an,aK];exact cc
 have a7:=x.some g1 bs;have a8:=k1.trans x;have I:J.next=p+1:=by rw[an,aK];rfl
 have W:pm.may p=true:=g.may ω;have Y:∀{ab:ae} {n:Nat},h7 ab n (.Z) []:=⟨fp.nil,λb o _ d e=>by cases e⟩
 have aM:∀m ab y B xv dv rv C e aH a t,aF 6 m=some (.P p)->aF 7 m=some C->aF 8 m=some (.I e)->K pm H ab->ab.get p=some (.cells [.I y,ak B,xv,dv,rv] (.t T.sk))->
  ky ab H.next (.agg #[.I y,ak B,xv,dv,rv]) a->gp ab (λb=>H.next<=b) aH C t->H.next<=aH->iy l deep k a t e->aG .ret m ab:=λm ab y B xv dv rv C e aH a t l6 l7 l8 kk hp aI c f q=>by
  refine hQ _ _ _ ⟨.inr rfl,[.agg #[.I y,ak B,xv,dv,rv],C,.I e],by simp[l6,l7,l8,hp,ft,bA,bB],kk,_,C,aH,a,t,e,rfl,aI,c,f,q⟩
 have aN:∀m ab y B e,aF 6 m=some (.P p)->aF 7 m=some (.Z)->aF 8 m=some (.I e)->K pm H ab->ab.get p=some (.cells [.I y,ak B,.Z,.Z,.Z] (.t T.sk))->iy l deep k ⟨y,B,[],[],[]⟩ [] e->aG .ret m ab:=λm ab y B e l6 l7 l8 kk hp q=>
  aM m ab y B _ _ _ _ e H.next _ [] l6 l7 l8 kk hp ⟨_,_,_,rfl,Y,Y,Y⟩ (.inl ⟨rfl,rfl⟩) (bc _) q
 simp[g.pick,g.make,  ptr,<-aJ,<-aj,<-aK,<-an,a7,bB,bA,-LZ,-LV,-En];refine al.of (aq:=[.agg #[.slice N l.a.length O,.slice E l.rows.length G]]) (qV M.tofA g2 (aY.aa.ext (a8.ext g)) q.s.ok) ?_;rintro _ H3 ⟨k3,rfl⟩;have g3:=k3.h;have aO:=K.trans a8 k3;have aP:=k3.some g2 bt;have a_:=k3.some g2 a7
 cases ad:l.I with
 | false=>
   obtain⟨b,a⟩:=ε (H3.put p (.cells [.int .i64 0,.string ⟨#[]⟩,.slice none 0 0,.slice none 0 0,.slice none 0 0] (.t T.sk)));have c:K pm H b:=by rw[a];exact aC.put aO ω aP σ' _
   simp[aP, setCells,W,<-a,-En];refine aN _ b 0 [] 1 σ' σ' σ' c (by rw[a];simp) (.form ad)
 | true=>
   simp[a_,-LU,-Em];have y:nV l=true↔∃i,i<l.a.length/\((l.a[i]?.map λd=>d.int&&(d.low.isEmpty||d.up.isEmpty)).getD false)=true:=by
    unfold nV;rw[List.any_eq_true];constructor
    ·rintro⟨d,hc,h⟩;let⟨i,_⟩:=u5 hc;grind
    ·grind
   have B:dE H3 (.slice N l.a.length O) l.a.length 5 (gA l.a):=(hc.imp (aO.ext g) λ_ _ _ h=>h).aZ;refine al.of (aI:=by simp;rfl) (aq:=[.slice N l.a.length O,.func (.func F.sj) #[] #[]]) (MF M.tofA g3 B (by have:=q.s.n;omega) (f:=F.sj) (cs:=#[]) (λi=>((l.a[i]?.map λd=>d.int&&(d.low.isEmpty||d.up.isEmpty)).getD false)) ?_ (t:=nV l) y) ?_
   ·rintro i J cs _ ⟨d,c,rfl⟩ x;refine Call.hT M.sj rfl ?_;have a:=K.new x.h (.cells d.cells (.t T.LN));have b:(J.new (.cells d.cells (.t T.LN))).get J.next=some (.cells d.cells (.t T.LN)):=cc;let⟨_,e,_,_,f⟩:=d;simp[a1.cells]at a b|-
    cases f with
    | false=>simp[x.h.pick,x.h.make,ptr,c];exact a
    | true=>
      rcases e with _ | ⟨_,e⟩
      ·simp[x.h.pick,x.h.make,ptr,c];exact a
      ·simp[x.h.pick,x.h.make,ptr,c];exact a
   rintro _ H4 ⟨k4,rfl⟩;have g4:=k4.h;have ao:=K.trans aO k4;have au:=k4.some g3 aP;have ba:=k4.some g3 a_
   cases ae:nV l with
   | true=>
     obtain⟨b,a⟩:=ε (H4.put p (.cells [.int .i64 0,.string ⟨#[]⟩,.slice none 0 0,.slice none 0 0,.slice none 0 0] (.t T.sk)));have c:K pm H b:=by rw[a];exact aC.put ao ω au σ' _
     simp[au, setCells,W,<-a,-Em];refine aN _ b 0 [] 10 σ' σ' σ' c (by rw[a];simp) (.wide ad ae)
   | false=>
     simp[ba,bB,bA,-LS];refine al.of (aq:=[.agg #[.slice N l.a.length O,.slice E l.rows.length G]]) (MZ M.tofC g4 q.s.ok (aY.aa.ext (ao.ext g)) (λx=>Jo q.s x)) ?_;rintro _ H5 ⟨k5,⟨h,_⟩ | ⟨_,f,_,rfl,x,hS⟩⟩
     ·grind
     have v:=k5.h;have bu:=K.trans ao k5;have bw:=k5.some g4 au;have bx:=k5.some g4 ba;have bz:=x;obtain⟨_,_,_,rfl,x,y,bb⟩:=bz;let⟨bd,bf,D,_⟩:=x.1.ex;let⟨bg,bh,e2,_⟩:=y.1.ex;let⟨ax,ay,e3,_⟩:=bb.1.ex;subst D e2 e3;obtain⟨X,az⟩:=ε H5.next;have bC:pm.may X=true:=v.may ω;have bD:∀Q,(H5.new Q).get X=some Q:=λQ=>by rw[az];simp
     obtain⟨r,aA⟩:=ε ((H5.new (.cells [.int .i64 0,.string ⟨#[]⟩,.slice none 0 0,.slice none 0 0,.slice none 0 0] (.t T.LO))).put X (.cells [.int .i64 f.st,ak f.val,.slice bd f.x.length bf,.slice bg f.d.length bh,.slice ax f.r.length ay] (.t T.LO)));have Z:K pm H5 r:=by rw[aA,az];exact gh v _ _
     have t:=Z.h;have af:=K.trans bu Z;have bj:=Z.some v bw;have bk:=Z.some v bx;have bl:r.get X=some (.cells [.I f.st,ak f.val,.slice bd f.x.length bf,.slice bg f.d.length bh,.slice ax f.r.length ay] (.t T.LO)):=by rw[aA];exact bO
     have x:r.next=X+1:=by rw[aA,az];rfl
     simp[v.pick,v.make,ptr, <-az,bD,bC,<-aA,setCells,-AO];refine cx.of t.ah rfl ?_;obtain⟨z,hz⟩:=ε r.next;have kU:K pm r (r.up 8):=(K.refl t).up 8;have aI:=λj=>(by rw[hz];exact t.none j:(r.up 8).get (z+j)=none);have bE:=(by rw[hz];exact t.O:(r.up 8).get z=none);obtain⟨F,ag⟩:=ε ((r.up 8).put (z+4) (.cells [.slice none 0 0,.slice none 0 0] (.t T.El)));have aB:K pm r F:=by rw[ag];exact aC.fill kU ω (aI 4) (by show z+4<r.next+8;omega) _
     have aQ:=aB.h;have bm:∀j,j≠4->F.get (z+j)=none:=λj s=>by rw[ag,a6 ω];exact aI j
     have bF:F.get (z+4)=some (.cells [.Z,.Z] (.t T.El)):=by rw[ag];exact bO
     have x:F.next=z+8:=by rw[ag,hz];rfl
     rw[<-hz];simp[b8,aI,bE,bk,Perm.make,Perm.pick,ptr,<-ag,-AO];refine cY aQ (aq:=[.slice N l.a.length O]) (by simp[bm]) rfl (λcu x=>tQ (w:=5) (cR:=72) M.k0 x (hc.imp ((K.trans af aB).ext g) λ_ _ _ h=>h) (by have:=q.s.n;omega) (λi cs ⟨d,_,e⟩=>by rw[e];rfl)) ?_;rintro _ H7 k7 ⟨f1,c1,bG⟩;have x:=k7.h;have x:=k7.next;have bH:∀j,j<8->j≠4->H7.get (z+j)=none:=λj s x=>(k7.get _ ω).trans (bm j x);have bn:=k7.some aQ bF;let⟨R,e⟩:=c1.form;subst e;have bI:=λo=>ej (ah:=pm.ah) (ok:=pm.ok) (o:=o) (b:=z+4) (by have:=t.ah;omega);obtain⟨S,ai⟩:=ε (H7.put (z+4) (.cells [.slice R l.a.length l.a.length,.slice E l.rows.length G] (.t T.El)));have x:p0<z:=by have:=K.next af;have:=t.lt bk;omega
     have y:c6 [z+4] [p0]=true:=gd ω;simp[bH,bn,setCells,bA,bI,<-ai,y,b3,bZ,fT,cU,dj,x,-AO];have x:=K.trans af (K.trans aB k7);have bJ:K pm H S:=by rw[ai];exact aC.put x π bn σ' _
     have ht:decide (f.st=3)=cB l:=by unfold cB;rw[vg hS]
     have aR:S.get (z+4)=some (.cells [.slice R l.a.length l.a.length,.slice E l.rows.length G] (.t T.El)):=by rw[ai];exact bO
     have aS:∀b L,r.get b=some L->S.get b=some L:=λb L h=>by
      have:=t.lt h;rw[ai,a6 ω];exact k7.some aQ (aB.some t h)
     have bK:=aS _ _ bl;have bL:=aS _ _ bj;have r:=t.lt bl;have r:=t.lt bj;have bo:eS S F.next H7.next (.slice R l.a.length l.a.length) l.a.length 5 λj=>(if j<0 then eE (cB l) (l.ad j) else l.ad j).cells:=by
      have h:eS S F.next H7.next (.slice R l.a.length l.a.length) l.a.length 5 f1:=by rw[ai];exact c1.put (.inl ω) _
      refine h.congr λj s=>?_;let⟨d,D,e2⟩:=bG j s;rw[ar.kc s]at D;cases D;simp[e2]
     have r:=q.s.n;obtain⟨n,aT⟩:=ε l.a.length;rw[<-aT]at aR bo;simp[aR,<-aT,-LQ,-LY]
     refine fh.of (σ:=Nat) (λi=>[(11,.P (z+4)),(9,.P X),(6,.P p),(1,.bool deep),(2,.I k),(37,.I (n:Int)),(38,.I (i:Int))])
      (λi ab=>i<=n/\K pm H ab/\(∀b L,b<F.next->S.get b=some L->ab.get b=some L)/\S.next<=ab.next/\eS ab F.next H7.next (.slice R n n) n 5 λj=>(if j<i then eE (cB l) (l.ad j) else l.ad j).cells) (λi=>n-i) 0 σ' ⟨Nat.zero_le _,bJ,λ_ _ _ h=>h,bc _,bo⟩ ?_
     rintro i H9 ⟨_,u,aa,n9,aU⟩;have g9:=u.h;have bp:=aa _ _ ω aR;have aD:=aa _ _ ω bK;have bq:=aa _ _ ω bL;by_cases aE:i<n
     ·have o:wr .i64 ((i:Int)+1)=((i+1:Nat):Int):=by rw[cE];simp
      by_cases c:f.st=3
      ·let⟨b,w,V,q2,q3,P,T⟩:=aU.pos ω;cases q3;obtain⟨k,U⟩:=ε (w.set (i*5+3) (ak [48]));have r:=T.lt aE (δ:3<5);have sc:setCells w (i*5+3) [ak [48]]=some k:=by rw[U];exact setCells_one r
       obtain⟨ab,a⟩:=ε (H9.put b (.cells k (.n 5)));have r:H.next<=b:=by have:=K.next af;omega
       have q:pm.may b=true:=g.may r;have w:K pm H ab:=by rw[a];exact aC.put u r P σ' _
       rw[c]at ht;have ah:ey k 5 n λj=>(if j<i+1 then eE (cB l) (l.ad j) else l.ad j).cells:=by
        rw[U];refine T.set aE δ _ ?_ λj s h=>?_
        ·simp[<-ht,eE,a1.cells]
        ·by_cases e:j<i
         ·rw[aL e,aL ω]
         ·rw[aw e,aw ω]
       simp[aE,aD,c,bp,P,sc,q,<-a,o];refine kt.of (i+1) ?_ σ' ⟨ω,w,λ_ L hb h=>?_,?_,.inr ⟨b,k,V,q2,rfl,by rw[a];exact bO,ah⟩⟩
       ·show n-(i+1)<n-i;omega
       ·rw[a,a6 ω];exact aa _ _ hb h
       ·rw[a];exact n9
      ·simp[aE,aD,c,o];rw[j1 c]at ht;refine kt.of (i+1) ?_ σ' ⟨ω,u,aa,n9,aU.congr λj s=>?_⟩
       ·show n-(i+1)<n-i;omega
       ·simp[<-ht,eE]
     ·obtain rfl:i=n:=ω
      have bM:∀j,j<i->(db l).a[j]? = some (eE (cB l) (l.ad j)):=λj s=>by
       rw[<-wJ ω];exact ar.kc (by rw[p1];omega)
      have bN:gD H9 0 (.agg #[.slice R i i,.slice E l.rows.length G]) (db l):=by
       refine⟨_,_,rfl,?_,hr.ext (u.ext g)⟩;rw[p1,<-aT];exact ds.mono (eS.e (P:=gA (db l).a) aU λj s=>⟨_,bM j s,by rw[aL s]⟩) (Nat.zero_le _) λ_ _ _ h=>h
      simp[bp,bB,bA,-L0,-LX];refine al.of (aq:=[.agg #[.slice R i i,.slice E l.rows.length G],.bool deep,.I k]) (aci M g9 (q.ok ae) bN (λj s=>q.k j s) br av) ?_;rintro _ ah ⟨ab,c,b,xv,rv,aH,aV,rfl,a1,a6,bP⟩;have o:=ab.h;obtain⟨xb,xc,rfl,_⟩:=id a1.1.ex;obtain⟨rb,rfl⟩:=a6.form;obtain⟨aw,aW⟩:=ε ah.next;have bQ:pm.may aw=true:=o.may ω;have bR:∀Q,(ah.new Q).get aw=some Q:=λQ=>by rw[aW];exact cc
      obtain⟨w,aX⟩:=ε ((ah.new (.cells [.int .i64 0,.string ⟨#[]⟩,.slice none 0 0,.slice none 0 0,.slice none 0 0] (.t T.LP))).put aw (.cells [.int .i64 c.L.st,ak c.L.val,.slice xb c.L.x.length xc,.slice none 0 0,.slice none 0 0] (.t T.LP)));have U:K pm ah w:=by rw[aX,aW];exact gh o _ _
      have i:=U.h;have ka:K pm H w:=K.trans u (K.trans ab U);have aY:w.get aw=some (.cells [.I c.L.st,ak c.L.val,.slice xb c.L.x.length xc,.Z,.Z] (.t T.LP)):=by rw[aX];exact bO
      have aZ:=U.some o (ab.some g9 aD);have V:=U.some o (ab.some g9 bq);have i:=g9.lt aD;have l1:=g9.lt bq;have i:=K.next af;simp[o.pick,o.make,ptr, <-aW,bR,bQ,<-aX,setCells,-LW,-LR]
      cases b with
      | false=>
        obtain⟨b,a⟩:=ε (w.put p (.cells [.int .i64 4,.string ⟨#[]⟩,.slice none 0 0,.slice none 0 0,.slice none 0 0] (.t T.sk)));have e:K pm H b:=by rw[a];exact aC.put ka ω V σ' _
        simp[V,setCells,W,<-a];refine aN _ b 4 [] 0 σ' σ' σ' e (by rw[a];exact bO) (.jj c ad ae aV)
      | true=>
        have i:p<H9.next:=l1;have P:∀g cs z,g=w.put p (.cells cs z)->h7 g H9.next (.slice xb c.L.x.length xc) c.L.x/\gp g (λb=>H9.next<=b) aH (.slice rb c.tree.length c.tree.length) c.tree/\h7 g H4.next (.slice ax f.r.length ay) f.r:=λg cs z e=>by
         have a:=g4.lt au;have j:Ext H5 w:=λb L h=>U.some o (ab.some g9 (aa _ _ (by have:=t.lt (Z.some v h);omega) (aS _ _ (Z.some v h))));rw[e];exact⟨(a1.ext (U.ext o)).put i _,(a6.ext (U.ext o)).put i bP _,(bb.ext j).put a _⟩
        by_cases k:f.st=3/\c.L.st=1
        ·obtain⟨g,a⟩:=ε (w.put p (.cells [.int .i64 3,.string ⟨#[]⟩,.slice xb c.L.x.length xc,.slice none 0 0,.slice ax f.r.length ay] (.t T.sk)));have b:K pm H g:=by rw[a];exact aC.put ka ω V σ' _
         let⟨e,_,T⟩:=P g _ _ a;simp[V,aZ,aY,k.1,k.2,setCells,W,<-a];have hu:cB l=true:=by rw[<-ht,k.1];rfl
         refine aM _ g 3 [] _ _ _ _ 0 H.next ⟨3,[],c.L.x,[],(eo l).r⟩ [] σ' σ' σ' b (by rw[a];exact bO) ⟨_,_,_,rfl,e.mono (K.next u),Y,?_⟩ (.inl ⟨rfl,rfl⟩) (bc _) (.cB c ad ae aV hu k.2);rw[vg hS];exact T.mono (K.next ao)
        ·obtain⟨g,e⟩:=ε (w.put p (.cells [.int .i64 c.L.st,ak c.L.val,.slice xb c.L.x.length xc,.slice none 0 0,.slice none 0 0] (.t T.sk)));have i:K pm H g:=by rw[e];exact aC.put ka ω V σ' _
         let⟨T,r2,_⟩:=P g _ _ e;have hn:¬(cB l=true/\c.L.st=1):=λh=>k ⟨by have:=h.1;rw[<-ht]at this;exact tq this,h.2⟩;have H:∀m,aF 6 m=some (.P p)->aF 7 m=some (.slice rb c.tree.length c.tree.length)->aF 8 m=some (.I 0)->aG .ret m g:=λm a b d=>
          aM m g c.L.st c.L.val _ _ _ _ 0 aH ⟨c.L.st,c.L.val,c.L.x,[],[]⟩ c.tree a b d i (by rw[e];exact bO) ⟨_,_,_,rfl,T.mono (K.next u),Y,Y⟩ (r2.mono (K.next u)) (by have:=K.next u;omega) (.done c ad ae aV hn)
         by_cases e3:f.st=3
         ·have D:c.L.st≠1:=λh=>k ⟨e3,h⟩;simp[V,aZ,aY,e3,D,setCells,bB,bA,W,<-e];exact H _ σ' σ' σ'
         ·have a:(f.st==3)=false:=by simp[e3]
          simp[V,aZ,aY, a,setCells,bB,bA,W,<-e];exact H _ σ' σ' σ'
end Go.Dam.C
namespace Go.Dam.C
open Go Go.Dam
variable{deep:Bool}{l:ar}
theorem hz.up{l:ar}{m n:Nat}{s a b:bV}{x:Bool}(c:m<=n)(h:hz l deep m s a true)(g:hz l deep n s b x):a=b/\x=true:=by
 let⟨_,_⟩:=(h.more c rfl).Wc g;grind
theorem iy.mono{k dy:Int}{b c:cW}{d e:List cz}{f g:Int}(h:lo k<=lo dy)(i:iy l deep k b d f)(a:iy l deep dy c e g):f=g/\(b.st=4∨b=c/\d=e):=by
 cases i with
 | form _=>
   cases a with
   | form _=>grind
   | wide _ _=>grind
   | jj _ _ _ _=>grind
   | cB _ _ _ _ _ _=>grind
   | done _ _ _ _ _=>grind
 | wide _ _=>
   cases a with
   | form _=>grind
   | wide _ _=>grind
   | jj _ _ _ _=>grind
   | cB _ _ _ _ _ _=>grind
   | done _ _ _ _ _=>grind
 | jj _ _ _ _=>
   refine⟨?_,.inl rfl⟩
   cases a with
   | form _=>grind
   | wide _ _=>grind
   | jj _ _ _ _=>rfl
   | cB _ _ _ _ _ _=>rfl
   | done _ _ _ _ _=>rfl
 | cB _ _ _ b _ _=>
   cases a with
   | form _=>grind
   | wide _ _=>grind
   | jj _ _ _ c=>let⟨_,f⟩:=b.up h c;cases f
   | cB _ _ _ c _ _=>obtain⟨rfl,_⟩:=b.up h c;grind
   | done _ _ _ c _=>obtain⟨rfl,_⟩:=b.up h c;grind
 | done _ _ _ b _=>
   cases a with
   | form _=>grind
   | wide _ _=>grind
   | jj _ _ _ c=>let⟨_,f⟩:=b.up h c;cases f
   | cB _ _ _ c _ _=>obtain⟨rfl,_⟩:=b.up h c;grind
   | done _ _ _ c _=>obtain⟨rfl,_⟩:=b.up h c;grind
end Go.Dam.C
namespace Go.Dam.C
theorem s3{s:List UInt8}(h:isNum s=true):bk (rd s)=s:=by
 unfold isNum at h;unfold rd
 cases e:gq s with
 | none=>grind
 | some _=>
   unfold gq lh at e;grind
theorem nL{s:List UInt8}(h:isNum s=true):s≠[]:=by
 rintro rfl;simp[isNum,gq,lh,ik,kH,ie]at h
theorem Ja{s:List UInt8}(h:isNum s=false):rd s=0:=by
 unfold isNum at h;unfold rd;simp_all
theorem aat(b:Rat):rd (bk b)=b∨rd (bk b)=0:=by
 cases e:isNum (bk b) with
 | true=>exact .inl (xb (s3 e))
 | false=>exact .inr (Ja e)
theorem aad{b:Rat}(h:0<rd (bk b)):0<b:=by
 rcases aat b with e | e
 ·rwa [e]at h
 grind
def lQ(c:a1)(v:Rat):a1:=if isNum c.up=true/\rd c.up<=v then c else{c with up:=bk v}
def lP(c:a1)(v:Rat):a1:=if isNum c.low=true/\v<=rd c.low then c else{c with low:=bk v}
def f'(cs:List a1)(i:Nat)(v:Rat):List a1:=cs.set i (lQ (cs.getD i bY) v)
def gG(cs:List a1)(i:Nat)(v:Rat):List a1:=cs.set i (lP (cs.getD i bY) v)
def ju(c:a1):Bool:=isNum c.low&&(isNum c.up&&decide (rd c.up<rd c.low))
def k1(rows:List b9)(a:Rat)(all:Bool)(cs:List a1)(d:List (List UInt8)):Bool:=
 cs.any ju||(((eX ⟨cs,rows⟩ d false).isSome&&decide (0<rd (fR (eX ⟨cs,rows⟩ d false))))||(!all&&((eX ⟨cs,rows⟩ d true).isSome&&decide (a<=rd (fR (eX ⟨cs,rows⟩ d true))))))
structure sv(tree:List cz)(k:Nat)(cs:List a1)(s:List Bool)(x:cz):Prop where
 n:isNum x.at'=true
 w:(rd x.at').den=1
 c:x.ad<(cs.length:Int)
 i:(cs.getD x.ad.toNat bY).int=true
 XI:(k:Int)<x.l
 XM:x.l<(tree.length:Int)
 Ya:s.getD x.l.toNat false=false
 l7:(k:Int)<x.r
 l8:x.r<(tree.length:Int)
 aap:(s.set x.l.toNat true).getD x.r.toNat false=false
inductive h6(rows:List b9)(tree:List cz)(kL:Rat)(all:Bool):Nat->List a1->List Bool->Bool->List Bool->Prop
 | leaf (k:Nat) (cs:List a1) (s:List Bool) (x:cz):tree[k]? = some x->x.ad<0->h6 rows tree kL all k cs s (k1 rows kL all cs x.d) (s.set k true)
 | bad (k:Nat) (cs:List a1) (s jJ:List Bool) (x:cz):tree[k]? = some x->0<=x.ad->¬sv tree k cs (s.set k true) x->h6 rows tree kL all k cs s false jJ
 | left (k:Nat) (cs:List a1) (s Ah:List Bool) (x:cz):tree[k]? = some x->0<=x.ad->sv tree k cs (s.set k true) x->h6 rows tree kL all x.l.toNat (f' cs x.ad.toNat (rd x.at')) (((s.set k true).set x.l.toNat true).set x.r.toNat true) false Ah->h6 rows tree kL all k cs s false Ah
 | both (k:Nat) (cs:List a1) (s Ah SC:List Bool) (b:Bool) (x:cz):tree[k]? = some x->0<=x.ad->sv tree k cs (s.set k true) x->h6 rows tree kL all x.l.toNat (f' cs x.ad.toNat (rd x.at')) (((s.set k true).set x.l.toNat true).set x.r.toNat true) true Ah->h6 rows tree kL all x.r.toNat (gG cs x.ad.toNat (rd x.at'+1)) Ah b SC->h6 rows tree kL all k cs s b SC
structure pK(rows:List b9)(cs:List a1)(x:Nat->Rat):Prop where
 f:h4 ⟨cs,rows⟩ x
 w:∀i,i<cs.length->(cs.getD i bY).int=true->(x i).den=1
structure tT(l:ar)(cs:List a1):Prop where
 len:cs.length=l.a.length
 c:∀i,i<cs.length->(cs.getD i bY).cost=(l.ad i).cost/\(cs.getD i bY).int=(l.ad i).int
def kB(l:ar)(cs:List a1)(a:Rat)(all:Bool):Prop:=∀x,pK l.rows cs x->all=false/\a<=l.P x
theorem SQ{l:ar}{cs:List a1}(h:tT l cs)(x:Nat->Rat):(⟨cs,l.rows⟩:ar).P x=l.P x:=by
 show aS (λi=>rd (cs.getD i bY).cost*x i) cs.length=aS (λi=>rd (l.ad i).cost*x i) l.a.length;rw[<-h.len];exact c9 λi a=>by rw[(h.c i a).1]
theorem Bm{aa:ar}{a:List (List UInt8)}{bQ:Bool}{b:Rat}(h:eX aa a bQ=some b):aa.I=true:=by
 unfold eX at h;split at h
 ·exact CN (by assumption)
 ·cases h
theorem Of{l:ar}{cs:List a1}{a:Rat}{all:Bool}(h:cs.any ju=true):kB l cs a all:=by
 intro _ b;let⟨_,c,h⟩:=List.any_eq_true.1 h;obtain⟨i,e,rfl⟩:=ux (d:=bY) c;unfold ju at h;simp at h;let⟨a,c,f⟩:=h;let⟨g,j⟩:=b.f.c i e;exact absurd f (fy.2 (Rat.le_trans (g (nL a)) (j (nL c))))
theorem QV{l:ar}{cs:List a1}{a:Rat}{all:Bool}{d:List (List UInt8)}(c:(eX ⟨cs,l.rows⟩ d false).isSome=true)(b:0<rd (fR (eX ⟨cs,l.rows⟩ d false))):kB l cs a all:=by
 intro _ d;let⟨_,a⟩:=n0.1 c;rw[a]at b;have:=Az d.f (vQ (Bm a) a);simp at this;exact absurd (aad b) (fy.2 this)
theorem Qc{l:ar}{cs:List a1}{e:Rat}{all:Bool}{d:List (List UInt8)}(ax:tT l cs)(f:∀b,eX ⟨cs,l.rows⟩ d true=some b->rd (bk b)=b)(h:k1 l.rows e all cs d=true):kB l cs e all:=by
 unfold k1 at h;rw[jG,jG]at h
 rcases h with h | h | h
 ·exact Of h
 ·simp at h;exact QV h.1 h.2
 ·intro _ d;simp at h;let⟨_,g,a⟩:=h;let⟨b,c⟩:=n0.1 g;rw[c]at a;have a:e<=rd (bk b):=a;rw[f b c]at a;have:=Az d.f (vQ (Bm c) c);simp at this;rw[SQ ax]at this;grind
theorem Ea{rows:List b9}{cs:List a1}{x:Nat->Rat}{i:Nat}{c:a1}(az:i<cs.length)(h:pK rows cs x)(d:c.int=(cs.getD i bY).int)(aY:c.low≠[]->rd c.low<=x i)(a:c.up≠[]->x i<=rd c.up):pK rows (cs.set i c) x:=by
 refine⟨⟨λj a=>?_,λj a=>?_⟩,λj a b=>?_⟩
 ·have a:j<cs.length:=φ a
  show(((cs.set i c).getD j bY).low≠[]->rd ((cs.set i c).getD j bY).low<=x j)/\(((cs.set i c).getD j bY).up≠[]->x j<=rd ((cs.set i c).getD j bY).up);rw[pX az];by_cases e:j=i
  ·grind
  ·rw[aw e];exact h.f.c j a
 ·have e:gz (⟨cs.set i c,rows⟩:ar) x j=gz (⟨cs,rows⟩:ar) x j:=by
   show aS (λq=>hs ((⟨cs,rows⟩:ar).row j).G q*x q) (cs.set i c).length=_;rw[tl];rfl
  rw[e];exact h.f.r j a
 ·have c:j<cs.length:=φ a
  rw[pX az]at b;by_cases e:j=i
  ·subst e;rw[aL rfl,d]at b;exact h.w j c b
  ·rw[aw e]at b;exact h.w j c b
theorem Gy{q:Rat}(h:q.den=1):∃z:Int,q=(z:Rat):=⟨q.num,by
 have:=s6 q;rw[h]at this;grind⟩
theorem Px{p q:Rat}(b:p.den=1)(c:q.den=1)(h:p<q):p+1<=q:=by
 obtain⟨a,rfl⟩:=Gy b;obtain⟨_,rfl⟩:=Gy c;have h:=Rat.intCast_lt_intCast.1 h;have e:((a:Int):Rat)+1=((a+1:Int):Rat):=σ'
 rw[e];exact Rat.intCast_le_intCast.2 ω
theorem ys{c:a1}{v:Rat}:(lQ c v).int=c.int/\(lQ c v).low=c.low/\(lQ c v).cost=c.cost/\(lQ c v).name=c.name:=by
 unfold lQ;grind
theorem yh{c:a1}{v:Rat}:(lP c v).int=c.int/\(lP c v).up=c.up/\(lP c v).cost=c.cost/\(lP c v).name=c.name:=by
 unfold lP;grind
theorem tT.set{l:ar}{cs:List a1}(h:tT l cs){i:Nat}{c:a1}(az:i<cs.length)(b:c.cost=(cs.getD i bY).cost)(d:c.int=(cs.getD i bY).int):tT l (cs.set i c):=by
 refine⟨by simp[h.len],λj c=>?_⟩;have a:j<cs.length:=φ c
 rw[pX az];by_cases e:j=i
 ·subst e;rw[aL rfl,b,d];exact h.c j a
 ·rw[aw e];exact h.c j a
theorem h6.sound{l:ar}{e:List cz}{c:Rat}{all:Bool}{I:Nat->List a1->Prop}
 (u:∀k cs x,I k cs->e[k]? = some x->x.ad<0->k1 l.rows c all cs x.d=true->kB l cs c all)
 (j:∀k cs x,I k cs->e[k]? = some x->0<=x.ad->isNum x.at'=true->(rd x.at').den=1->x.ad<(cs.length:Int)->(cs.getD x.ad.toNat bY).int=true->rd (bk (rd x.at'+1))=rd x.at'+1/\I x.l.toNat (f' cs x.ad.toNat (rd x.at'))/\I x.r.toNat (gG cs x.ad.toNat (rd x.at'+1)))
 {k:Nat} {cs:List a1} {s f:List Bool} {b:Bool} (h:h6 l.rows e c all k cs s b f):I k cs->b=true->kB l cs c all:=by
 induction h with
 | leaf k cs s x _ _=>grind
 | bad k cs s f x _ _ _=>grind
 | left k cs s _ x _ _ _ _ _=>grind
 | both k cs s _ _ b x l m a _ _ n o=>
   intro c p;let⟨_,e,q⟩:=j k cs x c l m a.n a.w a.c a.i;have r:=n e rfl;have s:=o q p;intro y b;have d:x.ad.toNat<cs.length:=by have:=a.c;omega
   have t:=b.w _ d a.i;let⟨g,h⟩:=b.f.c _ d;by_cases i:y x.ad.toNat<=rd x.at'
   ·refine r y (Ea d b ys.1 (by rw[ys.2.1];exact g) ?_);unfold lQ;split
    ·exact h
    ·intro _;show y x.ad.toNat<=rd (bk (rd x.at'));rw[s3 a.n];exact i
   ·have c:=Px a.w t (Rat.not_le.1 i);refine s y (Ea d b yh.1 ?_ (by rw[yh.2.1];exact h));unfold lP;split
    ·exact g
    grind
def oM(l:ar)(r:List (List UInt8)):Bool:=(List.range l.a.length).all λi=>!((l.ad i).int&&(decide (i<r.length)&&decide (r.getD i []≠[48])))
def j5(l:ar)(a:List cz)(c:List UInt8)(all:Bool)(b:Bool):Prop:=
 if l.I=true/\0<a.length/\a.length<=601/\(isNum c=true∨all=true) then
  ∃t d,h6 l.rows a (rd c) all 0 l.a (List.replicate a.length false) t d/\b=(t&&!d.contains false)
 else b=false
def iU(l:ar)(a:cW)(c:List cz)(b:Bool):Prop:=
 if l.I=true/\a.d.length=0 then
  if a.st=1 then
   if(gy l a.x).isSome=true/\fR (gy l a.x)=a.val/\fU l a.x=true/\jm l a.x=true/\a.r.length=0 then j5 l c a.val false b else b=false
  else if a.st=2 then
   if a.val=[]/\a.x.length+a.r.length=0 then j5 l c [] true b else b=false
  else if a.st=3 then b=(oM l a.r&&(decide (a.val=[])&&(fU l a.x&&(jm l a.x&&(iL l a.r&&decide (c.length=0))))))
  else b=false
 else b=false
inductive oe(l:ar)(a:cW):Prop
 | opt (x:Nat->Rat):a.st=1->pK l.rows l.a x->a.val=bk (l.P x)->kB l l.a (l.P x) false->oe l a
 | inf:a.st=2->a.val=[]->kB l l.a 0 true->oe l a
 | cB (x r:Nat->Rat):a.st=3->a.val=[]->pK l.rows l.a x->om l r->(∀i,i<l.a.length->(l.ad i).int=true->r i=0)->oe l a
theorem aaN{a:Int}{s b q k:Rat}(h:xy a s b)(g:xy a q 0)(av:0<=k):xy a (s+k*q) b:=by
 let⟨a,c,_⟩:=h;let⟨d,f,_⟩:=g;refine⟨λe=>?_,λe=>?_,λe _=>?_⟩
 ·have g:=a e;have b:=fW av (show 0<=-q by have:=d e;grind);grind
 ·have a:=c e;have b:=fW av (f e);grind
 grind
theorem h4.R3{aa:ar}{x r:Nat->Rat}(h:h4 aa x)(g:om aa r){k:Rat}(av:0<=k):h4 aa λi=>x i+k*r i:=by
 refine⟨λj a=>?_,λi b=>?_⟩
 ·let⟨c,d⟩:=h.c j a;let⟨f,i⟩:=g.c j a;refine⟨λe=>?_,λe=>?_⟩
  ·have a:=c e;have a:=fW av (f e);grind
  ·have a:=d e;have a:=fW av (show 0<=-r j by have:=i e;grind);grind
 ·have e:gz aa (λi=>x i+k*r i) i=gz aa x i+k*gz aa r i:=by
   unfold gz;rw[<-fP,<-kr];exact c9 λj _=>π
  rw[e];exact aaN (h.r i b) (g.r i b) av
theorem oe.wS{l:ar}{x r:Nat->Rat}(c:pK l.rows l.a x)(d:om l r)(aP:∀i,i<l.a.length->(l.ad i).int=true->r i=0){a:Rat}{all:Bool}(h:kB l l.a a all):False:=by
 have b:=d.n;have e:0 < -l.P r:=π
 have f:l.P r≠0:=π
 by_cases f:a<=l.P x-1
 ·have f:0<=(l.P x-a+1)/(-l.P r):=by
   rw[Rat.div_def];exact fW π (iJ (Rat.inv_pos.2 e))
  have g:pK l.rows l.a λi=>x i+(l.P x-a+1)/(-l.P r)*r i:=by
   refine⟨c.f.R3 d f,λi f b=>?_⟩;show(x i+(l.P x-a+1)/(-l.P r)*r i).den=1;rw[aP i f b,mX,lB];exact c.w i f b
  have f:=(h _ g).2;have g:l.P (λi=>x i+(l.P x-a+1)/(-l.P r)*r i)=l.P x+(l.P x-a+1)/(-l.P r)*l.P r:=by
   unfold ar.P;rw[<-fP,<-kr];exact c9 λ_ _=>π
  rw[g]at f;have f:(l.P x-a+1)/(-l.P r)*l.P r=-(l.P x-a+1):=π
  grind
 ·have a:0<=2/(-l.P r):=by
   rw[Rat.div_def];exact fW δ (iJ (Rat.inv_pos.2 e))
  have e:pK l.rows l.a λi=>x i+2/(-l.P r)*r i:=by
   refine⟨c.f.R3 d a,λi a b=>?_⟩;show(x i+2/(-l.P r)*r i).den=1;rw[aP i a b,mX,lB];exact c.w i a b
  have a:=(h _ e).2;have e:l.P (λi=>x i+2/(-l.P r)*r i)=l.P x+2/(-l.P r)*l.P r:=by
   unfold ar.P;rw[<-fP,<-kr];exact c9 λ_ _=>π
  rw[e]at a;have a:2/(-l.P r)*l.P r=-2:=π
  grind
theorem oe.agree{l:ar}{a b:cW}(h:oe l a)(g:oe l b):a.st=b.st/\a.val=b.val:=by
 have a:∀{x:Nat->Rat} {b:Rat},pK l.rows l.a x->kB l l.a b true->False:=λc h=>by cases (h _ c).1
 rcases h with⟨x,s,f,v,ah⟩ | ⟨s,v,ah⟩ | ⟨x,r,s,v,f,Ji,z⟩<;>rcases g with⟨xT,jJ,ic,aQ,ry⟩ | ⟨jJ,aQ,ry⟩ | ⟨xT,bG,jJ,aQ,ic,Jj,acH⟩
 ·have b:=(ah _ ic).2;have b:=(ry _ f).2;have:l.P x=l.P xT:=π
  exact⟨s.trans jJ.symm,by rw[v,aQ,this]⟩
 ·exact(a f ry).elim
 ·exact(oe.wS ic Jj acH ah).elim
 ·exact(a ic ah).elim
 ·exact⟨s.trans jJ.symm,v.trans aQ.symm⟩
 ·exact(a ic ah).elim
 ·exact(oe.wS f Ji z ry).elim
 ·exact(a f ry).elim
 grind
theorem JX{l:ar}{xs:List (List UInt8)}(h:jm l xs=true):∀i,i<l.a.length->(l.ad i).int=true->(bU xs i).den=1:=by
 unfold jm at h;rw[bK]at h;intro i a _;have:=AA.1 h.2 i a;grind
theorem JU{l:ar}{xs:List (List UInt8)}{v:Rat}(h:gy l xs=some v):v=l.P (bU xs):=by
 unfold gy at h;grind
theorem CM{l:ar}{xs:List (List UInt8)}{m:Nat}(h:dJ l xs m=true):xs.length=m/\xs.all isNum=true:=by
 unfold dJ at h;grind
theorem W9{l:ar}{r:List (List UInt8)}(h:oM l r=true)(a:iL l r=true):∀i,i<l.a.length->(l.ad i).int=true->bU r i=0:=by
 intro i b c;unfold iL at a;rw[bK]at a;have d:=(CM a.1).1;unfold oM at h;have:=eA.1 h i (o6.2 b);rw[c,hd (ω:i<r.length)]at this;simp only[Bool.true_and,ir,decide_eq_false_iff_not,ne_eq,Classical.not_not]at this;unfold bU;rw[this,<-xa];exact bI.rd (nx pA)
theorem iU.Jy{l:ar}{a:cW}{e:List cz}(ax:∀b all k,h6 l.rows e b all 0 l.a (List.replicate e.length false) true k->kB l l.a b all)(h:iU l a e true):oe l a:=by
 unfold iU at h;split at h
 ·rename_i f;have g:∀{b:List UInt8} {all:Bool},j5 l e b all true->kB l l.a (rd b) all/\(isNum b=true∨all=true):=λ{b all} h=>by
   unfold j5 at h;grind
  split at h
  ·rename_i m;split at h
   ·rename_i n;let⟨l,d,o,p,_⟩:=n;let⟨v,i⟩:=n0.1 l;rw[i]at d;have d:bk v=a.val:=d;let⟨j,c⟩:=g h;have c:isNum a.val=true:=by
     rcases c with c | c
     ·exact c
     ·cases c
    have h:=JU i;have q:rd a.val=v:=by
     have:=s3 c;rw[<-d]at this|-;exact xb this
    rw[q,h]at j;exact .opt (bU a.x) m ⟨uv f.1 o,JX p⟩ (by rw[<-h,d]) j
   ·cases h
  ·split at h
   ·rename_i r;split at h
    ·rename_i s;let⟨a,_⟩:=g h;exact .inf r s.1 λx c=>by cases (a x c).1
    ·cases h
   ·split at h
    ·rename_i t;have h:=h.symm;simp at h;let⟨i,j,l,o,d,_⟩:=h;have c:=d;unfold iL at c;rw[bK]at c;exact .cB (bU a.x) (bU a.r) t j ⟨uv f.1 l,JX o⟩ ((z7 f.1).1 c.2) (W9 i d)
    ·cases h
 ·cases h
inductive cQ
 | ag (k:Nat)
 | aH (k:Nat) (a b:cQ)
def cQ.rt:cQ->Nat
 | .ag k=>k
 | .aH k _ _=>k
def cQ.B:cQ->List Nat
 | .ag k=>[k]
 | .aH k a b=>k::(a.B++b.B)
def cQ.gQ:cQ->List Nat
 | .ag k=>[k]
 | .aH _ a b=>a.gQ++b.gQ
def cQ.jK(k n:Nat):cQ->cQ
 | .ag j=>if j=k then .aH k (.ag n) (.ag (n+1)) else .ag j
 | .aH j a b=>.aH j (a.jK k n) (b.jK k n)
theorem cQ.Ae{k n:Nat}:∀{t:cQ},(t.jK k n).rt=t.rt
 | .ag _=>by
   unfold cQ.jK;split
   ·rename_i e;exact e.symm
   ·rfl
 | .aH _ _ _=>rfl
theorem cQ.nb:∀{t:cQ},t.rt∈t.B
 | .ag _=>.head _
 | .aH _ _ _=>.head _
theorem cQ.wG:∀{t:cQ} {k:Nat},k∈t.gQ->k∈t.B
 | .ag _,k,h=>h
 | .aH _ _ _,k,h=>by
   rcases fc.1 h with h | h
   ·exact .tail _ (fc.2 (.inl (cQ.wG h)))
   ·exact .tail _ (fc.2 (.inr (cQ.wG h)))
theorem cQ.DP{k n:Nat}:∀{t:cQ},k∉t.gQ->t.jK k n=t
 | .ag _,h=>by
   unfold cQ.jK;rw[aw];rintro rfl;exact h (.head _)
 | .aH _ a b,h=>by
   have c:k∉a.gQ:=λe=>h (fc.2 (.inl e));have a:k∉b.gQ:=λe=>h (fc.2 (.inr e));rw[cQ.jK,cQ.DP c,cQ.DP a]
theorem cQ.Hg{k n:Nat}:∀{t:cQ},t.B.Nodup->k∈t.gQ->(t.jK k n).B.Perm (n::(n+1)::t.B)
 | .ag j,_,h=>by
   obtain rfl:k=j:=mV.1 h;rw[cQ.jK,aL rfl];show[k,n,n+1].Perm [n,n+1,k];exact(@List.perm_append_comm _ [k] [n,n+1])
 | .aH j a b,e,h=>by
   have f:(j::(a.B++b.B)).Nodup:=e;let⟨_,e⟩:=List.nodup_cons.1 f;let⟨g,i,d⟩:=List.nodup_append.1 e;rw[cQ.jK];show(j::((a.jK k n).B++(b.jK k n).B)).Perm (n::(n+1)::j::(a.B++b.B));have c:((a.jK k n).B++(b.jK k n).B).Perm (n::(n+1)::(a.B++b.B))->(j::((a.jK k n).B++(b.jK k n).B)).Perm (n::(n+1)::j::(a.B++b.B)):=λp=>
    (p.cons j).trans (@List.perm_append_comm _ [j] [n,n+1] |>.append_right _)
   rcases fc.1 h with h | h
   ·have l:k∉b.gQ:=λe=>d _ (cQ.wG h) _ (cQ.wG e) rfl;rw[cQ.DP l]at c|-;exact c ((cQ.Hg g h).append_right b.B)
   ·have l:k∉a.gQ:=λe=>d _ (cQ.wG e) _ (cQ.wG h) rfl;rw[cQ.DP l]at c|-;exact c (((cQ.Hg i h).append_left a.B).trans (by
     have:=@List.perm_append_comm _ a.B [n,n+1];have:=this.append_right b.B;simpa using this))
structure kv(c:a1)(v:Rat):Prop where
 i:c.int=true
 cw:isNum c.low=true
 gg:isNum c.up=true
 ah:rd c.low<=v
 az:v<=rd c.up
 d:v.den≠1
 c0:-ff<=v
 b':v<=ff
def ec(v:Rat):Rat:=((v.floor:Int):Rat)
theorem Hc{z:Int}(aP:z.natAbs<=10^20):bI e0 (z:Rat):=by
 refine⟨?_,?_⟩
 ·rw[Rat.num_intCast];exact a8 aP (by rw[<-fQ];exact j4 δ)
 ·rw[Rat.den_intCast];exact As 1900
theorem WD{v:Rat}(a:-ff<=v)(b:v<=ff):v.floor.natAbs<=10^20:=by
 refine ze ?_ (Rat.le_trans (Rat.floor_le v) b);rw[vs]at a|-;exact Rat.intCast_le_intCast.2 (Rat.le_floor_iff.2 a)
theorem WC{v:Rat}(a:-ff<=v)(b:v<=ff)(d:v.den≠1):(v.floor+1).natAbs<=10^20:=by
 refine ze ?_ ?_
 ·rw[vs]at a|-;have:=Rat.le_floor_iff.2 a;exact Rat.intCast_le_intCast.2 ω
 ·rw[x0]at b|-;have a:((v.floor:Int):Rat)<((10^20:Int):Rat):=(by have:=Cc d;grind);have a:=Rat.intCast_lt_intCast.1 a;exact Rat.intCast_le_intCast.2 ω
theorem O6(v:Rat):ec v+1=((v.floor+1:Int):Rat):=by simp[ec]
theorem kv.bI{c:a1}{v:Rat}(h:kv c v):bI e0 (ec v)/\C.bI e0 (ec v+1):=⟨Hc (WD h.c0 h.b'),by rw[O6];exact Hc (WC h.c0 h.b' h.d)⟩
theorem kv.Vf{c:a1}{v:Rat}(h:kv c v):lQ c (ec v)={c with up:=bk (ec v)}:=by
 unfold lQ;rw[aw];rintro⟨_,_⟩;have a:ec v<v:=Cc h.d;have:=h.az;grind
theorem Qm(v:Rat):v<ec v+1:=by
 rw[O6];have:=Rat.lt_floor (x:=v);simp at this|-;grind
theorem kv.UQ{c:a1}{v:Rat}(h:kv c v):lP c (ec v+1)={c with low:=bk (ec v+1)}:=by
 unfold lP;rw[aw];rintro⟨_,_⟩;have a:=Qm v;have:=h.ah;grind
theorem kv.f'{cs:List a1}{i:Nat}{v:Rat}(h:kv (cs.getD i bY) v):C.f' cs i (ec v)=h2 cs i (bk (ec v)):=by
 unfold C.f' h2;rw[h.Vf]
theorem kv.gG{cs:List a1}{i:Nat}{v:Rat}(h:kv (cs.getD i bY) v):C.gG cs i (ec v+1)=ig cs i (bk (ec v+1)):=by
 unfold C.gG ig;rw[h.UQ]
def ee(a:List cz)(P:Nat->List a1->List (List UInt8)->Prop):cQ->List a1->Prop
 | .ag k,b=>∃x,a[k]? = some x/\x.ad<0/\P k b x.d
 | .aH k c d,b=>∃x i v,a[k]? = some x/\x.ad=((i:Nat):Int)/\x.at'=bk (ec v)/\x.l=(c.rt:Int)/\x.r=(d.rt:Int)/\k<c.rt/\k<d.rt/\i<b.length/\kv (b.getD i bY) v/\ee a P c (h2 b i (bk (ec v)))/\ee a P d (ig b i (bk (ec v+1)))
section
variable{tree tJ:List cz}{P qW:Nat->List a1->List (List UInt8)->Prop}
theorem ee.JQ{k:Nat}{c:cz}(av:tree[k]? = some c)(f:c.ad<0)(a:∀j,j≠k->∀y,tree[j]? = some y->tJ[j]? = some y)(e:∀j cs d,j≠k->j<tree.length->P j cs d->qW j cs d)(aY:∀cs,P k cs c.d->∃x,tJ[k]? = some x/\x.ad<0/\qW k cs x.d):∀{t:cQ} {cs:List a1},ee tree P t cs->ee tJ qW t cs
 | .ag j,cs,h=>by
   let⟨x,b,i,g⟩:=h;by_cases d:j=k
   ·subst d;rw[av]at b;cases b;exact aY cs g
   ·exact⟨x,a j d _ b,i,e j cs _ d (hZ.1 b).1 g⟩
 | .aH j _ _,cs,h=>by
   let⟨x,i,v,b,d,g,l,m,n,o,p,q,r,s⟩:=h;have t:j≠k:=by
    rintro rfl;rw[av]at b;cases b;omega
   exact⟨x,i,v,a j t _ b,d,g,l,m,n,o,p,q,ee.JQ av f a e aY r,ee.JQ av f a e aY s⟩
theorem ee.split{k n:Nat}{e a y z:cz}(av:tree[k]? = some e)(u:e.ad<0)(b:∀j,j≠k->∀y,tree[j]? = some y->tJ[j]? = some y)(f:∀j cs d,j≠k->j<tree.length->P j cs d->qW j cs d)(c:k<n){i:Nat}{v:Rat}(g:tJ[k]? = some a)(h:a.ad=(i:Int))(l:a.at'=bk (ec v))(m:a.l=(n:Int))(o:a.r=((n+1:Nat):Int))(p:tJ[n]? = some y)(q:y.ad<0)(r:tJ[n+1]? = some z)(s:z.ad<0)
 (aY:∀cs,P k cs e.d->i<cs.length/\kv (cs.getD i bY) v/\qW n (h2 cs i (bk (ec v))) y.d/\qW (n+1) (ig cs i (bk (ec v+1))) z.d):∀{t:cQ} {cs:List a1},ee tree P t cs->ee tJ qW (t.jK k n) cs
 | .ag j,cs,n=>by
   let⟨x,d,t,k⟩:=n;unfold cQ.jK;split
   ·rename_i A;subst A;rw[av]at d;cases d;let⟨j,B,C,D⟩:=aY cs k;exact⟨a,i,v,g,h,l,m,o,c,Nat.lt_succ_of_lt c,j,B,⟨y,p,q,C⟩,⟨z,r,s,D⟩⟩
   ·rename_i w;exact⟨x,b j w _ d,t,f j cs _ w (hZ.1 d).1 k⟩
 | .aH j _ _,cs,i=>by
   let⟨x,n,t,d,v,y,z,B,C,D,E,F,G,H⟩:=i;have I:j≠k:=by
    rintro rfl;rw[av]at d;cases d;omega
   refine⟨x,n,t,b j I _ d,v,y,?_,?_,?_,?_,E,F,ee.split av u b f c g h l m o p q r s aY G,ee.split av u b f c g h l m o p q r s aY H⟩
   ·rw[cQ.Ae];exact z
   ·rw[cQ.Ae];exact B
   ·rw[cQ.Ae];exact C
   ·rw[cQ.Ae];exact D
theorem ee.leaf{k:Nat}{a:cz}(av:tree[k]? = some a)(b:a.ad<0):∀{t:cQ} {cs:List a1},ee tree P t cs->k∈t.B->k∈t.gQ
 | .ag _,cs,_,c=>c
 | .aH j _ _,cs,h,d=>by
   let⟨_,_,_,c,_,_,_,_,_,_,_,_,e,f⟩:=h;have g:k≠j:=by
    rintro rfl;rw[av]at c;cases c;omega
   rcases hH.1 d with h | h
   ·exact absurd h g
   ·rcases fc.1 h with h | h
    ·exact fc.2 (.inl (ee.leaf av b e h))
    ·exact fc.2 (.inr (ee.leaf av b f h))
theorem ee.imp(a:∀k cs d,P k cs d->qW k cs d):∀{t:cQ} {cs:List a1},ee tree P t cs->ee tree qW t cs
 | .ag _,cs,h=>by
   let⟨x,b,c,d⟩:=h;exact⟨x,b,c,a _ _ _ d⟩
 | .aH _ _ _,cs,h=>by
   let⟨x,i,v,b,c,d,e,f,g,j,k,l,m,n⟩:=h;exact⟨x,i,v,b,c,d,e,f,g,j,k,l,m.imp a,n.imp a⟩
variable{rows:List b9}{kL:Rat}{all:Bool}
theorem uy{s:List Bool}{i j:Nat} (az:i<s.length:=by omega):(s.set i true).getD j false=if j=i then true else s.getD j false:=by
 simp only[e5];by_cases e:j=i
 ·subst e;simp[az]
 ·rw[o2 (Ne.symm e),aw e]
theorem ee.node:∀{t:cQ} {cs:List a1},ee tree (λ_ cs d=>k1 rows kL all cs d=true) t cs->t.B.Nodup->∀{s:List Bool},s.length=tree.length->(∀j∈t.B,j<tree.length)->(∀j∈t.B,j≠t.rt->s.getD j false=false)->∀{b:Bool} {f:List Bool},h6 rows tree kL all t.rt cs s b f->b=true/\f.length=tree.length/\∀j,f.getD j false=true↔(s.getD j false=true∨j∈t.B)
 | .ag k,cs,h,_,s,c,d,_,b,f,e=>by
   let⟨x,b,_,g⟩:=h;have i:k<tree.length:=d k (.head _);have a:tree[(cQ.ag k).rt]? = some x:=b
   cases e with
   | leaf _ _ _ _ h _=>
     rw[a]at h;cases h;refine⟨g,by simp[c],λj=>?_⟩;show(s.set k true).getD j false=true↔_∨j∈[k];rw[uy,mV];by_cases e:j=k<;>simp[e]
   | bad _ _ _ _ _ h _=>rw[a]at h;cases h;omega
   | left _ _ _ _ _ h _=>rw[a]at h;cases h;omega
   | both _ _ _ _ _ _ _ h _=>rw[a]at h;cases h;omega
 | .aH k a b,cs,h,l,s,p,g,A,t,f,I=>by
   let⟨x,q,v,G,E,F,r,t,_,_,_,f,J,K⟩:=h;have i:tree[(cQ.aH k a b).rt]? = some x:=G;have G:k<tree.length:=g k (.head _);have G:(k::(a.B++b.B)).Nodup:=l;let⟨l,L⟩:=List.nodup_cons.1 G;let⟨M,N,m⟩:=List.nodup_append.1 L;have u:∀j,j∈a.B->j∈(cQ.aH k a b).B:=λj h=>.tail _ (fc.2 (.inl h));have w:∀j,j∈b.B->j∈(cQ.aH k a b).B:=λj h=>.tail _ (fc.2 (.inr h));have G:=g _ (u _ a.nb);have G:=g _ (w _ b.nb);have n:∀j∈a.B,s.getD j false=false/\j≠k:=λj h=>⟨A j (u j h) λe=>l (fc.2 (.inl (by have e:j=k:=e;rw[<-e];exact h))),λe=>l (fc.2 (.inl (e▸h)))⟩;have o:∀j∈b.B,s.getD j false=false/\j≠k:=λj h=>⟨A j (w j h) λe=>l (fc.2 (.inr (by have e:j=k:=e;rw[<-e];exact h))),λe=>l (fc.2 (.inr (e▸h)))⟩;have L:a.rt≠b.rt:=m _ a.nb _ b.nb;have y:x.l.toNat=a.rt:=by rw[r];omega
   have z:x.r.toNat=b.rt:=by rw[t];omega
   have l:x.ad.toNat=q:=by rw[E];omega
   let⟨G,_⟩:=f.bI;have A:rd x.at'=ec v:=by rw[F];exact G.rd
   have W:(s.set k true).length=tree.length:=by simp[p]
   have W:((s.set k true).set a.rt true).length=tree.length:=by simp[p]
   have O:(((s.set k true).set a.rt true).set b.rt true).length=tree.length:=by simp[p]
   have P:sv tree k cs (s.set k true) x:=by
    refine⟨?_,?_,?_,?_,?_,?_,?_,?_,?_,?_⟩
    ·rw[F];exact G.isNum
    ·rw[A];exact Rat.den_intCast _
    ·rw[E];omega
    ·rw[l];exact f.i
    ·rw[r];omega
    ·rw[r];omega
    ·rw[y,uy,aw (n _ a.nb).2];exact(n _ a.nb).1
    ·rw[t];omega
    ·rw[t];omega
    ·rw[y,z,uy,aw (Ne.symm L),uy,aw (o _ b.nb).2];exact(o _ b.nb).1
   have Q:C.f' cs x.ad.toNat (rd x.at')=h2 cs q (bk (ec v)):=by rw[l,A];exact f.f'
   have R:C.gG cs x.ad.toNat (rd x.at'+1)=ig cs q (bk (ec v+1)):=by rw[l,A];exact f.gG
   have B:∀j,(((s.set k true).set a.rt true).set b.rt true).getD j false=true↔(s.getD j false=true∨j=k∨j=a.rt∨j=b.rt):=λj=>by
    rw[uy,uy,uy];by_cases f:j=b.rt
    ·simp[f]
    ·by_cases b:j=a.rt
     ·simp[b]
     ·by_cases l:j=k
      ·simp[l]
      ·simp[f,b,l]
   have S:∀j∈a.B,j≠a.rt->(((s.set k true).set a.rt true).set b.rt true).getD j false=false:=λj c D=>by
    rw[lz];intro h;rcases(B j).1 h with h | h | h | h
    ·rw[(n j c).1]at h;cases h
    ·exact(n j c).2 h
    ·exact D h
    ·exact m _ c _ b.nb h
   have H:∀{f d},h6 rows tree kL all x.l.toNat (C.f' cs x.ad.toNat (rd x.at')) (((s.set k true).set x.l.toNat true).set x.r.toNat true) f d->f=true/\d.length=tree.length/\∀j,d.getD j false=true↔((((s.set k true).set a.rt true).set b.rt true).getD j false=true∨j∈a.B):=λ{f d} h=>by
    rw[Q,y,z]at h;exact ee.node J M O (λj c=>g j (u j c)) S h
   cases I with
   | leaf _ _ _ _ h _=>rw[i]at h;cases h;omega
   | bad _ _ _ _ _ h _ b=>
     rw[i]at h;cases h;exact absurd P b
   | left _ _ _ _ _ h _ _ b=>
     rw[i]at h;cases h;let⟨e,_⟩:=H b;cases e
   | both _ _ _ d _ _ _ h _ _ T s=>
     rw[i]at h;cases h;let⟨_,U,C⟩:=H T;rw[R,z]at s;have V:∀j∈b.B,j≠b.rt->d.getD j false=false:=λj c D=>by
      rw[lz];intro h;rcases(C j).1 h with h | h
      ·rcases(B j).1 h with h | h | h | h
       ·rw[(o j c).1]at h;cases h
       ·exact(o j c).2 h
       ·exact m _ a.nb _ c h.symm
       ·exact D h
      ·exact m _ h _ c rfl
     let⟨d,e,f⟩:=ee.node K N U (λj c=>g j (w j c)) V s;refine⟨d,e,λj=>?_⟩;rw[f,C,B];show _↔_∨j∈k::(a.B++b.B);rw[hH,fc];constructor
     ·rintro(((h | h | h | h) | h) | h)
      ·exact .inl h
      ·exact .inr (.inl h)
      ·exact .inr (.inr (.inl (h▸a.nb)))
      ·exact .inr (.inr (.inr (h▸b.nb)))
      ·exact .inr (.inr (.inl h))
      ·exact .inr (.inr (.inr h))
     ·rintro(h | h | h | h)
      ·exact .inl (.inl (.inl h))
      ·exact .inl (.inl (.inr (.inl h)))
      ·exact .inl (.inr h)
      ·exact .inr h
theorem ee.VR{t:cQ}{cs:List a1}(h:ee tree (λ_ cs d=>k1 rows kL all cs d=true) t cs)(g:t.rt=0)(i:t.B.Nodup)(e:∀j,j∈t.B↔j<tree.length){b:Bool}{c:List Bool}(f:h6 rows tree kL all 0 cs (List.replicate tree.length false) b c):(b&&!c.contains false)=true:=by
 rw[<-g]at f;let⟨b,_,d⟩:=h.node i σ' (λj a=>(e j).1 a) (λj a _=>by simp[xd];split<;>rfl) f;rw[b,Bool.true_and,ir,lz];intro b;have b:false∈c:=φ b
 let⟨j,a,c⟩:=tp b;have:=(d j).2 (.inr ((e j).2 ω));rw[e5,en a]at this;rw[c]at this;cases this
theorem ee.low{l:ar}:∀{t:cQ} {cs:List a1},ee tree (λ_ cs _=>kB l cs kL all) t cs->kB l cs kL all
 | .ag _,cs,h=>by
   let⟨_,_,_,a⟩:=h;exact a
 | .aH _ _ _,cs,h=>by
   let⟨_,i,v,_,_,_,_,_,_,_,a,c,e,f⟩:=h;have g:=ee.low e;have j:=ee.low f;let⟨k,l⟩:=c.bI;intro y b;have m:=b.w _ a c.i;let⟨n,o⟩:=b.f.c _ a;by_cases d:y i<=ec v
   ·exact g y (Ea a b rfl n λ_=>by show y i<=rd (bk (ec v));rw[k.rd];exact d)
   ·have q:=Px (p:=ec v) (Rat.den_intCast _) m (Rat.not_le.1 d);exact j y (Ea a b rfl (λ_=>by show rd (bk (ec v+1))<=y i;rw[l.rd];exact q) o)
theorem ee.sub{t:cQ}{cs:List a1}{k:Nat}{x:cz}(h:ee tree P t cs)(av:t.rt=k)(d:tree[k]? = some x)(r:0<=x.ad):
 ∃(a b:cQ) (i:Nat) (v:Rat),i<cs.length/\kv (cs.getD i bY) v/\C.f' cs x.ad.toNat (rd x.at')=h2 cs i (bk (ec v))/\C.gG cs x.ad.toNat (rd x.at'+1)=ig cs i (bk (ec v+1))/\(rd x.at'=ec v/\x.at'=bk (ec v))/\rd (bk (rd x.at'+1))=rd x.at'+1/\a.rt=x.l.toNat/\b.rt=x.r.toNat/\ee tree P a (C.f' cs x.ad.toNat (rd x.at'))/\ee tree P b (C.gG cs x.ad.toNat (rd x.at'+1)):=by
 cases t with
 | ag j=>
   let⟨_,a,_,_⟩:=h;obtain rfl:j=k:=av;rw[d]at a;cases a;omega
 | aH j a b=>
   let⟨_,i,v,e,g,f,l,m,_,_,n,c,o,p⟩:=h;obtain rfl:j=k:=av;rw[d]at e;cases e;let⟨d,q⟩:=c.bI;have e:rd x.at'=ec v:=by rw[f];exact d.rd
   have d:x.ad.toNat=i:=by rw[g];omega
   rw[e,d,c.f',c.gG];exact⟨a,b,i,v,n,c,rfl,rfl,⟨rfl,f⟩,q.rd,by rw[l];omega,by rw[m];omega,o,p⟩
theorem ee.at'{t:cQ}{cs:List a1}{k:Nat}{x:cz}(h:ee tree P t cs)(av:t.rt=k)(a:tree[k]? = some x)(d:x.ad<0):P k cs x.d:=by
 cases t with
 | ag j=>
   let⟨_,b,_,c⟩:=h;obtain rfl:j=k:=av;rw[a]at b;cases b;exact c
 | aH j _ _=>
   let⟨_,_,_,b,_,_⟩:=h;obtain rfl:j=k:=av;rw[a]at b;cases b;omega
end
section
variable{l:ar}{cs:List a1}
structure eU(l:ar)(cs:List a1):Prop where
 len:cs.length=l.a.length
 c:∀i,i<cs.length->(cs.getD i bY).cost=(l.ad i).cost/\(cs.getD i bY).int=(l.ad i).int/\((l.ad i).int=false->(cs.getD i bY).low=(l.ad i).low/\(cs.getD i bY).up=(l.ad i).up)/\((l.ad i).int=true->(isNum (cs.getD i bY).low=true/\isNum (cs.getD i bY).up=true)/\(ku (cs.getD i bY).low/\ku (cs.getD i bY).up)/\rd (l.ad i).low<=rd (cs.getD i bY).low/\rd (cs.getD i bY).up<=rd (l.ad i).up)
noncomputable def de(l:ar)(cs:List a1):ar:=⟨cs.map (eE (cB l)),l.rows⟩
theorem eU.same(h:eU l cs):tT l cs:=⟨h.len,λi a=>⟨(h.c i a).1,(h.c i a).2.1⟩⟩
theorem wH{t:Bool}{i:Nat}(az:i<cs.length):(cs.map (eE t)).getD i bY=eE t (cs.getD i bY):=by
 grind
theorem IX{i:Nat}(az:i<cs.length):(de l cs).ad i=eE (cB l) (cs.getD i bY):=wH az
theorem rO:(de l cs).a.length=cs.length:=by simp[de]
theorem eU.ok(h:eU l cs):kC (db l) (cs.map (eE (cB l))):=by
 refine⟨by simp[p1,h.len],λi a=>?_⟩;have a:i<cs.length:=φ a
 have b:i<l.a.length:=by rw[<-h.len];exact a
 let⟨_,c,d,e⟩:=h.c i a;rw[wH a,wJ b,vY,vY,oB,oC,oB,oC];refine⟨?_,c,d,λa=>(e a).2.1⟩;unfold eE;grind
theorem eU.fM(a:jq (db l))(h:eU l cs):c5 (de l cs):=h.ok.fM a.s
theorem uk{c:a1}:h9 c=true↔isNum c.cost=true/\(c.low=[]∨isNum c.low=true)/\(c.up=[]∨isNum c.up=true)/\(c.low=[]∨c.up=[]∨rd c.low<=rd c.up):=by
 unfold h9;grind
theorem uL{rows:List b9}:(⟨cs,rows⟩:ar).I=true↔cs.length<=100/\rows.length<=440/\(∀c∈cs,h9 c=true)/\∀r∈rows,iM r cs.length=true:=by
 unfold ar.I;grind
theorem Y8:isNum [48]=true:=by rw[<-xa];exact(nx pA).isNum
theorem N6{t:Bool}{c:a1}(h:h9 c=true):h9 (eE t c)=true:=by
 rw[uk]at h|-;rw[oB,oC];refine⟨?_,h.2⟩;unfold eE;split
 ·exact Y8
 ·exact h.1
theorem Qy(h:l.I=true):(db l).I=true:=by
 let⟨a,b,d,e⟩:=(uL (cs:=l.a) (rows:=l.rows)).1 h;refine uL.2 ⟨φ a,b,λc f=>?_,φ e⟩;obtain⟨c,g,rfl⟩:=gl.1 f;exact N6 (d c g)
theorem eU.root(a:nr l)(d:l.I=true)(e:nV l=false):eU l l.a:=by
 refine⟨rfl,λ_ c=>⟨rfl,rfl,λ_=>⟨rfl,rfl⟩,λf=>?_⟩⟩;have b:=cX (ar.kc c);have c:=a.b _ b;have a:=List.any_eq_false.1 e _ b;simp[f]at a;let⟨_,e,f,_⟩:=uk.1 (uJ d b);exact⟨⟨e.resolve_left a.1,f.resolve_left a.2⟩,⟨.short a.1 c.1,.short a.2 c.2⟩,kW,kW⟩
theorem eU.up(h:eU l cs){i:Nat}{v:Rat}(az:i<cs.length)(a:kv (cs.getD i bY) v):eU l (h2 cs i (bk (ec v))):=by
 refine⟨by simp[h2,h.len],λj b=>?_⟩;have c:j<cs.length:=by simpa [h2]using b
 clear b;have b:=c;unfold h2;rw[pX az];by_cases e:j=i
 ·subst e;rw[aL rfl];let⟨d,c,_,f⟩:=h.c j b;have g:(l.ad j).int=true:=c.symm.trans a.i;let⟨⟨i,_⟩,⟨k,_⟩,m,n⟩:=f g;refine⟨d,c,λe=>π,λ_=>⟨⟨i,a.bI.1.isNum⟩,⟨k,O0 a.c0 a.b'⟩,m,?_⟩⟩;show rd (bk (ec v))<=_;rw[a.bI.1.rd];exact Rat.le_trans (Rat.floor_le v) (Rat.le_trans a.az n)
 ·rw[aw e];exact h.c j b
theorem eU.low(h:eU l cs){i:Nat}{v:Rat}(az:i<cs.length)(a:kv (cs.getD i bY) v):eU l (ig cs i (bk (ec v+1))):=by
 refine⟨by simp[ig,h.len],λj b=>?_⟩;have c:j<cs.length:=by simpa [ig]using b
 clear b;have b:=c;unfold ig;rw[pX az];by_cases e:j=i
 ·subst e;rw[aL rfl];let⟨d,c,_,f⟩:=h.c j b;have g:(l.ad j).int=true:=c.symm.trans a.i;let⟨⟨_,i⟩,⟨_,k⟩,m,n⟩:=f g;refine⟨d,c,λe=>π,λ_=>⟨⟨a.bI.2.isNum,i⟩,⟨NX a.c0 a.b' a.d,k⟩,?_,n⟩⟩;show _<=rd (bk (ec v+1));rw[a.bI.2.rd];exact Rat.le_trans m (Rat.le_trans a.ah (iJ (Qm v)))
 ·rw[aw e];exact h.c j b
theorem GP{rows:List b9}{fF:List a1}(aY:fF.length=cs.length)(h:∀i,i<cs.length->((fF.getD i bY).low≠[]->(cs.getD i bY).low≠[]/\rd (fF.getD i bY).low<=rd (cs.getD i bY).low)/\((fF.getD i bY).up≠[]->(cs.getD i bY).up≠[]/\rd (cs.getD i bY).up<=rd (fF.getD i bY).up)){x:Nat->Rat}(f:h4 ⟨cs,rows⟩ x):h4 ⟨fF,rows⟩ x:=by
 refine⟨λj a=>?_,λj a=>?_⟩
 ·have a:j<cs.length:=by rw[<-aY];exact a
  let⟨d,g⟩:=f.c j a;let⟨b,c⟩:=h j a;exact⟨λe=>Rat.le_trans (b e).2 (d (b e).1),λe=>Rat.le_trans (g (c e).1) (c e).2⟩
 ·have e:gz (⟨fF,rows⟩:ar) x j=gz (⟨cs,rows⟩:ar) x j:=by
   show aS (λq=>hs ((⟨cs,rows⟩:ar).row j).G q*x q) fF.length=_;rw[aY];rfl
  rw[e];exact f.r j a
theorem GQ{x:Nat->Rat}:h4 (de l cs) x↔h4 ⟨cs,l.rows⟩ x:=by
 have a:(cs.map (eE (cB l))).length=cs.length:=σ'
 constructor
 ·exact GP a.symm λ_ b=>by
   rw[wH (φ b),oB,oC];grind
 ·exact GP a λ_ a=>by
   rw[wH a,oB,oC];grind
theorem eU.fits(h:eU l cs){x:Nat->Rat}(f:h4 ⟨cs,l.rows⟩ x):h4 l x:=by
 refine GP (fF:=l.a) h.len.symm (λi a=>?_) f;let⟨_,_,_,b⟩:=h.c i a;show((l.ad i).low≠[]->_/\rd (l.ad i).low<=_)/\((l.ad i).up≠[]->_/\_<=rd (l.ad i).up)
 cases e:(l.ad i).int with
 | false=>
   grind
 | true=>
   let⟨⟨a,c⟩,_,d,f⟩:=b e;exact⟨λ_=>⟨nL a,d⟩,λ_=>⟨nL c,f⟩⟩
theorem eU.Oe(h:eU l cs)(k:l.I=true)(m:(de l cs).I=false):cs.any ju=true:=by
 apply o3;intro b;have b:∀c∈cs,ju c=false:=φ b
 let⟨m,n,o,p⟩:=(uL (cs:=l.a) (rows:=l.rows)).1 k;have:(de l cs).I=true:=by
  refine uL.2 ⟨by simpa [h.len]using m,n,λc q=>?_,λr k=>by simpa [h.len]using p r k⟩;obtain⟨c,e,rfl⟩:=gl.1 q;have a:=b c e;obtain⟨i,f,rfl⟩:=ux (d:=bY) e;refine N6 (uk.2 ?_);let⟨b,_,s,t⟩:=h.c i f;let⟨g,u,v,w⟩:=uk.1 (o _ (cX (ar.kc (aa:=l) (i:=i) (by rw[<-h.len];exact f))));rw[b]
  cases j:(l.ad i).int with
  | false=>
    let⟨b,c⟩:=s j;rw[b,c];exact⟨g,u,v,w⟩
  | true=>
    let⟨⟨b,c⟩,_⟩:=t j;refine⟨g,.inr b,.inr c,.inr (.inr ?_)⟩;unfold ju at a;rw[b,c]at a;simp[Bool.true_and,decide_eq_false_iff_not]at a;exact fy.1 a
 grind
theorem eU.NG(f:jq (db l))(h:eU l cs)(e:(de l cs).I=true){a:cW}(ax:fZ (de l cs) a)(g:a.st=1){i:Nat}(d:kE (db l).a a.x=some i):i<cs.length/\kv (cs.getD i bY) (bU a.x i):=by
 let⟨b,c,l⟩:=Fk d;rw[p1]at b;have a:i<cs.length:=by rw[h.len];exact b
 rw[BK,wJ b,vY]at c;let⟨_,m,_,d⟩:=h.c i a;let⟨⟨j,k⟩,_,_⟩:=d c;have d:=(ax.ga (h.fM f) e).1;unfold ga at d;rw[aL g]at d;simp at d;let⟨n,o⟩:=(uv e d.2.2.2.2.1).c i (by rw[rO];exact a);rw[IX a,oB,oC]at*
 let⟨d,p⟩:=JA f.s h.ok e ax g (i:=i) (φ a) (by rw[wJ b,vY];exact c);exact⟨a,⟨m.trans c,j,k,n (nL j),o (nL k),l,d,p⟩⟩
def mf(l:ar)(a:Option Rat)(cs:List a1)(d:List (List UInt8)):Prop:=
 ((de l cs).I=false/\d=[])∨((de l cs).I=true/\d=(eo (de l cs)).d/\((eo (de l cs)).st≠1∨∃u,a=some u/\u<=rd (eo (de l cs)).val))
theorem mf.mono{v aQ:Option Rat}{d:List (List UInt8)}(h:mf l v cs d)(a:∀u,v=some u->∃a,aQ=some a/\a<=u):mf l aQ cs d:=by
 rcases h with h | ⟨a,b,_⟩
 ·exact .inl h
 ·refine .inr ⟨a,b,?_⟩;grind
def MR(l:ar)(s:bV)(k:Nat)(cs:List a1)(d:List (List UInt8)):Prop:=eU l cs/\((k,cs.map (eE (cB l)))∈s.todo∨k∉s.todo.map Prod.fst/\mf l s.val cs d)
structure pB(l:ar)(u:Rat)(a:cW):Prop where
 st:a.st=1
 v:a.val=bk u
 r:rd a.val=u
 f:fU (db l) a.x=true
 w:jm (db l) a.x=true
 c:gy (db l) a.x=some u
 d:a.d=[]
 y:a.r=[]
 s:∀s∈a.x,s.length<=10000
 l:a.val.length<=10000
structure ot(l:ar)(s:bV):Prop where
 ex:∃t:cQ,t.rt=0/\t.B.Nodup/\(∀j,j∈t.B↔j<s.tree.length)/\ee s.tree (MR l s) t l.a
 ao:(s.todo.map Prod.fst).Nodup
 ag:∀x∈s.todo,s.tree[x.1]? = some fs
 aK:s.val=none->s.L=⟨2,[],[],[],[]⟩
 c0:∀u,s.val=some u->pB l u s.L
theorem ee.find{a:List cz}{P:Nat->List a1->List (List UInt8)->Prop}{k:Nat}:∀{t:cQ} {cs:List a1},ee a P t cs->k∈t.gQ->∃b x,a[k]? = some x/\P k b x.d
 | .ag j,cs,h,c=>by
   obtain rfl:k=j:=mV.1 c;let⟨x,_,_,_⟩:=h;grind
 | .aH _ _ _,cs,h,c=>by
   let⟨x,_,_,_,_,_,_,_,_,_,_,_,d,e⟩:=h
   rcases fc.1 c with h | h
   ·exact ee.find d h
   ·exact ee.find e h
theorem PF{α β:Type}{L:List (α×β)}(b:(L.map Prod.fst).Nodup){i j:Nat}{x y:α×β}(az:L[i]? = some x)(c:L[j]? = some y)(e:x.1=y.1):i=j:=by
 have a:(L.map Prod.fst)[i]? = some x.1:=by rw[jd,az];rfl
 have d:(L.map Prod.fst)[j]? = some y.1:=by rw[jd,c];rfl
 exact(List.getElem?_inj (hZ.1 a).1 b).1 (by rw[a,d,e])
theorem eU.L(d:jq (db l))(n:l.I=true)(h:eU l cs)(b:(de l cs).I=true){a:cW}(ax:fZ (de l cs) a)(e:a.st=1)(f:kE (db l).a a.x=none):pB l (rd a.val) ⟨1,a.val,a.x,[],[]⟩:=by
 let⟨j,o⟩:=DO (h.fM d) b ax e;let⟨i,p,q⟩:=Tc (h.fM d) b ax e;have c:=(ax.ga (h.fM d) b).1;unfold ga at c;rw[aL e]at c;simp at c;let⟨e,_,d,_,r,_⟩:=c;have k:=Qy n;rw[rO,h.len]at i;have g:dJ (db l) a.x (db l).a.length=true:=by
  unfold dJ;rw[k,p,p1];simpa using i
 have s:=uv b r;let⟨v,m⟩:=n0.1 e;rw[m]at d;have d:bk v=a.val:=d;have t:rd a.val=v:=by
  have:=s3 j;rw[<-d]at this|-;exact xb this
 have u:(db l).P (bU a.x)=(de l cs).P (bU a.x):=by
  show aS (λi=>rd ((db l).ad i).cost*bU a.x i) (db l).a.length=aS (λi=>rd ((de l cs).ad i).cost*bU a.x i) (de l cs).a.length;rw[p1,rO,h.len];refine c9 λi b=>?_;have c:i<cs.length:=by rw[h.len];exact b
  have:=(h.ok.c i (φ c)).1;rw[show((de l cs).ad i).cost=((db l).ad i).cost from this]
 refine⟨rfl,(s3 j).symm,rfl,?_,?_,?_,rfl,rfl,q,o⟩
 ·unfold fU;rw[g,Bool.true_and];refine(y4 k).2 ?_;have:=h.fits (GQ.1 s);exact(GQ (cs:=l.a)).2 this
 ·unfold jm;rw[g,Bool.true_and];refine AA.2 λi b=>?_;have c:∀i,i<(db l).a.length->(((db l).a.getD i bY).int&&decide ((bU a.x i).den≠1))=false:=by
   intro i b;unfold kE at f;rw[List.find?_range_eq_none]at f;have:=f i b;rw[ir]at this;exact this
  have:=c i b;rw[BK]at this;grind
 ·unfold gy;show(if dJ (db l) a.x (db l).a.length=true then some ((db l).P (bU a.x)) else none)=some (rd a.val);rw[aL g,u,<-JU m,t]
theorem ot.look(F:jq (db l))(ag:l.I=true){s:bV}(h:ot l s){p:Nat}{x:Nat×List a1}(B:s.todo[p]? = some x):ot l ((s.del p).look (db l) x.1 x.2):=by
 obtain⟨V,W,X,Y,G⟩:=h.ex;obtain⟨k,Q⟩:=x;have P:=cX B;have r:s.tree[k]? = some fs:=h.ag _ P;have Z:k<s.tree.length:=(hZ.1 r).1;have t:fs.ad<0:=by decide
 have aa:=G.leaf r t ((Y k).2 Z);have ah:∀y,y∈s.todo->y.1≠k->y∈(s.del p).todo:=λy b C=>by
  obtain⟨i,d⟩:=u5 b;refine List.mem_eraseIdx_iff_getElem?.2 ⟨i,λe=>C ?_,d⟩;grind
 have M:∀y,y∈(s.del p).todo->y∈s.todo/\y.1≠k:=λy b=>by
  obtain⟨i,C,d⟩:=List.mem_eraseIdx_iff_getElem?.1 b;exact⟨cX d,λe=>C (PF h.ao d B e)⟩
 have C:k∈s.todo.map Prod.fst:=gl.2 ⟨_,P,rfl⟩;have nk:k∉(s.del p).todo.map Prod.fst:=λe=>by
  grind
 have nj:∀j,j∉s.todo.map Prod.fst->j∉(s.del p).todo.map Prod.fst:=λj o e=>by
  grind
 have ai:((s.del p).todo.map Prod.fst).Nodup:=h.ao.sublist ((List.eraseIdx_sublist s.todo p).map Prod.fst);have N:∀cs c,MR l s k cs c->eU l cs/\cs.map (eE (cB l))=Q:=λcs c g=>by
  obtain⟨l,g | ⟨g,_⟩⟩:=g
  ·obtain⟨i,d⟩:=u5 g;have:=PF h.ao d B rfl;rw[this,B]at d;cases d;exact⟨l,rfl⟩
  grind
 obtain⟨f,_,_,ad⟩:=G.find aa;obtain⟨O,rfl⟩:=N _ _ ad;have ab:∀cs,cs.map (eE (cB l))=f.map (eE (cB l))->de l cs=de l f:=λcs e=>by unfold de;rw[e]
 have H:∀(a:bV) (B:cz),a.todo=(s.del p).todo->a.tree[k]? = some B->B.ad<0->a.tree.length=s.tree.length->(∀j,j≠k->∀y,s.tree[j]? = some y->a.tree[j]? = some y)->(∀u,s.val=some u->∃C,a.val=some C/\C<=u)->mf l a.val f B.d->(a.val=none->a.L=⟨2,[],[],[],[]⟩)->(∀u,a.val=some u->pB l u a.L)->ot l a:=λa B P Q e3 _ ad e6 e7 e8 e9=>by
  refine⟨⟨V,W,X,λj=>by grind,G.JQ r t ad (λj cs c o _ g=>?_) (λcs g=>?_)⟩,by grind,λy b=>?_,e8,e9⟩
  ·refine⟨g.1,g.2.imp (λh=>?_) λh=>⟨by rw[P];exact nj j h.1,h.2.mono e6⟩⟩;grind
  ·obtain⟨d,_⟩:=N cs _ g;refine⟨B,Q,e3,d,.inr ⟨by rw[P];exact nk,?_⟩⟩;unfold mf at e7|-;grind
  ·rw[P]at b;obtain⟨d,i⟩:=M y b;exact ad _ i _ (h.ag y d)
 have R:∀u,s.val=some u->∃C,s.val=some C/\C<=u:=λu e=>⟨u,e,kW⟩;have aj:∀c,((s.del p).Z k c).tree[k]? = some ⟨-1,[],0,0,c⟩/\((s.del p).Z k c).tree.length=s.tree.length/\∀j,j≠k->∀y,s.tree[j]? = some y->((s.del p).Z k c).tree[j]? = some y:=λc=>by
  have e:((s.del p).Z k c).tree=s.tree.set k {s.tree.getD k fs with d:=c}:=rfl;have Q:s.tree.getD k fs=fs:=by rw[e5,r];rfl
  rw[e,Q];exact⟨by rw[tk Z];rfl,by simp,λj o y b=>by grind⟩
 show ot l ((s.del p).look (db l) k (f.map (eE (cB l))));unfold bV.look;have B:(⟨f.map (eE (cB l)),(db l).rows⟩:ar)=de l f:=rfl;rw[B];by_cases m:(de l f).I=true
 ·rw[aL m];have S:=pg (O.fM F) m;obtain⟨c,D⟩:∃c,c=(eo (de l f)).d:=⟨_,rfl⟩;obtain⟨I,E,J⟩:=aj c;by_cases w:(eo (de l f)).st=1
  ·rw[aL w,<-D];by_cases d:nB (s.del p).val (rd (eo (de l f)).val)=true
   ·rw[aL d];refine H _ _ rfl I (show(-1:Int)<0 by decide) E J R (.inr ⟨m,D,.inr ?_⟩) h.aK h.c0;have d:nB s.val (rd (eo (de l f)).val)=true:=d;unfold nB at d
    cases e:s.val with
    | none=>grind
    | some u=>
      rw[e]at d;exact⟨u,e,by grind⟩
   ·rw[aw d];have d:nB s.val (rd (eo (de l f)).val)=false:=lz.2 d
    cases x:kE (db l).a (eo (de l f)).x with
    | none=>
      simp only;refine H _ _ rfl I (show(-1:Int)<0 by decide) E J (λu e=>⟨_,rfl,?_⟩) (.inr ⟨m,D,.inr ⟨_,rfl,kW⟩⟩) (λe=>by cases e) λu e=>?_
      ·unfold nB at d;grind
      ·cases e;exact O.L F ag m S w x
    | some i=>
      simp only;obtain⟨K,bv⟩:=O.NG F m S w x;obtain⟨v,hv⟩:∃v,v=bU (eo (de l f)).x i:=⟨_,rfl⟩;rw[<-hv]at bv|-;obtain⟨n,T⟩:∃n,n=s.tree.length:=⟨_,rfl⟩;obtain⟨a,q⟩:∃a,a=((s.del p).Z k c).branch k (f.map (eE (cB l))) i v:=⟨_,rfl⟩;rw[<-q];obtain⟨A,U⟩:∃d,d=((s.del p).Z k c).tree:=⟨_,rfl⟩;rw[<-U]at I E J;have d:A.length=n:=by rw[E,T]
      have u:a.tree=((A++[fs])++[fs]).set k ⟨(i:Int),bk (ec v),(A.length:Int),(A.length:Int)+1,[]⟩:=by rw[q,U];rfl
      have L:a.todo=((s.del p).todo++[(n,h2 (f.map (eE (cB l))) i (bk (ec v)))])++[(n+1,ig (f.map (eE (cB l))) i (bk (ec v+1)))]:=by
       rw[q];show((s.del p).todo++[(((s.del p).Z k c).tree.length,_)])++[((((s.del p).Z k c).tree++[fs]).length,_)]=_;rw[<-U,o4,d];rfl
      have ae:a.val=s.val:=by rw[q];rfl
      have af:a.L=s.L:=by rw[q];rfl
      have ak:a.tree.length=n+2:=by rw[u];simp[d]
      have al:k<n:=by omega
      have g1:a.tree[k]? = some ⟨(i:Int),bk (ec v),(A.length:Int),(A.length:Int)+1,[]⟩:=by rw[u,tk (by grind)]
      have g2:a.tree[n]? = some fs:=by
       rw[u,o2 (by omega),hY (by simp[d]),iq (by omega),d];simp
      have g3:a.tree[n+1]? = some fs:=by
       rw[u,o2 (by omega),iq (by simp[d])];simp[d]
      have g4:∀j,j≠k->∀y,s.tree[j]? = some y->a.tree[j]? = some y:=λj o y b=>by
       grind
      have an:∀y,y∈(s.del p).todo->y∈a.todo:=λy b=>by
       grind
      have ao:∀y,y∈s.todo->y.1<n:=λy b=>by rw[T];exact(hZ.1 (h.ag y b)).1
      have aq:∀{cs:List a1},i<cs.length->(h2 cs i (bk (ec v))).map (eE (cB l))=h2 (cs.map (eE (cB l))) i (bk (ec v)):=λK=>by
       unfold h2;rw[List.map_set,wH K];congr 1;unfold eE;split<;>rfl
      have d:∀{cs:List a1},i<cs.length->(ig cs i (bk (ec v+1))).map (eE (cB l))=ig (cs.map (eE (cB l))) i (bk (ec v+1)):=λK=>by
       unfold ig;rw[List.map_set,wH K];congr 1;unfold eE;split<;>rfl
      have ar:∀j,j∈a.todo.map Prod.fst↔j∈(s.del p).todo.map Prod.fst∨j=n∨j=n+1:=λj=>by
       rw[L];simp
      have a:=cQ.Hg (n:=n) X aa;refine⟨⟨V.jK k n,cQ.Ae.trans W,?_,λj=>?_,?_⟩,?_,λy b=>?_,by rw[ae,af];exact h.aK,by rw[ae,af];exact h.c0⟩
      ·refine a.symm.nodup ?_;grind
      ·rw[a.mem_iff,hH,hH,Y j,ak,T];omega
      ·refine G.split (n:=n) (i:=i) (v:=v) (y:=fs) (z:=fs) r t g4 (λj cs c o _ g=>?_) al g1 rfl rfl (by grind) (by grind) g2 t g3 t λcs g=>?_
       ·refine⟨g.1,g.2.imp (λh=>an _ (ah _ h o)) λh=>⟨λe=>?_,by grind⟩⟩;rcases(ar j).1 e with e | e | e
        ·grind
        ·omega
        ·omega
       ·obtain⟨d,h⟩:=N cs _ g;have g:(de l cs).I=true:=by rw[ab cs h];exact m
        have q:fZ (de l cs) (eo (de l f)):=by rw[ab cs h];exact S
        obtain⟨a,c⟩:=d.NG F g q w x;rw[<-hv]at c;refine⟨a,c,⟨d.up a c,.inl ?_⟩,⟨d.low a c,.inl ?_⟩⟩
        ·rw[L,aq a,h];exact fc.2 (.inl (fc.2 (.inr (mV.2 rfl))))
        grind
      ·rw[L];have f:∀j,j∈(s.del p).todo.map Prod.fst->j<n:=λj o=>by
        obtain⟨y,b,e⟩:=gl.1 o;rw[<-e];exact ao y (M y b).1
       rw[List.map_append,List.map_append,List.nodup_append,List.nodup_append];refine⟨⟨ai,by simp,λa c d x e=>?_⟩,by simp,λa c d x e=>?_⟩
       ·have e:=f a c;have a:d=n:=by simpa using x
        omega
       grind
      ·rw[L]at b
       rcases fc.1 b with b | b
       ·rcases fc.1 b with b | b
        ·obtain⟨a,c⟩:=M y b;exact g4 _ c _ (h.ag y a)
        ·rw[mV.1 b];exact g2
       grind
  ·rw[aw w,<-D];exact H _ _ rfl I (show(-1:Int)<0 by decide) E J R (.inr ⟨m,D,.inl w⟩) h.aK h.c0
 ·rw[aw m];exact H _ fs rfl r t rfl (λ_ _ _ h=>h) R (.inl ⟨by simpa using m,rfl⟩) h.aK h.c0
end
def dt(q:Rat)(k:Nat):Prop:=dP q (bS k)
theorem dt.mul{p q:Rat}{a b c:Nat}(h:dt p a)(g:dt q b)(e:a+b=c):dt (p*q) c:=by
 unfold dt;rw[<-pn e];exact dP.mul h g
theorem abN(k:Nat):bS k+bS k<=bS (k+1):=by
 have h:bS k*bS 1=bS (k+1):=pn rfl;have:bS 1=10:=by rw[fQ]
 grind
theorem dt.add{p q:Rat}{a b c:Nat}(h:dt p a)(g:dt q b)(aI:a<=c)(d:b<=c):dt (p+q) (c+1):=
 (dP.add h g).mono (a8 (Nat.add_le_add (j4 aI) (j4 d)) (abN c))
theorem dt.mono{p:Rat}{a b:Nat}(h:dt p a)(c:a<=b):dt p b:=dP.mono h (j4 c)
theorem dt.neg{p:Rat}{a:Nat}(h:dt p a):dt (-p) a:=by
 obtain⟨z,rfl,_⟩:=h;exact⟨-z,(Rat.intCast_neg z).symm,π⟩
theorem dt.sub{p q:Rat}{a b c:Nat}(h:dt p a)(g:dt q b)(aI:a<=c)(d:b<=c):dt (p-q) (c+1):=by
 rw[Rat.sub_eq_add_neg];exact h.add g.neg aI d
theorem dt.sum{f:Nat->Rat}{n a:Nat}(b:n<=10)(h:∀i,i<n->dt (f i) a):dt (aS f n) (a+1):=by
 refine(dP.sum h).mono ?_;have e:bS 1*bS a=bS (a+1):=pn ω;have:bS 1=10:=by rw[fQ]
 rw[<-e,this];exact fV _ b
theorem dt.nat{N k:Nat}(h:N<=bS k):dt (N:Rat) k:=⟨(N:Int),(mU _).symm,φ h⟩
theorem dt.den{q:Rat}{a k Q:Nat}(b:bI (bS a) q)(c:q.den∣Q)(d:Q<=bS k):dt (q*(Q:Rat)) (a+k):=by
 unfold dt;rw[<-pn (rfl:a+k=a+k)];exact yT b c d
def nE(f:Nat->Rat)(n:Nat):Nat:=mS (λi=>(f i).den) n
theorem yV{f:Nat->Rat}{n a:Nat}(h:∀i,i<n->bI (bS a) (f i))(b:n<=6):nE f n<=bS (a*6):=by
 refine a8 (tg λi c=>(h i c).2) ?_;rw[DW];exact j4 (nZ a b)
theorem BU{f:Nat->Rat}{n:Nat}:(nE f n:Rat)≠0:=by
 intro e;have:nE f n=0:=by exact_mod_cast e
 have:=u0 (f:=λi=>(f i).den) (λi=>Rat.den_pos _) n;unfold nE at*
 omega
theorem yU{f:Nat->Rat}{n i:Nat}(h:i<n):(f i).den∣nE f n:=uZ (f:=λi=>(f i).den) h
structure lN(aa:ar):Prop where
 n:aa.a.length<=6
 m:aa.rows.length<=6
 c:∀c∈aa.a,c.low.length<=20/\c.up.length<=20/\c.cost.length<=20
 r:∀r∈aa.rows,r.rhs.length<=30/\r.G.length<=1000/\∀c∈r.G,c.v.length<=20
section
variable{aa:ar}
theorem lN.fM(h:lN aa):c5 aa:=⟨h.n,by have:=h.m;omega,λc a=>by have:=h.c c a;omega,λr b=>⟨(h.r r b).1,by have:=(h.r r b).2.1;omega,λc a=>by have:=(h.r r b).2.2 c a;omega⟩⟩
theorem qs{l:List UInt8}{k:Nat}(h:l.length<=k):bI (bS k) (rd l):=by rw[fQ];exact tv h
theorem Np(k:Nat):bI (bS k) 0:=nx (As k)
theorem lN.ad(h:lN aa)(j:Nat):bI (bS 20) (rd (aa.ad j).low)/\bI (bS 20) (rd (aa.ad j).up)/\bI (bS 20) (rd (aa.ad j).cost):=by
 by_cases a:j<aa.a.length
 ·let⟨b,c,d⟩:=h.c _ (cX (ar.kc a));exact⟨qs b,qs c,qs d⟩
 ·have:aa.ad j=⟨[],[],[],[],false⟩:=by rw[ar.ad,e5,hc ω];rfl
  rw[this];exact⟨qs σ',qs σ',qs σ'⟩
theorem lN.row(h:lN aa)(i:Nat):bI (bS 30) (rd (aa.row i).rhs)/\∀j,bI (bS 20) (aa.j.A i j):=by
 have a:(aa.row i).rhs.length<=30/\∀c∈(aa.row i).G,c.v.length<=20:=by
  by_cases b:i<aa.rows.length
  ·let⟨_,_,_⟩:=h.r _ (cX (ar.rowAt b));grind
  ·have:aa.row i=⟨[],1,[],[],[]⟩:=by rw[ar.row,e5,hc ω];rfl
   grind
 refine⟨qs a.1,λj=>?_⟩
 rcases Dx (l:=(aa.row i).G) (f:=λ_=>0) j with e | ⟨c,b,e⟩
 ·show bI _ (hs _ j);rw[hs,e];exact Np 20
 ·show bI _ (hs _ j);rw[hs,e];exact qs (a.2 c b)
theorem CF{a b:Rat}(h:a≠0)(g:b≠0):a*b≠0:=λe=>(u9.1 e).elim h g
theorem U'{B:Nat}{p:Prop}[Decidable p]{a b:List UInt8}(aI:bI B (rd a))(c:bI B (rd b)):bI B (rd (if p then a else b)):=by
 grind
theorem Vo(h:lN aa){bQ:Bool}{y:Nat->Rat}(A:∀i,bI (bS 20) (y i)){b:Rat}(P:lJ aa bQ y b):bI e0 b:=by
 have r:=h.n;have C:=h.m;obtain⟨o,D⟩:∃f:Nat->Rat,f=λj=>rd (if gb aa bQ y j<0 then(aa.ad j).up else(aa.ad j).low):=⟨_,rfl⟩;have E:∀j,bI (bS 20) (o j):=λj=>by
  rw[D];exact U' (h.ad j).2.1 (h.ad j).1
 have F:∀j,bI (bS 20) (d0 aa bQ j):=λj=>by
  unfold d0;split
  ·exact(h.ad j).2.2
  ·exact Np 20
 have s:=λi=>(h.row i).1;have G:=λi=>(h.row i).2;obtain⟨p,Q⟩:∃f:Nat->Rat,f=λi=>rd (aa.row i).rhs:=⟨_,rfl⟩;have s:∀i,bI (bS 30) (p i):=λi=>π
 obtain⟨e,t⟩:=ε (nE y aa.rows.length);obtain⟨k,u⟩:=ε (nE p aa.rows.length);obtain⟨d,H⟩:=ε (mS (λi=>nE (aa.j.A i) aa.a.length) aa.rows.length);obtain⟨g,v⟩:=ε (nE (d0 aa bQ) aa.a.length);obtain⟨l,w⟩:=ε (nE o aa.a.length);have q:e<=bS 120:=by rw[t];exact yV (λi _=>A i) C
 have I:k<=bS 180:=by rw[u];exact yV (λi _=>s i) C
 have C:g<=bS 120:=by rw[v];exact yV (λi _=>F i) r
 have J:l<=bS 120:=by rw[w];exact yV (λi _=>E i) r
 have K:d<=bS 720:=by
  rw[H];refine a8 (tg (B:=bS 120) λi _=>yV (λj _=>G i j) r) ?_;rw[DW];exact j4 ω
 have R:(e:Rat)≠0:=by rw[t];exact BU
 have S:(k:Rat)≠0:=by rw[u];exact BU
 have T:(g:Rat)≠0:=by rw[v];exact BU
 have U:(l:Rat)≠0:=by rw[w];exact BU
 have V:(d:Rat)≠0:=by
  intro a;have a:d=0:=by exact_mod_cast a
  have:=u0 (f:=λi=>nE (aa.j.A i) aa.a.length) (λi=>u0 (λj=>Rat.den_pos _) _) aa.rows.length;omega
 have L:∀i,i<aa.rows.length->dt (y i*e) 140:=λi m=>dt.den (A i) (by rw[t];exact yU m) q;have r:∀i,i<aa.rows.length->dt (p i*k) 210:=λi m=>dt.den (s i) (by rw[u];exact yU m) I;have W:∀j,j<aa.a.length->dt (d0 aa bQ j*g) 140:=λj n=>dt.den (F j) (by rw[v];exact yU n) C;have X:∀j,j<aa.a.length->dt (o j*l) 140:=λj n=>dt.den (E j) (by rw[w];exact yU n) J;have Y:∀i j,i<aa.rows.length->j<aa.a.length->dt (aa.j.A i j*d) 740:=λi j m n=>dt.den (G i j) (by
  rw[H];exact Nat.dvd_trans (yU (f:=aa.j.A i) n) (uZ (f:=λi=>nE (aa.j.A i) aa.a.length) m)) K
 have M:=dt.nat q;have N:=dt.nat I;have x:=dt.nat K;have z:=dt.nat C;have O:=dt.nat J;have Z:dt (aS (λi=>y i*p i) aa.rows.length*(e*k*d*g*l)) 1311:=by
  have a:aS (λi=>y i*p i) aa.rows.length*(e*k*d*g*l)=aS (λi=>y i*e*(p i*k)*d*g*l) aa.rows.length:=by
   rw[nY,<-fP];exact c9 λi _=>π
  rw[a];exact dt.sum ω λi m=>((((L i m).mul (r i m) (c:=350) rfl).mul x (c:=1070) rfl).mul z (c:=1190) rfl).mul O (c:=1310) rfl
 have s2:∀j,j<aa.a.length->dt (gb aa bQ y j*(e*d*g)) 1002:=λj n=>by
  have b:gb aa bQ y j*(e*d*g)=d0 aa bQ j*g*e*d-aS (λi=>y i*e*(aa.j.A i j*d)*g) aa.rows.length:=by
   have a:aS (λi=>y i*e*(aa.j.A i j*d)*g) aa.rows.length=(e*d*g)*aS (λi=>y i*aa.j.A i j) aa.rows.length:=by
    rw[<-fP];exact c9 λi _=>π
   rw[a];unfold gb;grind
  rw[b];exact dt.sub (((W j n).mul M (c:=260) rfl).mul x (c:=980) rfl) (dt.sum (a:=1000) ω λi m=>((L i m).mul (Y i j m n) (c:=880) rfl).mul z (c:=1000) rfl) (c:=1001) ω ω
 have s3:dt (aS (λj=>gb aa bQ y j*o j) aa.a.length*(e*k*d*g*l)) 1323:=by
  have a:aS (λj=>gb aa bQ y j*o j) aa.a.length*(e*k*d*g*l)=aS (λj=>gb aa bQ y j*(e*d*g)*(o j*l)*k) aa.a.length:=by
   rw[nY,<-fP];exact c9 λi _=>π
  rw[a];exact dt.sum ω λj n=>((s2 j n).mul (X j n) (c:=1142) rfl).mul N (c:=1322) rfl
 have sb:dt (b*(e*k*d*g*l)) 1324:=by
  have a:b=aS (λi=>y i*p i) aa.rows.length+aS (λj=>gb aa bQ y j*o j) aa.a.length:=by
   rw[P.ls.sum,Q,D]
  rw[a,Rat.add_mul];exact Z.add s3 (c:=1323) ω ω
 have sD:dt ((e:Rat)*k*d*g*l) 1260:=(((M.mul N (c:=300) rfl).mul x (c:=1020) rfl).mul z (c:=1140) rfl).mul O (c:=1260) rfl;have nD:(e:Rat)*k*d*g*l≠0:=CF (CF (CF (CF R S) V) T) U;exact vN rfl sb sD nD (j4 ω) (j4 ω)
end
structure Bc(t:List cz):Prop where
 t:∀x∈t,x.at'.length<=10/\∀s∈x.d,s.length<=20
structure ld(l:ar)(cs:List a1):Prop extends tT l cs where
 b:∀c∈cs,c.low.length<=20/\c.up.length<=20
theorem ld.set{l:ar}{cs:List a1}(h:ld l cs){i:Nat}{c:a1}(az:i<cs.length)(b:c.cost=(cs.getD i bY).cost)(d:c.int=(cs.getD i bY).int)(e:c.low.length<=20)(e:c.up.length<=20):ld l (cs.set i c):=
 ⟨h.totT.set az b d,λc a=>by
  rcases List.mem_or_eq_of_mem_set a with a | rfl
  ·exact h.b c a
  grind⟩
theorem ld.fM{l:ar}{cs:List a1}(aY:lN l)(h:ld l cs):lN ⟨cs,l.rows⟩:=by
 refine⟨by show cs.length<=6;rw[h.len];exact aY.n,aY.m,λ_ a=>?_,aY.r⟩;obtain⟨i,b,rfl⟩:=ux (d:=bY) a;have c:=(h.c i b).1;have c:=h.b _ a;have a:=(aY.c _ (cX (ar.kc (aa:=l) (i:=i) (by rw[<-h.len];exact b)))).2.2;grind
theorem S2{l:ar}(_:lN l){t:List cz}(c:Bc t){k:Nat}{cs:List a1}{x:cz}(az:ld l cs)(e:t[k]? = some x)(a:0<=x.ad)(f:isNum x.at'=true)(g:(rd x.at').den=1)(h:x.ad<(cs.length:Int))(_:(cs.getD x.ad.toNat bY).int=true):
 rd (bk (rd x.at'+1))=rd x.at'+1/\ld l (f' cs x.ad.toNat (rd x.at'))/\ld l (gG cs x.ad.toNat (rd x.at'+1)):=by
 have h:=(c.t x (cX e)).1;have b:x.ad.toNat<cs.length:=ω
 let⟨z,c⟩:=Gy g;have e:z.natAbs<=10^10:=by
  have:=(tv h).1;rw[c,Rat.num_intCast]at this;exact this
 have d:rd x.at'+1=((z+1:Int):Rat):=by rw[c];simp
 have i:(z+1).natAbs<=10^20:=by
  have:(z+1).natAbs<=z.natAbs+1:=Int.natAbs_add_le z 1;omega
 have c:(bk (rd x.at'+1)).length<=20:=by
  have c:=Oo 10 (z+1).natAbs π;rw[d];unfold bk;rw[Rat.num_intCast,Rat.den_intCast];simp;split<;>simp<;>omega
 have a:=az.b _ (cX (getD_at b));refine⟨by rw[d];exact(Hc i).rd,az.set b ys.2.2.1 ys.1 (by rw[ys.2.1];exact a.1) ?_,az.set b yh.2.2.1 yh.1 ?_ (by rw[yh.2.1];exact a.2)⟩
 ·unfold lQ;split
  ·exact a.2
  ·show(bk (rd x.at')).length<=20;rw[s3 f];omega
 ·unfold lP;grind
theorem aa8{l:ar}(aY:lN l){t:List cz}(e:Bc t){f:Rat}{all:Bool}{k:Nat}{cs:List a1}{s j:List Bool}{b:Bool}(h:h6 l.rows t f all k cs s b j)(j:ld l cs)(a:b=true):kB l cs f all:=by
 refine h6.sound (I:=λ_ cs=>ld l cs) (λk cs x c d g f=>?_) (λk cs x c d g m n o p=>?_) h j a
 ·refine Qc c.totT (λb a=>?_) f;have h:=(e.t x (cX d)).2;have k:∀i,bI (bS 20) (bU x.d i):=λi=>by
   unfold bU;rw[e5]
   cases b:x.d[i]? with
   | none=>exact qs σ'
   | some s=>exact qs (h s (cX b))
  exact(Vo (c.fM aY) k (vQ (Bm a) a)).rd
 ·exact S2 aY e c d g m n o p
section
variable{l:ar}{cs:List a1}
theorem h6.ex{rows:List b9}{a:List cz}{c:Rat}{all:Bool}{k:Nat}{s d:List Bool}{b:Bool}(h:h6 rows a c all k cs s b d):∃x,a[k]? = some x:=by
 cases h<;>exact⟨_,by assumption⟩
theorem zI(a:cB l=false):de l cs=⟨cs,l.rows⟩:=by
 unfold de;have:cs.map (eE (cB l))=cs:=by
  rw[a];have:eE false=id:=by funext c;rfl
  rw[this,List.map_id]
 rw[this]
theorem abn{aa:ar}(h:c5 aa){a:cW}(ax:fZ aa a):∀i,aV (bU a.d i) 400:=by
 have b:∀{q:Rat},bI e0 q->aV q 400:=λ{q} h=>by
  have b:bS 1900<4294967296^400:=by
   have a:bS 1900<=bS 9^212:=by rw[DW];exact j4 δ
   have d:bS 9^212<=4294967296^212:=zU (by rw[fQ];decide) _;exact dk (a8 a d) (RY 4294967296 212 400 δ δ)
  exact⟨dk h.1 b,dk h.2 b⟩
 have none:∀{d:List (List UInt8)} {i:Nat},d.length<=i->aV (bU d i) 400:=λ{d i} c=>by
  unfold bU;rw[e5,hc ω];exact hf σ'
 intro i
 rcases ax with⟨T,a,dM,hw,wu⟩ | ⟨T,ad,dM,he,wq⟩ | ⟨T,dM,he⟩
 ·have dM:=dM.1;let⟨e,d,_⟩:=j' hw;have d:off aa.j T.v (T.rows a)≠0:=φ d
  have f:(List.range aa.j.m).map (lF aa.j T a)=(List.range aa.rows.length).map λi=>bk (hM aa.j T a (aa.a.length+i)):=xh λi c=>Jx dM.1.inv.B e d i;show aV (bU ((List.range aa.j.m).map (lF aa.j T a)) i) 400;rw[f];have f:bI e0 (hM aa.j T a (aa.a.length+i)):=JV dM.1.inv.B pA e d (λ_ d=>me (dM.1.yr h e d)) _;by_cases c:i<aa.rows.length
  ·rw[o9 c f];exact b f
  grind
 ·grind
 ·have dM:=dM.1;have a:bI e0 (h8 aa.j T (red aa.j aa.cs T) (aa.a.length+i)):=EY dM.1.inv.B pA (λ_ d=>me (dM.1.Nq h d)) _;have d:y0 aa T=(List.range aa.rows.length).map λi=>bk (h8 aa.j T (red aa.j aa.cs T) (aa.a.length+i)):=xh λi _=>GD dM.1.inv.B _ i;show aV (bU (y0 aa T) i) 400;rw[d];by_cases c:i<aa.rows.length
  ·rw[o9 c a];exact b a
  grind
theorem QU(a:jq (db l))(h:eU l cs)(b:(de l cs).I=true):(eo (de l cs)).st=1∨(eo (de l cs)).st=2∨(eo (de l cs)).st=3:=by
 have c:=pg (h.fM a) b;have d:=(c.ga (h.fM a) b).1;unfold ga at d;grind
theorem QT(d:jq (db l))(aY:c5 l)(e:l.I=true)(h:eU l cs)(f:(de l cs).I=true):(eo (de l cs)).st≠3:=by
 intro _;have g:=pg (h.fM d) f;let⟨_,k⟩:=F8 (g.ga (h.fM d) f).1
 rcases k with⟨x,y,b,s,_⟩ | ⟨y,b,s,_⟩ | ⟨x,r,s,Ck,rq,_⟩
 ·grind
 ·grind
 cases a:cB l with
 | true=>
   have b:(de l cs).P r=0:=by
    refine ng λi b=>?_;have b:i<cs.length:=by rw[<-rO (l:=l)];exact b
    rw[IX b,a];show rd [48]*_=0;have:rd [48]=0:=by rw[<-xa];exact(nx pA).rd
    rw[this,zX]
   have:=rq.n;grind
 | false=>
   rw[zI a]at Ck rq;have m:=h.fits Ck;have n:om l r:=by
    refine⟨λj f=>?_,λi o=>?_,?_⟩
    ·have d:j<cs.length:=by rw[h.len];exact f
     let⟨b,c⟩:=rq.c j d;let⟨_,_,_,p⟩:=h.c j d;have b:(cs.getD j bY).low≠[]->0<=r j:=b;have c:(cs.getD j bY).up≠[]->r j<=0:=c
     cases q:(l.ad j).int with
     | false=>
       grind
     | true=>
       let⟨⟨d,f⟩,_⟩:=p q;exact⟨λ_=>b (nL d),λ_=>c (nL f)⟩
    ·have b:gz l r i=gz (⟨cs,l.rows⟩:ar) r i:=by
      show aS (λq=>hs (l.row i).G q*r q) l.a.length=aS (λq=>hs ((⟨cs,l.rows⟩:ar).row i).G q*r q) cs.length;rw[h.len];rfl
     rw[b];exact rq.r i o
    ·have:=rq.n;rwa [SQ h.same]at this
   have b:=pg aY e;let⟨_,s⟩:=F8 (b.ga aY e).1
   rcases s with⟨xT,LM,cC,jJ,_,Fi,_⟩ | ⟨LM,cC,jJ,Fi,oJ,_⟩ | ⟨xT,bG,jJ,_⟩
   ·exact wS n Fi
   ·have:=Az m Fi;grind
   ·unfold cB at a;grind
theorem NB(h:eU l cs)(g:l.I=true)(c:(de l cs).I=true){d:List (List UInt8)}:eX ⟨cs,l.rows⟩ d false=eX (de l cs) d false:=by
 have e:(⟨cs,l.rows⟩:ar).I=true:=by
  let⟨j,k,m,n⟩:=uL.1 c;let⟨_,_,o,_⟩:=(uL (cs:=l.a) (rows:=l.rows)).1 g;refine uL.2 ⟨φ j,k,λ_ a=>?_,φ n⟩;have:=uk.1 (m _ (List.mem_map_of_mem a));rw[oB,oC]at this;obtain⟨i,f,rfl⟩:=ux (d:=bY) a;have a:=(uk.1 (o _ (cX (ar.kc (aa:=l) (i:=i) (by rw[<-h.len];exact f))))).1;exact uk.2 ⟨by rw[(h.c i f).1];exact a,this.2⟩
 have p:∀b,lJ (⟨cs,l.rows⟩:ar) false (bU d) b↔lJ (de l cs) false (bU d) b:=λb=>by
  have g:∀j,gb (⟨cs,l.rows⟩:ar) false (bU d) j=gb (de l cs) false (bU d) j:=λj=>rfl;have f:∀j,j<cs.length->((de l cs).ad j).low=((⟨cs,l.rows⟩:ar).ad j).low/\((de l cs).ad j).up=((⟨cs,l.rows⟩:ar).ad j).up:=λj a=>by
   rw[IX a,oB,oC];exact⟨rfl,rfl⟩
  constructor
  ·rintro⟨d,_,g⟩;refine⟨d,λj a=>?_,?_⟩
   ·have a:j<cs.length:=by rw[<-rO (l:=l)];exact a
    grind
   ·rw[g];congr 1;show aS _ cs.length=aS _ (de l cs).a.length;rw[rO];exact c9 λj a=>π
  ·rintro⟨d,g,h⟩;refine⟨d,λj a=>?_,?_⟩
   ·have a:j<cs.length:=a;rw[<-(f j a).1,<-(f j a).2];exact g j (by rw[rO];exact a)
   ·rw[h];congr 1;show aS _ (de l cs).a.length=aS _ cs.length;rw[rO];exact c9 λj a=>π
 have a:dJ (⟨cs,l.rows⟩:ar) d l.rows.length=dJ (de l cs) d l.rows.length:=by
  unfold dJ;rw[e,c]
 unfold eX;show(if dJ (⟨cs,l.rows⟩:ar) d l.rows.length=true then _ else none)=(if dJ (de l cs) d l.rows.length=true then _ else none);rw[a];split
 ·apply Option.ext;intro b;rw[yu e,yu c];exact p b
 ·rfl
theorem mf.shown(c:jq (db l))(aY:c5 l)(f:l.I=true){g:Option Rat}{d:List (List UInt8)}(h:eU l cs)(j:mf l g cs d){i:Rat}{all:Bool}(b:g=none∨g=some i/\cB l=false/\all=false):k1 l.rows i all cs d=true:=by
 unfold k1
 rcases j with⟨fw,_⟩ | ⟨fw,rfl,cD⟩
 ·rw[h.Oe f fw];rfl
 ·have g:=pg (h.fM c) fw;have a:=(g.ga (h.fM c) fw).1
  rcases QU c h fw with s | s | s
  ·rcases cD with cD | ⟨_,e,h⟩
   ·exact absurd s cD
   rcases b with b | ⟨b,d,rfl⟩
   ·rw[b]at e;cases e
   rw[b]at e;cases e;rw[zI d]at a h|-;unfold ga at a;rw[aL (by rw[zI d]at s;exact s)]at a;grind
  ·unfold ga at a;rw[aw ω,aL s]at a;simp at a;let⟨b,d,_⟩:=a;rw[NB h f fw,b,hd d];simp
  ·exact absurd s (QT c aY f h fw)
theorem mf.low(b:jq (db l))(aY:c5 l)(e:l.I=true){c:Option Rat}{d:List (List UInt8)}(h:eU l cs)(j:mf l c cs d){f:Rat}{all:Bool}(k:(∃u,c=some u)->cB l=false)(g:k1 l.rows f all cs d=true):kB l cs f all:=by
 rcases j with⟨fw,_⟩ | ⟨fw,rfl,cD⟩
 ·exact Of (h.Oe e fw)
 ·have i:=pg (h.fM b) fw;have a:=(i.ga (h.fM b) fw).1
  rcases QU b h fw with s | s | s
  ·rcases cD with cD | ⟨u,c,_⟩
   ·grind
   have f:=k ⟨u,c⟩;have d:=(DO (h.fM b) fw i s).1;rw[zI f]at a s d g;refine Qc h.same (λf i=>?_) g;unfold ga at a;rw[aL s]at a;simp at a;let⟨_,_,_,c,_⟩:=a;rw[i]at c;have c:bk f=_:=c;rw[<-c]at d;exact xb (s3 d)
  ·unfold ga at a;rw[aw ω,aL s]at a;simp at a;let⟨c,d,_⟩:=a;rw[<-NB h e fw]at c d;exact QV c d
  ·exact absurd s (QT b aY e h fw)
theorem ot.run(c:jq (db l))(d:l.I=true){deep:Bool}{m:Nat}{s a:bV}{b:Bool}(h:hz (db l) deep m s a b):ot l s->b=true->ot l a/\a.todo=[]/\a.tree.length<=m:=by
 induction h with
 | done s _=>grind
 | jj s _ _=>grind
 | step s _ _ _ b _ _ ih=>intro h a;exact ih (h.look c d b) a
theorem ot.start(b:nr l)(c:l.I=true)(d:nV l=false):ot l (py.U (db l).a):=by
 refine⟨⟨.ag 0,rfl,by simp[cQ.B],λ_=>?_,⟨fs,rfl,δ,.root b c d,.inl ?_⟩⟩,?_,λ_ a=>?_,λ_=>rfl,λ_ e=>by cases e⟩
 ·simp[cQ.B,bV.U,py]
 ·simp[bV.U,py,db]
 ·simp[bV.U,py]
 ·simp[bV.U,py]at a;subst a;rfl
structure x2(l:ar)(iN:bV):Prop where
 ex:∃t:cQ,t.rt=0/\t.B.Nodup/\(∀j,j∈t.B↔j<iN.tree.length)/\ee iN.tree (λ_ cs d=>eU l cs/\mf l iN.val cs d) t l.a
 n:iN.tree.length<=300
 aK:iN.val=none->iN.L=⟨2,[],[],[],[]⟩
 c0:∀u,iN.val=some u->pB l u iN.L
theorem sV(b:nr l)(c:l.I=true)(d:nV l=false){deep:Bool}{k:Int}{e:bV}(h:hz (db l) deep (lo k) (py.U (db l).a) e true):x2 l e:=by
 let⟨⟨⟨t,f,g,i,j⟩,_,_,l,m⟩,_,n⟩:=ot.run (b.ok d) c h (.start b c d) rfl;refine⟨⟨t,f,g,i,j.imp λk cs _ a=>⟨a.1,?_⟩⟩,a8 n QD,l,m⟩
 rcases a.2 with a | a
 ·grind
 ·exact a.2
theorem pB.fit(b:l.I=true){u:Rat}{a:cW}(h:pB l u a):pK l.rows l.a (bU a.x)/\fU l a.x=true/\jm l a.x=true:=by
 have c:=Qy b;have d:=(GQ (cs:=l.a)).1 (uv c h.f);have f:∀i,i<l.a.length->(l.ad i).int=true->(bU a.x i).den=1:=λi c e=>JX h.w i (by rw[p1];exact c) (by rw[wJ c,vY];exact e);have e:dJ l a.x l.a.length=true:=by
  have:=h.f;unfold fU at this;rw[bK]at this;let⟨a,g⟩:=CM this.1;unfold dJ;rw[g,b];rw[p1]at a;simpa using a
 refine⟨⟨d,f⟩,?_,?_⟩
 ·unfold fU;rw[e,Bool.true_and];exact(y4 b).2 d
 ·unfold jm;rw[e,Bool.true_and];refine AA.2 λi c=>?_;grind
theorem pB.cost(b:cB l=false){u:Rat}{a:cW}(h:pB l u a):l.P (bU a.x)=u/\gy l a.x=some u:=by
 have e:db l=l:=zI (cs:=l.a) b;have a:=h.c;rw[e]at a;exact⟨(JU a).symm,a⟩
end
section
variable{l:ar}{deep:Bool}{k:Int}{b:cW}{u:List cz}{e:Int}
theorem x2.low{a:bV}(b:jq (db l))(aY:c5 l)(c:l.I=true)(h:x2 l a){d:Rat}{all:Bool}(e:(∃u,a.val=some u)->C.cB l=false)(f:a.val=none∨a.val=some d/\C.cB l=false/\all=false):kB l l.a d all:=by
 let⟨_,_,_,_,a⟩:=h.ex;exact(a.imp λk _ _ a=>a.2.low b aY c a.1 e (a.2.shown b aY c a.1 f)).low
theorem iy.Qb(a:nr l)(h:iy l deep k b u e)(f:e=0)(m:b.st≠4):oe l b:=by
 cases h with
 | form _=>cases f
 | wide _ _=>cases f
 | jj _ _ _ _=>grind
 | cB e b g j c d=>
   have E:=sV a b g j
   cases h:e.val with
   | none=>rw[E.aK h]at d;cases d
   | some q=>
     let⟨k,_,_⟩:=(E.c0 q h).fit b;have d:=pg a.s b;let⟨_,_⟩:=F8 (d.ga a.s b).1;have f:(eo l).st=3:=by unfold C.cB at c;simpa using c
     have c:=(d.ga a.s b).1;unfold ga at c;rw[aw ω,aw ω,aL f]at c;simp at c;have d:=c.2.1;unfold iL at d;rw[bK]at d;have i:=(z7 b).1 d.2;refine .cB (bU e.L.x) (bU (eo l).r) rfl rfl k i λc d e=>?_;have f:=eU.root a b g;let⟨⟨b,g⟩,_⟩:=(f.c c d).2.2.2 e;let⟨e,f⟩:=i.c c d;have c:=e (nL b);have b:=f (nL g);grind
 | done g b h j k=>
   have E:=sV a b h j;have i:=a.ok h
   cases c:g.val with
   | none=>
     have d:=E.aK c;rw[d];exact .inf rfl rfl (E.low i a.s b (λ⟨u,e⟩=>π) (.inl c))
   | some q=>
     have B:=E.c0 q c;have d:C.cB l=false:=by
      cases e:C.cB l with
      | false=>rfl
      | true=>exact absurd ⟨e,B.st⟩ k
     let⟨h,_,_⟩:=B.fit b;let⟨f,_⟩:=B.cost d;refine .opt (bU g.L.x) B.st h (by rw[f];exact B.v) ?_;rw[f];exact E.low i a.s b (λ_=>d) (.inr ⟨c,d,rfl⟩)
theorem iy.taken(d:nr l)(h:iy l deep k b u e)(j:e=0)(t:b.st≠4){c:Bool}(f:iU l b u c):c=true:=by
 cases h with
 | form _=>cases j
 | wide _ _=>cases j
 | jj _ _ _ _=>grind
 | cB k a e m c g=>
   have E:=sV d a e m
   cases h:k.val with
   | none=>rw[E.aK h]at g;cases g
   | some q=>
     let⟨_,_,_⟩:=(E.c0 q h).fit a;have g:=pg d.s a;have j:(eo l).st=3:=by unfold C.cB at c;simpa using c
     have c:=(g.ga d.s a).1;unfold ga at c;rw[aw ω,aw ω,aL j]at c;simp at c;have g:=c.2.1;have c:=g;unfold iL at c;rw[bK]at c;have n:=(z7 a).1 c.2;let⟨_,o⟩:=CM c.1;have b:oM l (eo l).r=true:=by
      unfold oM;rw[eA];intro i b;have b:=o6.1 b
      cases p:(l.ad i).int with
      | false=>rfl
      | true=>
        have c:=eU.root d a e;let⟨⟨a,e⟩,_⟩:=(c.c i b).2.2.2 p;let⟨c,g⟩:=n.c i b;have b:=c (nL a);have a:=g (nL e);have a:bU (eo l).r i=0:=π
        have b:i<(eo l).r.length:=ω
        have c:isNum ((eo l).r.getD i [])=true:=by
         rw[e5,en b];exact(eA.1 o) _ (tn b)
        have b:=s3 c;have a:rd ((eo l).r.getD i [])=0:=a;rw[a,xa]at b;rw[<-b];simp
     unfold iU at f;grind
 | done a b i p q=>
   have E:=sV d b i p;have r:=d.ok i;let⟨t,n,s,o,u⟩:=E.ex;have g:0<a.tree.length:=(o 0).1 (by rw[<-n];exact t.nb);have i:=E.n;have v:∀{i:List UInt8} {j:Bool} {c:Bool},(isNum i=true∨j=true)->(a.val=none∨a.val=some (rd i)/\C.cB l=false/\j=false)->j5 l a.tree i j c->c=true:=λ{i j c} i w h=>by
    unfold j5 at h;rw[aL ⟨b,g,ω,i⟩]at h;obtain⟨_,_,e,rfl⟩:=h;exact(u.imp λk _ _ c=>c.2.shown r d.s b c.1 w).VR n s o e
   cases m:a.val with
   | none=>
     have c:=E.aK m;unfold iU at f;grind
   | some d=>
     have B:=E.c0 d m;have c:C.cB l=false:=by
      cases e:C.cB l with
      | false=>rfl
      | true=>exact absurd ⟨e,B.st⟩ q
     let⟨_,k,x⟩:=B.fit b;let⟨_,h⟩:=B.cost c;have y:isNum a.L.val=true:=by
      cases e:isNum a.L.val with
      | true=>rfl
      | false=>
        have d:=e;rw[B.v]at e;have g:=Ja d;rw[B.r]at g;rw[g,(nx pA).isNum]at e;cases e
     unfold iU at f;rw[aL ⟨b,rfl⟩]at f;have b:a.L.st=1:=B.st;rw[aL b,aL ⟨by rw[h];rfl,by rw[h];exact B.v.symm,k,x,rfl⟩]at f;exact v (.inl y) (.inr ⟨by rw[m,B.r],c,rfl⟩) f
theorem iy.UU(f:nr l)(h:iy l deep k b u e)(i:e=0)(s:b.st≠4){a:cW}(c:iU l a u true):a.st=b.st/\a.val=b.val:=by
 have j:=h.Qb f i s;have s:∀{d:List UInt8} {g:Bool},¬j5 l [] d g true:=λ{d g} h=>by
  unfold j5 at h;grind
 cases h with
 | form _=>cases i
 | wide _ _=>cases i
 | jj _ _ _ _=>grind
 | cB _ _ _ _ _ _=>
   refine(iU.Jy (λd g _ a=>?_) c).agree j;let⟨_,b⟩:=a.ex;cases b
 | done h q r v w=>
   have E:=sV f q r v;have x:=f.ok r;let⟨t,y,_,_,z⟩:=E.ex;refine(iU.Jy (λd g _ m=>?_) c).agree j;have A:(∃u,h.val=some u)->C.cB l=false:=λ⟨B,D⟩=>by
    cases e:C.cB l with
    | false=>rfl
    | true=>exact absurd ⟨e,(E.c0 B D).st⟩ w
   refine h6.sound (I:=λk d=>∃t:cQ,t.rt=k/\ee h.tree (λ_ d g=>eU l d/\mf l h.val d g) t d) (λk d g ⟨t,n,o⟩ p c F=>?_) (λk d g ⟨t,n,o⟩ p c _ _ _ _=>?_) m ⟨t,y,z⟩ rfl
   ·let⟨m,a⟩:=o.at' n p c;exact a.low x f.s q m A F
   ·let⟨a,b,_,_,_,_,_,_,_,e,_,j,_,_⟩:=o.sub n p c;grind
end
end Go.Dam.C
namespace Go.Dam.C
open Go Go.Dam
variable{X:aA}{pm cu:Perm}{H ab bX ai:ae}{n:Nat}
structure ov(X:aA):Prop extends nw X where
 lR:Has X F.lR C.lR
 q4:Has X F.q4 C.q4
 q3:Has X F.q3 C.q3
 q2:Has X F.q2 C.q2
 oA:Has X F.oA C.oA
 oz:Has X F.oz C.oz
 oy:Has X F.oy C.oy
 rX:Has X F.rX C.rX
 rY:Has X F.rY C.rY
theorem Ux(b:ov X)(g:bl pm H){cF:Nat}{s:List Bool}(ax:H.get cF=some (.cells (s.map Value.bool) (.n 1)))(aY:s.length<=1000):
 Call X pm F.rY [.slice (some ⟨cF,0,none⟩) s.length s.length,.bool false] H λr ab=>ab=H/\∃z:Int,r=.int .i64 z/\(0<=z↔s.contains false=true):=by
 refine Call.hT b.rY rfl ?_;simp[-Jp,-Jq,-cm]
 refine er (σ:=Unit) s.length (λ_ _=>[(0,.S cF s.length s.length),(1,.bool false)])
  (λi _ ab=>ab=H/\∀j,j<i->s[j]? = some true) () ⟨rfl,λj a=>absurd a (gS _)⟩ ?_ ?_
 ·rintro i _ _ a ⟨rfl,_⟩;cases e:s[i]with
  | false=>
    have b:false∈s:=by rw[<-e];exact tn a
    simp_all
  | true=>
    simp[ax,a,e,-cm];grind
 ·rintro _ _ ⟨rfl,_⟩;simp;intro h;let⟨_,_,_⟩:=tp h;grind
theorem Uu(a:ov X)(g:bl pm H){cF:Nat}{s:List Bool}(ax:H.get cF=some (.cells (s.map Value.bool) (.n 1)))(aY:s.length<=1000):
 Call X pm F.rX [.slice (some ⟨cF,0,none⟩) s.length s.length,.bool false] H λr ab=>ab=H/\r=.bool (s.contains false):=by
 refine Call.has a.rX rfl ?_;simp;refine al.of (aq:=[.S cF s.length s.length,.bool false]) (Ux a g ax aY) ?_;rintro _ _ ⟨rfl,z,rfl,a⟩;have e:decide (z<0) = !s.contains false:=by
  by_cases h:0<=z
  ·rw[a.1 h,j1 ω];rfl
  ·rw[lz.2 λe=>h (a.2 e),hd ω];rfl
 simp_all
theorem vX(b:ov X)(g:bl pm H){l:List UInt8}(aY:l.length<1000000):Call X pm F.lR [ak l] H λr ab=>K pm H ab/\(isNum l=true/\b4 ab r (rd l)∨isNum l=false/\r=.pointer none):=by
 refine Call.W b.lR rfl λ_ a=>?_;by_cases c:l=[]
 ·subst c;simp;refine a _ _ _ ?_;simp[isNum,za];exact K.refl g
 ·have d:(l==[])=false:=φ c
  simp[d,eM,-FW];refine al.of (aq:=[ak l]) (qS b.toEL g aY) ?_;rintro r _ ⟨f,h⟩
  rcases h with⟨e,rfl⟩ | ⟨q,p,e,rfl,fw⟩
  ·simp;refine a _ _ _ ?_;simp[isNum,e];exact f
  ·simp;refine a _ _ _ ?_;simp[isNum,e,rd];grind
end Go.Dam.C
namespace Go.Dam.C
open Go Go.Dam
variable{X:aA}{pm cu:Perm}{H ab bX ai:ae}{n:Nat}
theorem NZ{cs:List a1}{f:Nat->List Value}(a:∀i,i<cs.length->gA cs i (f i)):∀j,j<cs.length->f j=(cs.getD j bY).cells:=λj b=>by
 let⟨_,c,d⟩:=a j b;rw[d,e5,c];rfl
theorem ds.a{ah az:Nat}{v:Value}{cs:List a1}(h:eS H ah az v cs.length 5 λj=>(cs.getD j bY).cells):ds H ah v cs.length 5 (gA cs):=h.e λ_ az=>⟨_,getD_at az,rfl⟩
theorem Vg{c:a1}{v:Rat}(h:isNum c.up=true)(a:rd c.up<=v):lQ c v=c:=aL ⟨h,a⟩
theorem Nw{c:a1}{v:Rat}(h:isNum c.up=true->v<rd c.up):lQ c v={c with up:=bk v}:=aw λ⟨a,b⟩=>fy.2 b (h a)
theorem UR{c:a1}{v:Rat}(h:isNum c.low=true)(a:v<=rd c.low):lP c v=c:=aL ⟨h,a⟩
theorem Nb{c:a1}{v:Rat}(h:isNum c.low=true->rd c.low<v):lP c v={c with low:=bk v}:=aw λ⟨a,b⟩=>fy.2 b (h a)
theorem SY{cs:List a1}{i:Nat}(az:i<cs.length):cs.set i (cs.getD i bY)=cs:=by
 apply n4;intro j;by_cases e:j=i
 ·subst e;rw[tk az,getD_at az]
 ·rw[o2 (Ne.symm e)]
theorem Vi(a:ov X)(g:bl pm H){t w:Value}{cs:List a1}{T i:Nat}{v:Rat}(B:ds H T t cs.length 5 (gA cs))(U:b4 H w v)(p:bo v=true)(az:i<cs.length)(V:cs.length<=1000)(d:(cs.getD i bY).up.length<=10000):
 Call X pm F.q3 [t,.int .i64 (i:Int),w] H λr ab=>K pm H ab/\ds ab H.next r (f' cs i v).length 5 (gA (f' cs i v)):=by
 refine Call.W a.q3 rfl λ_ q=>?_;let⟨W,Y,e,_⟩:=id B;subst e;simp[-FL,-FN];refine al.of (aq:=[.slice W cs.length Y]) (tQ (w:=5) (cR:=72) a.k0 g B V (λi cs ⟨c,_,e⟩=>by rw[e];rfl)) ?_;rintro r C ⟨D,f,Z,E⟩;have G:=D.h;obtain⟨b,L,h,I,rfl,J,j⟩:=Z.pos ω;have s:=NZ E;have q2:=j.lt az (δ:2<5);have M:L[i*5+2]? = some (ak (cs.getD i bY).up):=by rw[(j.2 i az).2 2 δ,s i az];rfl
 obtain⟨c,k⟩:=ε (cs.getD i bY);rw[<-k]at M d;simp[az,J,M,-FK,-FM];refine al.of (aq:=[ak c.up]) (vX a G ω) ?_;rintro _ N ⟨t,l⟩;have u:=t.h;have x:=D.trans t;have y:=U.up x;have m:=t.some G J;have O:pm.may b=true:=g.may h;obtain⟨n,P⟩:=ε (L.set (i*5+2) (ak (bk v)));have Q:setCells L (i*5+2) [ak (bk v)]=some n:=by rw[P];exact setCells_one q2
 obtain⟨z,o⟩:=ε (N.put b (.cells n (.n 5)));have R:K pm H z:=by rw[o];exact aC.put x h m σ' _
 have aa:z.get b=some (.cells n (.n 5)):=by rw[o];exact bO
 have S:lQ c v={c with up:=bk v}->ds z H.next (.S b cs.length cs.length) (f' cs i v).length 5 (gA (f' cs i v)):=λA=>by
  have d:(f' cs i v).length=cs.length:=by simp[f']
  rw[d];refine eS.e (ah:=H.next) (az:=C.next) (f:=λg=>((f' cs i v).getD g bY).cells) (.inr ⟨b,n,h,I,rfl,aa,?_⟩) λg r=>⟨_,getD_at (by rw[d];exact r),rfl⟩;rw[P];refine j.set az δ _ ?_ λg r w=>?_
  ·unfold f';rw[pX az,aL rfl,s i az,<-k,A];simp[a1.cells]
  ·unfold f';rw[pX az,aw w,s g r]
 have no:lQ c v=c->ds N H.next (.S b cs.length cs.length) (f' cs i v).length 5 (gA (f' cs i v)):=λA=>by
  have e:f' cs i v=cs:=by unfold f';rw[<-k,A,k];exact SY az
  rw[e];exact eS.e (ah:=H.next) (az:=C.next) (f:=f) (.inr ⟨b,L,h,I,rfl,m,j⟩) E
 rcases l with⟨mz,l⟩ | ⟨mz,rfl⟩
 ·obtain⟨g,rfl,_⟩:=id l;simp[-By];refine al.of (aq:=[w,.P g]) (k7 a.toEL u y.of l.of p (jf d)) ?_;rintro _ _ ⟨rfl,rfl⟩;by_cases f:v<rd c.up
  ·simp[kb,f,-Bx];refine al.of (aq:=[w]) (mn a.toEL u y.of p) ?_;rintro _ _ ⟨rfl,rfl⟩;simp[az,m,Q,O,<-o];refine q _ _ _ ?_;simp;exact⟨R,S (Nw λ_=>f)⟩
  ·simp[kb,f];refine q _ _ _ ?_;simp;exact⟨x,no (Vg mz (fy.1 f))⟩
 ·simp[-By];refine al.not ?_;simp[aR,-Bx];refine al.of (aq:=[w]) (mn a.toEL u y.of p) ?_;rintro _ _ ⟨rfl,rfl⟩;simp[az,m,Q,O,<-o];refine q _ _ _ ?_;simp;exact⟨R,S (Nw λe=>by rw[mz]at e;cases e)⟩
theorem UP(a:ov X)(g:bl pm H){t w:Value}{cs:List a1}{T i:Nat}{v:Rat}(B:ds H T t cs.length 5 (gA cs))(U:b4 H w v)(p:bo v=true)(az:i<cs.length)(V:cs.length<=1000)(d:(cs.getD i bY).low.length<=10000):
 Call X pm F.q2 [t,.int .i64 (i:Int),w] H λr ab=>K pm H ab/\ds ab H.next r (gG cs i v).length 5 (gA (gG cs i v)):=by
 refine Call.W a.q2 rfl λ_ q=>?_;let⟨W,Y,e,_⟩:=id B;subst e;simp[-FH,-FJ];refine al.of (aq:=[.slice W cs.length Y]) (tQ (w:=5) (cR:=72) a.k0 g B V (λi cs ⟨c,_,e⟩=>by rw[e];rfl)) ?_;rintro r C ⟨D,f,Z,E⟩;have G:=D.h;obtain⟨b,L,h,I,rfl,J,j⟩:=Z.pos ω;have s:=NZ E;have q2:=j.lt az (δ:1<5);have M:L[i*5+1]? = some (ak (cs.getD i bY).low):=by rw[(j.2 i az).2 1 δ,s i az];rfl
 obtain⟨c,k⟩:=ε (cs.getD i bY);rw[<-k]at M d;simp[az,J,M,-FG,-FI];refine al.of (aq:=[ak c.low]) (vX a G ω) ?_;rintro _ N ⟨t,l⟩;have u:=t.h;have x:=D.trans t;have y:=U.up x;have m:=t.some G J;have O:pm.may b=true:=g.may h;obtain⟨n,P⟩:=ε (L.set (i*5+1) (ak (bk v)));have Q:setCells L (i*5+1) [ak (bk v)]=some n:=by rw[P];exact setCells_one q2
 obtain⟨z,o⟩:=ε (N.put b (.cells n (.n 5)));have R:K pm H z:=by rw[o];exact aC.put x h m σ' _
 have aa:z.get b=some (.cells n (.n 5)):=by rw[o];exact bO
 have S:lP c v={c with low:=bk v}->ds z H.next (.S b cs.length cs.length) (gG cs i v).length 5 (gA (gG cs i v)):=λA=>by
  have d:(gG cs i v).length=cs.length:=by simp[gG]
  rw[d];refine eS.e (ah:=H.next) (az:=C.next) (f:=λg=>((gG cs i v).getD g bY).cells) (.inr ⟨b,n,h,I,rfl,aa,?_⟩) λg r=>⟨_,getD_at (by rw[d];exact r),rfl⟩;rw[P];refine j.set az δ _ ?_ λg r w=>?_
  ·unfold gG;rw[pX az,aL rfl,s i az,<-k,A];simp[a1.cells]
  ·unfold gG;rw[pX az,aw w,s g r]
 have no:lP c v=c->ds N H.next (.S b cs.length cs.length) (gG cs i v).length 5 (gA (gG cs i v)):=λA=>by
  have e:gG cs i v=cs:=by unfold gG;rw[<-k,A,k];exact SY az
  rw[e];exact eS.e (ah:=H.next) (az:=C.next) (f:=f) (.inr ⟨b,L,h,I,rfl,m,j⟩) E
 rcases l with⟨mz,l⟩ | ⟨mz,rfl⟩
 ·obtain⟨g,rfl,_⟩:=id l;simp[-Bw];refine al.of (aq:=[w,.P g]) (k7 a.toEL u y.of l.of p (jf d)) ?_;rintro _ _ ⟨rfl,rfl⟩;by_cases f:rd c.low<v
  ·simp[nz,f,-Bv];refine al.of (aq:=[w]) (mn a.toEL u y.of p) ?_;rintro _ _ ⟨rfl,rfl⟩;simp[az,m,Q,O,<-o];refine q _ _ _ ?_;simp;exact⟨R,S (Nb λ_=>f)⟩
  ·simp[nz,f];refine q _ _ _ ?_;simp;exact⟨x,no (UR mz (fy.1 f))⟩
 ·simp[-Bw];refine al.not ?_;simp[aR,-Bv];refine al.of (aq:=[w]) (mn a.toEL u y.of p) ?_;rintro _ _ ⟨rfl,rfl⟩;simp[az,m,Q,O,<-o];refine q _ _ _ ?_;simp;exact⟨R,S (Nb λe=>by rw[mz]at e;cases e)⟩
end Go.Dam.C
namespace Go.Dam.C
open Go Go.Dam
variable{X:aA}{pm cu:Perm}{H ab bX ai:ae}{n:Nat}
theorem xu(l:List UInt8):bo (rd l)=true:=(aau l).bo δ
def iX(H:ae)(v:Value)(l:List UInt8):Prop:=isNum l=true/\b4 H v (rd l)∨isNum l=false/\v=.pointer none
theorem iX.of{v:Value}{l:List UInt8}(h:iX H v l):nJ H v=some (rd l):=by
 rcases h with⟨_,h⟩ | ⟨mz,rfl⟩
 ·exact h.of
 ·rw[Ja mz];rfl
theorem iX.up{v:Value}{l:List UInt8}{n:Nat}(h:iX H v l)(u:aC pm n H ab):iX ab v l:=h.imp (λh=>⟨h.1,h.2.up u⟩) id
theorem iX.form{v:Value}{l:List UInt8}(h:iX H v l):(∃b,v=.pointer (some ⟨b,0,none⟩))∨v=.pointer none:=by
 rcases h with⟨_,b,rfl,_⟩ | ⟨_,rfl⟩
 ·exact .inl ⟨b,rfl⟩
 ·exact .inr rfl
theorem abb(b:ov X)(g:bl pm H){l:ar}{jb:Nat}{cL R tv u sv S eN:Value}{all:Bool}{e:List UInt8}{cs:List a1}{d:List (List UInt8)}(U:H.get jb=some (.cells [cL,R,tv,u,.bool all,sv] (.t T.Bs)))(V:jn H R l.rows)(hf:iX H u e)
 (A:ds H 0 S cs.length 5 (gA cs)) (W:fp H eN d) (ax:jO d) (B:c5 ⟨cs,l.rows⟩) (Y:∀bQ,(fR (eX ⟨cs,l.rows⟩ d bQ)).length<1000000):
 Call X pm F.q4 [.pointer (some ⟨jb,0,none⟩),S,eN] H λr ab=>K pm H ab/\r=.bool (k1 l.rows (rd e) all cs d):=by
 refine Call.hT b.q4 rfl ?_;let⟨f,h,n,_⟩:=id A;subst n;have D:=A.aZ;let⟨_,_,n,D⟩:=D.ex;cases n;have R:cs.length<=6:=B.n;simp[-FZ,-F1,-cm]
 refine er (σ:=Unit) cs.length (λ_ _=>[(0,.P jb),(1,.slice f cs.length h),(2,eN),(16,.slice f cs.length h)])
  (λi _ ab=>K pm H ab/\∀j,j<i->ju (cs.getD j bY)=false) () ⟨K.refl g,λj a=>absurd a (gS _)⟩ ?_ ?_
 ·rintro k _ o F ⟨t,H⟩;have p:=t.h;obtain⟨_,I,_,J,_,rfl,L,M,N,c,y,rfl⟩:=D k F;have O:cs.getD k bY=c:=by rw[e5,y];rfl
  have G:=cX y;let⟨_,_,_⟩:=B.c c G;have P:=t.some g L;obtain⟨q,v⟩:=ε o.next;obtain⟨a,w⟩:=ε ((o.new (.cells [.string ⟨#[]⟩,.string ⟨#[]⟩,.string ⟨#[]⟩,.string ⟨#[]⟩,.bool false] (.t T.FX))).put q (.cells [ak c.name,ak c.low,ak c.up,ak c.cost,.bool c.int] (.t T.FX)));have D:K pm o a:=by rw[w,v];exact gh p _ _
  have d:=D.h;have x:a.get q=some (.cells [ak c.name,ak c.low,ak c.up,ak c.cost,.bool c.int] (.t T.FX)):=by rw[w];exact bO
  have L:∀y,(o.new y).get q=some y:=λy=>by rw[v];exact cc
  have o:pm.may q=true:=p.may ω;have y:bB J (I+k*5) 5=some [ak c.name,ak c.low,ak c.up,ak c.cost,.bool c.int]:=N;have Q:=t.trans D;simp[F,P,M,y,p.pick,p.make,ptr,bA,<-v,L,o,setCells,<-w,-vU,-cm];refine cx.of d.ah rfl ?_;obtain⟨z,i⟩:=ε a.next;have r:K pm a (a.up 8):=(K.refl d).up 8;have o:=λj=>(by rw[i];exact d.none j:(a.up 8).get (z+j)=none);have p:=(by rw[i];exact d.O:(a.up 8).get z=none);have X:q<z:=by rw[i];exact d.lt x
  rw[<-i];simp[b8,o,p,x,-vU,-cm];refine cY r.h (aq:=[ak c.low]) (by simp[o]) rfl (λcu C=>vX b C ω) ?_;rintro Z _ m h3;have p:=m.h;have o:=m.res d;rw[<-i]at o;have q:=m.some r.h (r.some d x);simp[-vU,-cm];refine fG p (aq:=[ak c.up]) (by simp[o]) rfl (λcu C=>vX b C ω) ?_;rintro q p o t;have g4:=o.h;have aa:iX p Z c.low:=iX.up h3 o;have ab:iX p q c.up:=t;have q:=(K.trans m o).res d;rw[<-i]at q;have d:K pm a p:=K.trans r (K.trans m o);have s:=K.trans Q d;simp[q,b3,bZ,fT,cU,l0,X,-vU,-cm];have E:ju c=false->∀j,j<k+1->ju (cs.getD j bY)=false:=λad j _=>by
   by_cases n:j=k
   ·subst n;rw[O];exact ad
   ·exact H j ω
  have sl:=jf (l:=c.low) ω;have su:=jf (l:=c.up) ω
  rcases aa with⟨cw,Pl⟩ | ⟨cw,rfl⟩
  ·obtain⟨g,rfl,_⟩:=id Pl
   rcases ab with⟨gg,Pm⟩ | ⟨gg,rfl⟩
   ·obtain⟨l,rfl,_⟩:=id Pm;simp[-yG,-yF,-cm];refine al.of (aq:=[.P g,.P l]) (k7 b.toEL g4 Pl.of Pm.of sl su) ?_;rintro _ _ ⟨rfl,rfl⟩;have d:ju c=decide (rd c.up<rd c.low):=by unfold ju;rw[cw,gg];rfl
    by_cases a:rd c.up<rd c.low
    ·have g:ju c=true:=by rw[d,hd a]
     have i:cs.any ju=true:=List.any_eq_true.2 ⟨c,G,g⟩;simp[nz,a];simp[k1,i];exact s
    ·have g:ju c=false:=by rw[d,j1 a]
     simp[nz,a,-cm];exact⟨s,E g⟩
   ·have a:ju c=false:=by unfold ju;rw[gg];simp
    simp[-yG,-yF,-cm];refine al.not ?_;simp[aR,-cm];exact⟨s,E a⟩
  ·have a:ju c=false:=by unfold ju;rw[cw];simp
   simp[aR,-yG,-yF,-cm];refine al.not ?_;simp[aR,-cm];exact⟨s,E a⟩
 ·rintro _ v ⟨E,ao⟩;have w:=E.h;have ar:cs.any ju=false:=by
   rw[lz];intro a;let⟨_,c,a⟩:=List.any_eq_true.1 a;obtain⟨i,g,rfl⟩:=ux (d:=bY) c;rw[ao i g]at a;cases a
  obtain⟨o,p,rfl,_⟩:=V.at;have au:=E.some g U;obtain⟨q,F⟩:=ε v.next;obtain⟨Z,G⟩:=ε ((v.new (.cells [.slice none 0 0,.slice none 0 0] (.t T.FY))).put q (.cells [.slice f cs.length h,.slice o l.rows.length p] (.t T.FY)));have D:K pm v Z:=by rw[G,F];exact gh w _ _
  have g2:=D.h;have aa:Z.get q=some (.cells [.slice f cs.length h,.slice o l.rows.length p] (.t T.FY)):=by rw[G];exact bO
  have av:∀n,(v.new n).get q=some n:=λn=>by rw[F];exact cc
  have aw:pm.may q=true:=w.may ω;have I:=E.trans D;have ho:=B.ok;have ad:∀{ab:ae},K pm H ab->kA ab (.agg #[.slice f cs.length h,.slice o l.rows.length p]) ⟨cs,l.rows⟩:=λaf=>⟨_,_,rfl,(A.aZ.imp (af.ext g) λ_ _ _ n=>n),V.ext (af.ext g)⟩;simp[au,bB,w.pick,w.make,ptr,bA,<-F,av,aw,setCells,<-G,aa,-F3,-F0,-ny,-cm];refine al.of (aq:=[.agg #[.slice f cs.length h,.slice o l.rows.length p],eN,.bool false]) (Mr b.tofA g2 (ad I) ho (W.ext (I.ext g)) ax) ?_;rintro _ H3 ⟨J,rfl⟩;have M:=J.h;have ag:=I.trans J;have ay:=J.some g2 aa;rw[JM];obtain⟨k,ah⟩:=ε (eX ⟨cs,l.rows⟩ d false);obtain⟨c,N⟩:=ε (eX ⟨cs,l.rows⟩ d true);have ai:=Y false;have aj:=Y true;have i:k1 l.rows (rd e) all cs d=((k.isSome&&decide (0<rd (fR k)))||(!all&&(c.isSome&&decide (rd e<=rd (fR c))))):=by
   unfold k1;rw[ar,ah,N];rfl
  rw[<-ah]at ai|-;rw[<-N]at aj;simp[-ui,-uh,-ny,-cm];have an:∀L s,K pm H3 s->aF 0 L=some (.P jb)->aF 2 L=some eN->aF 11 L=some (.P q)->k1 l.rows (rd e) all cs d=(!all&&(c.isSome&&decide (rd e<=rd (fR c))))->wp X pm (.code C.ny) L s [] (pJ [.slot 6] λr ab=>K pm H ab/\r=.bool (k1 l.rows (rd e) all cs d)):=λL s j L0 n q i=>by
   have v:=j.h;have C:=ag.trans j;have w:=j.some M ay;simp[q,n,w,bB,bA,-F2,-BC,-cm];refine al.of (aq:=[.agg #[.slice f cs.length h,.slice o l.rows.length p],eN,.bool true]) (Mr b.tofA v (ad C) ho (W.ext (C.ext g)) ax) ?_;rintro _ d ⟨T,rfl⟩;have m:=T.h;have r:=C.trans T;have x:=r.some g U;rw[JM,<-N];have f:=m.lt x;have ab:iX d u e:=hf.up r;simp[-BC,-cm];simp[-cm];refine cx.of m.ah rfl ?_;obtain⟨z,y⟩:=ε d.next;have t:K pm d (d.up 19):=(K.refl m).up 19;have a:=λe=>(by rw[y];exact m.none e:(d.up 19).get (z+e)=none);have X:=(by rw[y];exact m.O:(d.up 19).get z=none);have H:jb<z:=ω
   rw[<-y]
   cases all with
   | true=>
     simp[b8,a,X,L0,x,aR,-cm];refine d'.not (by simp[a]) ?_;simp[aR, -cm];refine d'.not (by simp[a]) ?_;simp[aR,a,b3,bZ, cU,H,-cm];simp;exact⟨r.trans t,by rw[i];rfl⟩
   | false=>
     simp[b8,a,X,L0,x,aR,-cm]
     cases h2:c.isSome with
     | false=>
       simp[a,    -cm];refine d'.not (by simp[a]) ?_;simp[aR, -cm];refine d'.not (by simp[a]) ?_;simp[aR,a,b3,bZ, cU,H,-cm];simp;exact⟨r.trans t,by rw[i,h2];rfl⟩
     | true=>
       simp[a,  x, -cm];refine cY t.h (aq:=[ak (fR c)]) (by simp[a]) rfl (λcu g=>vX b g aj) ?_;rintro a d l O;have e:=l.h;have O:iX d a (fR c):=O;have ae:=(ab.up t).up l;have P:=l.res m;rw[<-y]at P;simp[-cm];refine fG e (aq:=[a,u]) (by simp[P]) rfl (λcu g=>g' g (k7 b.toEL g O.of ae.of (xu _) (xu _))) ?_;rintro _ _-⟨rfl,rfl⟩;simp[P,b3,bZ,fT,cU,l0,H,-cm];simp;exact⟨r.trans (K.trans t l),by rw[i,h2];simp[kb,<-QW]⟩
  cases Q:k.isSome with
  | false=>
    simp[aR,-ui,-uh,-ny,-cm];refine al.not ?_;simp[aR,-ui,-uh,-ny,-cm];refine al.not ?_;simp[aR,-ny,-cm];refine an _ _ (K.refl M) ?_ ?_ ?_ (by rw[i,Q];simp)
    all_goals simp
  | true=>
    simp[-ui,-uh,-ny,-cm];refine al.of (aq:=[ak (fR k)]) (vX b M ai) ?_;rintro u s ⟨j,a⟩;have c:=j.h;have a:iX s u (fR k):=a;simp[-ui,-uh,-ny,-cm];refine al.of (aq:=[u]) (hA b.toEL c a.of (xu _)) ?_;rintro _ _ ⟨rfl,rfl⟩;by_cases a:0<rd (fR k)
    ·simp[tC,a,-ny];exact⟨ag.trans j,by rw[i,Q];simp[a]⟩
    ·simp[tC,a,-ny,-cm];exact an _ _ j σ' σ' σ' (by rw[i,Q];simp[a])
end Go.Dam.C
namespace Go.Dam.C
open Go Go.Dam
variable{X:aA}{pm cu:Perm}{H ab bX ai:ae}{n:Nat}
structure A3(H:ae)(jb cF:Nat)(cL dF bt WJ:Value)(all:Bool)(n:Nat)(s:List Bool):Prop where
 b:H.get jb=some (.cells [cL,dF,bt,WJ,.bool all,.slice (some ⟨cF,0,none⟩) n n] (.t T.Bs))
 q:H.get cF=some (.cells (s.map Value.bool) (.n 1))
 l:s.length=n
def j6(H:ae)(b:List cz)(i:Nat)(cs:List Value):Prop:=∃x a,b[i]? = some x/\cs=x.cells a/\fp H a x.d
structure vI(l:ar)(tree:List cz)(I:Nat->List a1->Prop):Prop where
 Ak:∀k cs,I k cs->c5 ⟨cs,l.rows⟩
 ag:∀k cs x,I k cs->tree[k]? = some x->x.ad<0->jO x.d/\∀bQ,(fR (eX ⟨cs,l.rows⟩ x.d bQ)).length<1000000
 aH:∀k cs x,I k cs->tree[k]? = some x->0<=x.ad->isNum x.at'=true->(rd x.at').den=1->x.ad<(cs.length:Int)->(cs.getD x.ad.toNat bY).int=true->bo (rd x.at'+1)=true/\I x.l.toNat (f' cs x.ad.toNat (rd x.at'))/\I x.r.toNat (gG cs x.ad.toNat (rd x.at'+1))
 at':∀k cs x,I k cs->tree[k]? = some x->0<=x.ad->x.at'.length<=10000
theorem Jv{s:List Bool}{k:Nat}(h:k<s.length):setCells (s.map Value.bool) k [.bool true]=some ((s.set k true).map Value.bool):=by
 simp_all
theorem iX.ll{p:Nat}{v:Value}{l:List UInt8}(h:iX H v l)(k:e2 pm p H ab):iX ab v l:=h.imp (λ⟨a,b,e,q⟩=>⟨a,b,e,k.cf _ _ q⟩) id
theorem e2.RZ{p:Nat}(k:e2 pm p H ab)(a:cu.num=none)(b:cu.ah<=ab.next):e2 cu p H ab:=⟨k.h.perm a b,k.next,k.get,k.cf⟩
theorem e2.cF{p:Nat}{cs:List Value}{z:cM}(k:e2 pm p H ab)(a':ab.get p=Option.some (.cells cs z))(x:bz):e2 pm p H (ab.put p x):=k.trans (e2.put k.h a' x)
theorem hh.ll{p k w:Nat}{v:Value}{P a:Nat->List Value->Prop}(h:hh H (λb=>b≠p) v k w P)(c:e2 pm p H ab)(g:bl cu H)(d:∀i cs,i<k->P i cs->a i cs):hh ab (λb=>b≠p) v k w a:=
 h.imp (λb _ a e=>⟨a,(c.get b (g.lt e) a).trans e⟩) d
theorem Y5(E:ov X){l:ar}{a:List cz}{fl:List UInt8}{all:Bool}{I:Nat->List a1->Prop}(W:vI l a I)(_:a.length<=601){ai:ae}{cL G fv:Value}{ta:Option Addr}{tc:Nat}(hr:jn ai G l.rows)(bE:dE ai (.slice ta a.length tc) a.length 5 (j6 ai a)){jb cF:Nat}(aw:∀b y,ai.get b=some y->b≠cF)(ax:jb≠cF):
 ∀(m k:Nat) (pm:Perm) (H:ae) (cs:List a1) (cv:Value) (s:List Bool),a.length-k<=m->k<a.length->bl pm H->pm.ah<=cF->Ext ai H->A3 H jb cF cL G (.slice ta a.length tc) fv all a.length s->iX H fv fl->hh H (λb=>b≠cF) cv cs.length 5 (gA cs)->I k cs->
  Call X pm F.oA [.pointer (some ⟨jb,0,none⟩),.int .i64 (k:Int),cv] H λr ab=>∃b c,h6 l.rows a (rd fl) all k cs s b c/\r=.bool b/\e2 pm cF H ab/\ab.get cF=some (.cells (c.map Value.bool) (.n 1))/\c.length=a.length:=by
 intro m
 induction m with
 | zero=>grind
 | succ m ih=>
 intro k pm H cs cv s _ hk t aE aG bF hf hv Z;refine Call.W E.oA rfl λaX hQ=>?_;let⟨u,hs,aa⟩:=id bF;have bF:=t.lt u;have bF:=t.lt hs;have aY:pm.may cF=true:=ej aE;let⟨cb,J,e⟩:=hv.form;subst e;have bG:k<s.length:=ω
 obtain⟨A1,aH⟩:=ε (H.put cF (.cells ((s.map Value.bool).set k (.bool true)) (.n 1)));have ag:e2 pm cF H A1:=by rw[aH];exact e2.put t hs _
 have ad:=ag.h;have bH:A1.get cF=some (.cells ((s.set k true).map Value.bool) (.n 1)):=by rw[aH,List.map_set];exact bO
 have aZ:=ag.some t ax u;let⟨_,_,e,bI⟩:=bE.ex;cases e;obtain⟨b,aI,y,bJ,_,rfl,a6,e3,e4,x,_,bK,rfl,e6⟩:=bI k hk;have bL:=ag.some t (aw _ _ a6) (aG _ _ a6);let⟨db,dc,bM,_⟩:=e6.ex;subst bM;obtain⟨q,hq⟩:=ε A1.next;obtain⟨A2,aJ⟩:=ε ((A1.new (.cells [.int .i64 0,.string ⟨#[]⟩,.int .i64 0,.int .i64 0,.slice none 0 0] (.t T.FO))).put q (.cells [.int .i64 x.ad,ak x.at',.int .i64 x.l,.int .i64 x.r,.slice db x.d.length dc] (.t T.FO)));have k2:K pm A1 A2:=by rw[aJ,hq];exact gh ad _ _
 have N:=k2.h;have ay:A2.get q=some (.cells [.I x.ad,ak x.at',.I x.l,.I x.r,.slice db x.d.length dc] (.t T.FO)):=by rw[aJ];exact bO
 have a6:∀x,(A1.new x).get q=some x:=λx=>by rw[hq];simp
 have bE:pm.may q=true:=ad.may ω;have bF:bB bJ (aI+k*5) 5=some [.I x.ad,ak x.at',.I x.l,.I x.r,.slice db x.d.length dc]:=e4;have ah:e2 pm cF H A2:=ag.trans (K.ll k2);have a7:=k2.some ad bH;have a_:=k2.some ad aZ;have bH:=hf.ll ah;have ba:=hv.ll ah t λ_ _ _ h=>h;have x2:Ext ai A2:=λb y h=>ah.some t (aw _ _ h) (aG _ _ h);have bb:q≠cF:=by have:=ag.next;omega
 simp[u,hk,hs,Jv bG,aY,<-aH,-FU];simp[hk,aZ,bL,e3,bF,ad.pick,ad.make,ptr,bA,<-hq,a6,bE,setCells,<-aJ,ay,-FT,-BA];have O:=bK;by_cases hc:x.ad<0
 ·let⟨c,d⟩:=W.ag k cs x Z O hc;simp[hc,ay,-BA];refine al.of (aq:=[.P jb,.slice cb cs.length J,.slice db x.d.length dc]) (abb E N a_ (hr.ext x2) bH ba.e (e6.ext x2) c (W.Ak k cs Z) d) ?_;rintro _ _ ⟨b,rfl⟩;simp;exact hQ _ _ _ ⟨.inr rfl,[.bool (k1 l.rows (rd fl) all cs x.d)],σ',_,_,.leaf k cs s x O hc,rfl,ah.trans (K.ll b),b.some N a7,by simp[aa]⟩
 ·have aj:0<=x.ad:=ω
  have ad:=W.at' k cs x Z O aj;simp[hc,ay,-FV,-FR];refine al.of (aq:=[ak x.at']) (qS E.toEL N ω) ?_;rintro r an ⟨k3,h3⟩;have A:=k3.h;have ao:=ah.trans (K.ll k3);have af:=k3.some N a7;have bN:=k3.some N a_;have az:=k3.some N ay;have ar:∀(d:bn) (ab:ae) (v:List Bool),aF 6 d=some (.bool false)->e2 pm cF H ab->ab.get cF=some (.cells (v.map Value.bool) (.n 1))->v.length=a.length->¬sv a k cs (s.set k true) x->aX .ret d ab:=λd ab v P w ad ag aK=>hQ _ _ _ (by simp[P];exact⟨v,.bad k cs s v x O aj aK,w,ad,ag⟩)
  rcases h3 with⟨e,rfl⟩ | ⟨u3,p,e,rfl,gP⟩
  ·have b:isNum x.at'=false:=by simp[isNum,e]
   simp[-BB,-Bz,-sO];refine al.not ?_;simp[aR,-sO];refine ar _ _ (s.set k true) σ' ao af (by simp[aa]) λh=>?_;have:=h.n;grind
  ·have hn:isNum x.at'=true:=by simp[isNum,e]
   have F:rd x.at'=u3:=by simp[rd,e]
   have aL:bo u3=true:=by rw[<-F];exact xu _
   obtain⟨o,rfl,a1⟩:=id gP;simp[-BB,-Bz,-sO];refine al.of (aq:=[.P o]) (EX E.toEL A gP.of aL) ?_;rintro _ an ⟨rfl,rfl⟩;by_cases Q:u3.den=1
   ·by_cases aA:x.ad<(cs.length:Int)
    ·obtain⟨i,aM⟩:∃i:Nat,x.ad=(i:Int):=⟨x.ad.toNat,ω⟩;have R:i<cs.length:=ω
     have ak:x.ad.toNat=i:=ω
     have bd:=ba.imp (ab:=an) (iS:=λb=>b≠cF) (λb y u e=>⟨u,k3.some N e⟩) λ_ _ _ h=>h;let⟨_,_,e',_,bP⟩:=id bd;cases e';have N:cb≠none:=λe=>π
     let⟨_,bQ⟩:=Option.ne_none_iff_exists'.1 N;subst bQ;obtain⟨S,H,_,bR,rfl,_,f2,f3,_,f4⟩:=bP _ rfl;obtain⟨_,f5,_,f6,rfl⟩:=f4 i R;rw[getD_at R]at f6;cases f6;have aB:bR[H+i*5+4]? = some (.bool (cs.getD i bY).int):=by
      have:=congrArg (λl=>l[4]?) (sX f5).2;simp[jY (δ:4<5)]at this;exact this.symm
     cases aC:(cs.getD i bY).int with
     | false=>
       rw[aC]at aB;simp[Q,az,aM,R,f2,f3,aB,-sO];refine ar _ _ (s.set k true) σ' ao af (by simp[aa]) λh=>?_;have:=h.i;grind
     | true=>
       rw[aC]at aB;obtain⟨p6,bf⟩:=ε an.next;obtain⟨T,aN⟩:=ε (an.new (.cells [.int .i64 x.l,.int .i64 x.r] (.n 1)));have I:K pm an T:=by rw[aN];exact K.new A _
       have g4:=I.h;have bS:T.get p6=some (.cells [.I x.l,.I x.r] (.n 1)):=by rw[aN,bf];exact cc
       have aO:=I.some A af;have bg:=I.some A bN;have bT:=I.some A az;have bU:p6≠cF:=by have:=A.lt af;omega
       have bh:=ao.trans (K.ll I);simp[Q,az,aM,R,f2,f3,aB,A.pick,A.make,<-bf,<-aN,-FP,-FQ];obtain⟨r,al⟩:=ε (s.set k true);have aP:r.length=a.length:=by rw[al];simp[aa]
       have aO:T.get cF=some (.cells (r.map Value.bool) (.n 1)):=by rw[al];exact aO
       have bj:∀(z:Int) (p:List Bool) (c:ae) (tl:Int) (pt:Nat) (N:cl),e2 pm cF T c->c.get cF=some (.cells (p.map Value.bool) (.n 1))->p.length=a.length->
        (¬((k:Int)<z/\z<(a.length:Int)/\p.getD z.toNat false=false)->∀d,aF 6 d=some (.bool false)->N .ret d c)->
        ((k:Int)<z->z<(a.length:Int)->p.getD z.toNat false=false->∀d f,Sub [(68,.I tl),(67,.I 2),(0,.P jb),(1,.I (k:Int)),(2,.slice (some ⟨S,H,none⟩) cs.length J),(7,.P q),(8,.P o),(66,.S p6 2 2)] d->e2 pm cF T f->f.get cF=some (.cells ((p.set z.toNat true).map Value.bool) (.n 1))->N .normal d f)->
        wp X pm (.code C.yE) [(11,.I z),(71,.I z),(70,.pointer (some ⟨p6,pt,none⟩)),(69,.bool true),(68,.I tl),(67,.I 2),(0,.P jb),(1,.I (k:Int)),(2,.slice (some ⟨S,H,none⟩) cs.length J),(7,.P q),(8,.P o),(66,.S p6 2 2)] c [] N:=by
        intro z p c tl pt N w B _ l D;have m:=w.some g4 ax bg;by_cases b:(k:Int)<z
        ·by_cases k:z<(a.length:Int)
         ·obtain⟨j,rfl⟩:∃j:Nat,z=(j:Int):=⟨z.toNat,ω⟩;have C:j<a.length:=ω
          have n:j<p.length:=ω
          have K:((j:Int)).toNat=j:=ω
          rw[K]at l D;have L:p.getD j false=p[j]:=by rw[e5,en n];rfl
          cases s:p[j]with
          | true=>
            simp[b,k,m,B,C,n,s,aR];refine l (λh=>?_) _ σ';grind
          | false=>
            obtain⟨f,y⟩:=ε (c.put cF (.cells ((p.map Value.bool).set j (.bool true)) (.n 1)));simp[b,k,m,B,C,n,s,aR,Jv n,aY,<-y];refine D b k (by rw[L,s]) _ f σ' (by rw[y];exact w.cF B _) ?_;rw[y,List.map_set];exact bO
         ·simp[b,k,m,aR];exact l (λh=>k h.2.1) _ σ'
        ·simp[b,m,aR];exact l (λh=>b h.1) _ σ'
       obtain⟨U,B⟩:=ε (r.set x.l.toNat true);obtain⟨s2,aQ⟩:=ε (U.set x.r.toNat true);have aS:U.length=a.length:=by rw[B];simp[aP]
       have bV:s2.length=a.length:=by rw[aQ];simp[aS]
       have bk:∀(d:bn) (ab:ae) (v:List Bool),aF 6 d=some (.bool false)->e2 pm cF T ab->ab.get cF=some (.cells (v.map Value.bool) (.n 1))->v.length=a.length->¬sv a k cs r x->aX .ret d ab:=λd ab v P w g h2 h3=>ar d ab v P (bh.trans w) g h2 (by rw[<-al];exact h3)
       refine er (σ:=Unit) 2 (λ_ _=>[(0,.P jb),(1,.I (k:Int)),(2,.slice (some ⟨S,H,none⟩) cs.length J),(7,.P q),(8,.P o),(66,.S p6 2 2)])
        (λb _ ab=>e2 pm cF T ab/\ab.get cF=some (.cells ((if b=0 then r else if b=1 then U else s2).map Value.bool) (.n 1))/\(1<=b->(k:Int)<x.l/\x.l<(a.length:Int)/\r.getD x.l.toNat false=false)/\(2<=b->(k:Int)<x.r/\x.r<(a.length:Int)/\U.getD x.r.toNat false=false)) ()
        ⟨(K.refl g4).ll,φ aO,λh=>ω,λh=>ω⟩ ?_ ?_
       ·rintro f _ c _ ⟨b,g,h2,h3⟩;have j:=b.some g4 bU bS;rcases(ω:f=0∨f=1) with rfl | rfl
        ·simp at g;simp[j,-yE];refine bj x.l r c 0 0 _ b g aP (λh d P=>?_) (λcL G f d _ k w l=>?_)
         ·simp;exact bk d c r P b g aP λq=>h ⟨q.XI,q.XM,q.Ya⟩
         ·simp;exact⟨φ k,w,by rw[B];exact l,cL,G,f⟩
        ·have g:c.get cF=some (.cells (U.map Value.bool) (.n 1)):=φ g
         simp[j,-yE];refine bj x.r U c 1 1 _ b g aS (λh d P=>?_) (λcL G f d _ j w k=>?_)
         ·simp;exact bk d c U P b g aS λq=>h ⟨q.l7,q.l8,by rw[B];exact q.aap⟩
         ·simp;exact⟨φ j,w,by rw[aQ];exact k,h2 (bc _),cL,G,f⟩
       ·rintro _ c ⟨V,g,h2,h3⟩;have g:c.get cF=some (.cells (s2.map Value.bool) (.n 1)):=φ g
        let⟨d,p,v⟩:=h2 δ;let⟨w,M,N⟩:=h3 δ;have f:=V.h;have aK:sv a k cs r x:=⟨hn,by rw[F];exact Q,aA,by rw[ak];exact aC,d,p,v,w,M,by rw[<-B];exact N⟩;let⟨bc,I1,I2⟩:=W.aH k cs x Z O aj hn (by rw[F];exact Q) aA (by rw[ak];exact aC);rw[ak,F]at I1 I2;obtain⟨jl,aF⟩:∃j:Nat,x.l=(j:Int):=⟨x.l.toNat,ω⟩;obtain⟨jr,aT⟩:∃j:Nat,x.r=(j:Int):=⟨x.r.toNat,ω⟩;rw[aF]at I1;rw[aT]at I2;have bl:((jl:Int)).toNat=jl:=ω
        have bm:((jr:Int)).toNat=jr:=ω
        rw[bl]at I1;rw[bm]at I2;have aD:=bh.trans V;have bn:=V.some g4 ax bg;have ae:=V.some g4 bb bT;rw[aF,aT,aM]at ae;have bp:b4 c (.P o) u3:=⟨o,rfl,V.cf _ _ (I.cf _ _ a1)⟩;have bq:=bd.imp (ab:=c) (iS:=λb=>b≠cF) (λb y u e=>⟨u,V.some g4 u (I.some A e)⟩) λ_ _ _ h=>h;have d:=f.lt ae;have d:=f.lt g;have d:cs.length<=6:=(W.Ak k cs Z).n;let⟨bO,bW,_⟩:=(W.Ak k cs Z).c _ (cX (getD_at R));obtain⟨z,hz⟩:=ε c.next;have kU:K pm c (c.up 23):=(K.refl f).up 23;have bs:=λj=>(by rw[hz];exact f.none j:(c.up 23).get (z+j)=none);have bX:=(by rw[hz];exact f.O:(c.up 23).get z=none);simp;refine cx.of f.ah rfl ?_;rw[<-hz];simp[b8,bs,bX,ae];refine cY kU.h (aq:=[.slice (some ⟨S,H,none⟩) cs.length J,.I (i:Int),.P o]) (by simp[bs]) rfl (λcu X=>Vi E X ((bq.e).imp (kU.ext f) λ_ _ _ h=>h) (bp.up kU) aL R ω (a8 bW δ)) ?_;rintro r5 H5 k5 h5;have g5:=k5.h;have aU:=k5.res f;rw[<-hz]at aU;have d:(c.up 23).next=z+23:=by rw[hz];rfl
        have au:K pm c H5:=K.trans kU k5;have bY:A3 H5 jb cF cL G (.slice (some ⟨b,aI,none⟩) a.length tc) fv all a.length s2:=⟨au.some f bn,au.some f g,bV⟩;have x1:Ext ai c:=λb y h=>aD.some t (aw _ _ h) (aG _ _ h);have bt:=hf.ll aD;simp;refine d'.fixed (aq:=[.P jb,.I (jl:Int),r5]) (by simp[aU]) σ' σ' rfl (ih jl ⟨pm.ah,pm.ok,none⟩ H5 (f' cs i u3) r5 s2 ω ω (g5.perm rfl g5.ah) aE (λb y h=>au.some f (x1 b y h)) bY (bt.up au) (h5.p.imp (λb y u e=>⟨ω,e⟩) λ_ _ _ h=>h) I1) ?_;rintro _ H6 ⟨bu,L,N1,rfl,d,bw,aV⟩;have d:=d.RZ (cu:=pm) t.num (by have:=d.next;have:=g5.ah;omega);have g6:=d.h;have g:=d.next;have g:=k5.next;have C:∀j,j<23->H6.get (z+j)=none:=λj D=>(d.get _ ω ω).trans (aU j D);have av:e2 pm cF c H6:=(K.ll au).trans d;have bx:=av.some f bb ae;have bz:q<z:=ω
        have dq:∀m,c6 (dj m [.slice (some ⟨S,H,none⟩) cs.length J,.I (i:Int),.P o]) [q]=true:=λm=>yX λaW Y=>by
         have Y:aW=⟨o,0,none⟩:=φ Y
         subst Y;exact bp.ne ae _ rfl
        have E1:h6 l.rows a (rd fl) all x.l.toNat (f' cs x.ad.toNat (rd x.at')) (((s.set k true).set x.l.toNat true).set x.r.toNat true) bu L:=by
         rw[ak,F,<-al,<-B,<-aQ,aF,bl];exact N1
        have BP:sv a k cs (s.set k true) x:=by rw[<-al];exact aK
        cases bu with
        | false=>
          simp[C,aR];refine d'.not (by simp[C]) ?_;simp[aR];refine d'.not (by simp[C]) ?_;simp[aR];refine d'.not (by simp[C]) ?_;simp[aR];refine d'.not (by simp[C]) ?_;simp[C,aR,b3,bZ, cU,dq,bz];exact hQ _ _ _ ⟨.inr rfl,[.bool false],σ',false,L,.left k cs s L x O aj BP E1,rfl,aD.trans av,bw,aV⟩
        | true=>
          have bA:b4 H6 (.P o) u3:=⟨o,rfl,av.cf _ _ (V.cf _ _ (I.cf _ _ a1))⟩;have b0:bo (1:Rat)=true:=by decide +kernel
          simp[C, bx];refine cY g6 (aq:=[.I 1]) (by simp[C]) rfl (λcu X=>ml E.toEL X (n:=1) δ δ) ?_;rintro on d W ai;have g7:=W.h;have g:((1:Int):Rat)=1:=rfl;rw[g]at ai;have r7:∀j,j<23->d.get (z+j)=none:=λj D=>(W.get _ ω).trans (C j D);simp;refine cY g7 (aq:=[.P o,on]) (by simp[r7]) rfl (λcu X=>n8 E.toEL X (bA.up W).of ai.of aL b0) ?_;rintro aR d k8 bB;have g:=k8.h;have p:=W.next;have p:=k8.next;have r8:∀j,j<23->d.get (z+j)=none:=λj D=>(k8.get _ ω).trans (r7 j D);have bC:K pm H6 d:=K.trans W k8;have p:e2 pm cF c d:=av.trans (K.ll bC);have b1:=bq.ll p f λ_ _ _ h=>h;rw[F]at bc;simp;refine cY g (aq:=[.slice (some ⟨S,H,none⟩) cs.length J,.I (i:Int),aR]) (by simp[r8]) rfl (λcu X=>UP E X b1.e bB bc R ω (a8 bO δ)) ?_;rintro r9 H9 d h9;have g9:=d.h;have g:=d.next;have bD:∀j,j<23->H9.get (z+j)=none:=λj D=>(d.get _ ω).trans (r8 j D);have g:K pm H6 H9:=K.trans bC d;have ab:e2 pm cF c H9:=av.trans (K.ll g);have b2:A3 H9 jb cF cL G (.slice (some ⟨b,aI,none⟩) a.length tc) fv all a.length L:=⟨ab.some f ax bn,g.some g6 bw,aV⟩;have d:L.length=a.length:=aV;simp;refine d'.fixed (aq:=[.P jb,.I (jr:Int),r9]) (by simp[bD]) σ' σ' rfl (ih jr ⟨pm.ah,pm.ok,none⟩ H9 (gG cs i (u3+1)) r9 L ω ω (g9.perm rfl g9.ah) aE (λb y h=>ab.some f (aw _ _ h) (x1 b y h)) b2 (bt.ll ab) (h9.p.imp (λb y u e=>⟨ω,e⟩) λ_ _ _ h=>h) I2) ?_;rintro _ HA ⟨br,s4,N2,rfl,d,b5,b6⟩;have d:=d.RZ (cu:=pm) t.num (by have:=d.next;have:=g9.ah;omega);have rA:∀j,j<23->HA.get (z+j)=none:=λj D=>(d.get _ ω ω).trans (bD j D);have b7:e2 pm cF c HA:=ab.trans d;have c:=W.some g6 bx;have d:=k8.some g7 c;have d2:∀m,c6 (dj m [.P o,on]) [q]=true:=λm=>kI (bA.up W) ai c m;have d3:∀m,c6 (dj m [.slice (some ⟨S,H,none⟩) cs.length J,.I (i:Int),aR]) [q]=true:=λm=>yX λaW Y=>by
           have Y:.pointer (some aW)=aR:=φ Y
           exact bB.ne d _ Y.symm
          have E2:h6 l.rows a (rd fl) all x.r.toNat (gG cs x.ad.toNat (rd x.at'+1)) L br s4:=by
           rw[ak,F,aT,bm];exact N2
          have d0:∀m,c6 (dj m [.I 1]) [q]=true:=λ_=>rfl;simp[rA,b3,bZ, cU,d0,dq,d2,d3,bz];exact hQ _ _ _ ⟨.inr rfl,[.bool br],σ',br,s4,.both k cs s L s4 br x O aj BP E1 E2,rfl,aD.trans b7,b5,b6⟩
    ·simp[Q,aA,az,aR,-sO];refine ar _ _ (s.set k true) σ' ao af (by simp[aa]) λh=>aA h.c
   ·simp[Q,aR,-sO];refine ar _ _ (s.set k true) σ' ao af (by simp[aa]) λh=>Q (by rw[<-F];exact h.w)
end Go.Dam.C
namespace Go.Dam.C
open Go Go.Dam
variable{X:aA}{pm cu:Perm}{H ab bX ai:ae}{n:Nat}
theorem abZ(n:Nat):times [Value.bool false] n=(List.replicate n false).map Value.bool:=by
 induction n with
 | zero=>rfl
 | succ n ih=>rw[times,ih,List.replicate_succ];rfl
theorem T1(x:ov X)(g:bl pm H){l:ar}{v Q:Value}{a:List cz}{d:List UInt8}{all:Bool}{I:Nat->List a1->Prop}(W:vI l a I)(hI:0<a.length->I 0 l.a)(R:gD H 0 v l)(sh:c5 l)(S:dE H Q a.length 5 (j6 H a))(hn:a.length<=1000000)(ag:d.length<1000000):
 Call X pm F.oz [v,Q,ak d,.bool all] H λr ab=>K pm H ab/\∃b,j5 l a d all b/\r=.bool b:=by
 refine Call.W x.oz rfl λU hQ=>?_;obtain⟨_,_,rfl,V,Y⟩:=id R;let⟨k,m,e1,_⟩:=id V;let⟨s,t,e2,_⟩:=id Y;subst e1 e2;obtain⟨y,B,rfl,_⟩:=S.ex;obtain⟨D,Z⟩:=ε H.next;obtain⟨H1,L⟩:=ε (H.new (.cells [.slice k l.a.length m,.slice s l.rows.length t] (.t T.NS)));have Q:K pm H H1:=by rw[L];exact K.new g _
 have g1:=Q.h;have ai:H1.get D=some (.cells [.slice k l.a.length m,.slice s l.rows.length t] (.t T.NS)):=by rw[L,Z];exact cc
 simp[g.pick,g.make,ptr,<-Z,<-L,-FF,-FC];refine al.of (aq:=[ak d]) (qS x.toEL g1 ag) ?_;rintro r H2 ⟨L,aj⟩;have g2:=L.h;have aa:=Q.trans L;have ad:=L.some g1 ai;obtain⟨i,rfl,an⟩:∃i,r=.tuple #[i,.bool (isNum d)]/\iX H2 i d:=by
  rcases aj with⟨e,rfl⟩ | ⟨q,p,e,rfl,fw⟩
  ·exact⟨.pointer none,by simp[isNum,e],.inr ⟨by simp[isNum,e],rfl⟩⟩
  ·exact⟨p,by simp[isNum,e],.inl ⟨by simp[isNum,e],by simp[rd,e];exact fw⟩⟩
 have u:∀L ab b,K pm H ab->j5 l a d all b->aF 8 L=some (.bool b)->U .ret L ab:=λL ab b ao hc l8=>hQ _ _ _ ⟨.inr rfl,[.bool b],by simp[l8],ao,b,hc,rfl⟩;have E:¬(l.I=true/\0<a.length/\a.length<=601/\(isNum d=true∨all=true))->j5 l a d all false:=λh=>by unfold j5;rw[aw h]
 simp[ad,bB,bA,-FE,-FB,-pN];refine al.of (aq:=[.agg #[.slice k l.a.length m,.slice s l.rows.length t]]) (qV x.tofA g2 (R.aa.ext (aa.ext g)) sh.ok) ?_;rintro _ f ⟨G,rfl⟩;have n:=G.h;have w:=aa.trans G;have I:=G.some g2 ad;have M:iX f i d:=an.up G
 cases hm:l.I with
 | false=>
   simp[aR,-pN];exact u _ _ false w (E λh=>by rw[hm]at h;cases h.1) σ'
 | true=>
   by_cases p:a.length=0
   ·simp[p,aR,-pN];exact u _ _ false w (E λh=>absurd h.2.1 ω) σ'
   ·by_cases G:601<a.length
    ·have b:(601:Int)<(a.length:Int):=ω
     simp[wD,p,b,aR,-pN];exact u _ _ false w (E λh=>absurd h.2.2.1 ω) σ'
    ·have N:¬(601:Int)<(a.length:Int):=ω
     have O:(isNum d=true∨all=true)->∀L,aF 1 L=some (.slice y a.length B)->aF 3 L=some (.bool all)->aF 4 L=some (.P D)->aF 9 L=some i->wp X pm (.code C.pN) L f [] U:=λak L L1 L3 L4 L9=>by
      simp[   -Bt];refine cx.of n.ah rfl ?_;obtain⟨z,v⟩:=ε f.next;have kU:K pm f (f.up 10):=(K.refl n).up 10;have P:=λj=>(by rw[v];exact n.none j:(f.up 10).get (z+j)=none);have ar:=(by rw[v];exact n.O:(f.up 10).get z=none);obtain⟨F,q⟩:=ε ((f.up 10).put (z+6) (.cells (List.replicate a.length (.bool false)) (.n 1)));have au:K pm f F:=by rw[q];exact aC.fill kU ω (P 6) (by show z+6<f.next+10;omega) _
      have mk:=Qz (H:=f.up 10) (z:=[.bool false]) (bytes:=1) (l:=a.length) (c:=a.length) (ah:=pm.ah) (b:=z+6) (fJ:=pm.ok) (bc _) ω ω;rw[abZ,List.map_replicate]at mk;have av:i.cells=#[i]:=by rcases M.form with⟨b,rfl⟩ | rfl<;>rfl
      have G:dd i=true:=by rcases M.form with⟨b,rfl⟩ | rfl<;>rfl
      obtain⟨o,r⟩:=ε (F.put (z+8) (.cells [.slice k l.a.length m,.slice s l.rows.length t,.slice y a.length B,i,.bool all,.slice (some ⟨z+6,0,none⟩) a.length a.length] (.t T.Bs)));have G:∀j,j≠6->F.get (z+j)=none:=λj L=>by rw[q,a6 ω];exact P j
      have Q:F.get (z+6)=some (.cells (List.replicate a.length (.bool false)) (.n 1)):=by rw[q];exact bO
      have A:K pm f o:=by rw[r];exact aC.fill au ω (G 8 δ) (by rw[q];show z+8<f.next+10;omega) _
      have f:∀j,j≠6->j≠8->o.get (z+j)=none:=λj L _=>by rw[r,a6 ω];exact G j L
      have j:o.get (z+6)=some (.cells (List.replicate a.length (.bool false)) (.n 1)):=by rw[r,a6 ω];exact Q
      have X:o.get (z+8)=some (.cells [.slice k l.a.length m,.slice s l.rows.length t,.slice y a.length B,i,.bool all,.S (z+6) a.length a.length] (.t T.Bs)):=by rw[r];exact bO
      have F:c6 [z+6] [D]=true:=gd (by have:=n.lt I;omega);have L:D<z:=by rw[v];exact n.lt I
      rw[<-v];simp[b8,P,ar,L1,L3,L4,L9,I,bB,bA,mk,av,<-q,G,setCells,Perm.make,Perm.pick,ptr,<-r,f,b3,bZ, cU,F,L,-Bt];have ab:=A.h;have J:K pm H o:=K.trans w A;have f:=K.next w;have f:=A.some n I;have q:=hI ω;have r:A3 o (z+8) (z+6) (.slice k l.a.length m) (.slice s l.rows.length t) (.slice y a.length B) i all a.length (List.replicate a.length false):=⟨X,by rw[List.map_replicate];exact j,σ'⟩;have i:=Y5 x W ω (jb:=z+8) (cF:=z+6) (cL:=.slice k l.a.length m) (all:=all) Y.rows S (λb y h=>by have:=g.lt h;omega) ω a.length 0 pm o l.a (.slice k l.a.length m) _ (Nat.sub_le _ _) ω ab (by have:=n.ah;omega) (J.ext g) r (M.up A) (V.p.imp (λb y _ e=>⟨by have:=g.lt e;omega,J.some g e⟩) λ_ _ _ h=>h) q;simp[L4,f,-FD];refine al.of (aq:=[.P (z+8),.I 0,.slice k l.a.length m]) i ?_;rintro _ HB ⟨b,s',hN,rfl,f,aw,ax⟩;have gB:=f.h;have ae:K pm H HB:=aC.trans J (f.up ω (by have:=K.next J;omega));have ay:=f.some ab ω X;have C:j5 l a d all (b&&!s'.contains false):=by
       unfold j5;rw[aL ⟨hm,ω,ω,ak⟩];exact⟨b,s',hN,rfl⟩
      cases b with
      | false=>
        simp[aR,-Bu];refine al.not ?_;simp[aR];exact u _ _ false ae C σ'
      | true=>
        have b:=Uu x gB aw ω;rw[ax]at b;simp[ay,-Bu];refine al.of (aq:=[.S (z+6) a.length a.length,.bool false]) b ?_;rintro _ _ ⟨rfl,rfl⟩;simp;exact u _ _ _ ae C σ'
     cases af:isNum d with
     | true=>
       simp[wD,p,N,aR,-pN];exact O (.inl af) _ σ' σ' σ' σ'
     | false=>
       cases b:all with
       | true=>
         simp[wD,p,N, -pN];rw[b]at O;exact O (.inr rfl) _ σ' σ' σ' σ'
       | false=>
         simp[wD,p,N, -pN];exact u _ _ false w (E λh=>by rcases h.2.2.2 with e | e;(rw[af]at e;cases e);(rw[b]at e;cases e)) σ'
end Go.Dam.C
namespace Go.Dam.C
open Go Go.Dam
variable{X:aA}{pm cu:Perm}{H ab bX ai:ae}{n:Nat}
theorem EJ(y:ov X)(g:bl pm H){l:ar}{v w tv:Value}{a:cW}{c:List cz}{I:Nat->List a1->Prop}(W:vI l c I)(hI:0<c.length->I 0 l.a)(R:gD H 0 v l)(Z:c5 l)(hw:qU H w a)(u:a.ok)(av:a.val.length<1000000)(ai:dE H tv c.length 5 (j6 H c))(hn:c.length<=1000000):
 Call X pm F.oy [v,w,tv] H λr ab=>K pm H ab/\∃b,iU l a c b/\r=.bool b:=by
 refine Call.W y.oy rfl λax hQ=>?_;obtain⟨_,_,rfl,h1,h2⟩:=id R;let⟨i,j,n,_⟩:=id h1;let⟨k,m,p,_⟩:=id h2;subst n p;obtain⟨_,_,_,rfl,hx,ay,af⟩:=id hw;let⟨z,A,n,_⟩:=hx.ex;let⟨db,dc,p,_⟩:=ay.ex;let⟨N,O,D,az⟩:=af.ex;subst n p D;obtain⟨S,U,rfl,_⟩:=ai.ex;obtain⟨p3,aj⟩:=ε H.next;obtain⟨P,aa⟩:=ε (H.new (.cells [.slice i l.a.length j,.slice k l.rows.length m] (.t T.Fp)));have k1:K pm H P:=by rw[aa];exact K.new g _
 have g1:=k1.h;have aA:P.get p3=some (.cells [.slice i l.a.length j,.slice k l.rows.length m] (.t T.Fp)):=by rw[aa,aj];exact cc
 obtain⟨p4,an⟩:=ε P.next;obtain⟨I,ad⟩:=ε (P.new (.cells [.int .i64 a.st,ak a.val,.slice z a.x.length A,.slice db a.d.length dc,.slice N a.r.length O] (.t T.Fq)));have k2:K pm P I:=by rw[ad];exact K.new g1 _
 have g2:=k2.h;have P:I.get p4=some (.cells [.I a.st,ak a.val,.slice z a.x.length A,.slice db a.d.length dc,.slice N a.r.length O] (.t T.Fq)):=by rw[ad,an];exact cc
 have ao:=k2.some g1 aA;have x:=K.trans k1 k2;have E:=Z.ok;have B:∀{ab:ae},K pm I ab->ab.get p3=some (.cells [.slice i l.a.length j,.slice k l.rows.length m] (.t T.Fp))/\ab.get p4=some (.cells [.I a.st,ak a.val,.slice z a.x.length A,.slice db a.d.length dc,.slice N a.r.length O] (.t T.Fq))/\kA ab (.agg #[.slice i l.a.length j,.slice k l.rows.length m]) l/\fp ab (.slice z a.x.length A) a.x/\fp ab (.slice N a.r.length O) a.r:=λq=>
  ⟨q.some g2 ao,q.some g2 P,R.aa.ext ((x.trans q).ext g),hx.ext ((x.trans q).ext g),af.ext ((x.trans q).ext g)⟩
 have au:∀{ab:ae} (P:List UInt8) (af:Bool),K pm I ab->P.length<1000000->Call X pm F.oz [.agg #[.slice i l.a.length j,.slice k l.rows.length m],.slice S c.length U,ak P,.bool af] ab λr bX=>K pm ab bX/\∃b,j5 l c P af b/\r=.bool b:=λP af q P=>
  T1 y q.h W hI (R.ext ((x.trans q).ext g)) Z (ai.imp ((x.trans q).ext g) λ_ _ _ ⟨a,b,n,p,D⟩=>⟨a,b,n,p,D.ext ((x.trans q).ext g)⟩) hn P
 have e:∀P ab b,K pm I ab->iU l a c b->aF 6 P=some (.bool b)->ax .ret P ab:=λP ab b q hc l6=>hQ _ _ _ ⟨.inr rfl,[.bool b],by simp[l6],x.trans q,b,hc,rfl⟩;simp[g.pick,g.make, ptr,<-aj,<-aa,<-an,<-ad,ao,bB,bA,-Fz,-Fx,-yA];refine al.of (aq:=[.agg #[.slice i l.a.length j,.slice k l.rows.length m]]) (qV y.tofA g2 (R.aa.ext (x.ext g)) E) ?_;rintro _ _ ⟨t,rfl⟩;have g3:=t.h;let⟨f,d,o,s,C⟩:=B t;have no:¬(l.I=true/\a.d.length=0)->iU l a c false:=λh=>by unfold iU;rw[aw h]
 cases hm:l.I with
 | false=>
   simp[aR,-yA];exact e _ _ false t (no λh=>π) σ'
 | true=>
   by_cases ae:a.d.length=0
   ·have w:∀b,iU l a c b↔(if a.st=1 then
     if(gy l a.x).isSome=true/\fR (gy l a.x)=a.val/\fU l a.x=true/\jm l a.x=true/\a.r.length=0 then j5 l c a.val false b else b=false
     else if a.st=2 then
      if a.val=[]/\a.x.length+a.r.length=0 then j5 l c [] true b else b=false
     else if a.st=3 then b=(oM l a.r&&(decide (a.val=[])&&(fU l a.x&&(jm l a.x&&(iL l a.r&&decide (c.length=0))))))
     else b=false):=λb=>by unfold iU;rw[aL ⟨hm,ae⟩]
    have q:¬0<a.d.length:=ω
    simp[d, ae, -Fw];by_cases v:a.st=1
    ·have n:(a.st==1)=true:=φ v
     have g:¬((gy l a.x).isSome=true/\fR (gy l a.x)=a.val/\fU l a.x=true/\jm l a.x=true/\a.r.length=0)->iU l a c false:=λh=>by rw[w,aL v,aw h]
     simp[n,f,d,bB,bA,-FA,-Fy];refine al.of (aq:=[.agg #[.slice i l.a.length j,.slice k l.rows.length m],.slice z a.x.length A]) (M8 y.tofA g3 o E s u.x) ?_;rintro _ _ ⟨T,rfl⟩;have F:=K.trans t T;let⟨f,d,o,s,C⟩:=B F;rw[JM];obtain⟨G,ab⟩:=ε (gy l a.x);rw[<-ab]at g w|-
     cases V:G.isSome with
     | false=>
       simp[aR,-yB];refine al.not ?_;simp[aR,-vS];refine al.not ?_;simp[aR,-sN];refine al.not ?_;simp[aR];exact e _ _ false F (g λh=>by rw[V]at h;cases h.1) σ'
     | true=>
       by_cases J:fR G=a.val
       ·have q:(fR G==a.val)=true:=φ J
        simp[f,d,bB,bA,q,eM,-yB];refine al.of (aq:=[.agg #[.slice i l.a.length j,.slice k l.rows.length m],.slice z a.x.length A]) (MD y.tofA T.h o E s u.x) ?_;rintro _ _ ⟨W,rfl⟩;have M:=K.trans F W;let⟨f,d,o,s,C⟩:=B M
        cases X:fU l a.x with
        | false=>
          simp[aR,-vS];refine al.not ?_;simp[aR,-sN];refine al.not ?_;simp[aR];exact e _ _ false M (g λh=>by rw[X]at h;cases h.2.2.1) σ'
        | true=>
          simp[f,d,bB,bA,-vS];refine al.of (aq:=[.agg #[.slice i l.a.length j,.slice k l.rows.length m],.slice z a.x.length A]) (M' y.tofA W.h o E s u.x) ?_;rintro _ _ ⟨k6,rfl⟩;have r:=K.trans M k6;let⟨f,d,o,s,C⟩:=B r
          cases Y:jm l a.x with
          | false=>
            simp[aR,-sN];refine al.not ?_;simp[aR];exact e _ _ false r (g λh=>by rw[Y]at h;cases h.2.2.2.1) σ'
          | true=>
            by_cases L:a.r.length=0
            ·simp[f,d,bB,bA, L,-sN];refine al.of (aq:=[.agg #[.slice i l.a.length j,.slice k l.rows.length m],.slice S c.length U,ak a.val,.bool false]) (au a.val false r av) ?_;rintro _ _ ⟨h,b,hb,rfl⟩;simp;exact e _ _ b (K.trans r h) (by rw[w,aL v,aL ⟨V,J,X,Y,L⟩];exact hb) σ'
            ·simp[aR, d,bB,bA,wD,L,-sN];refine al.not ?_;simp[aR];exact e _ _ false r (g λh=>L h.2.2.2.2) σ'
       ·have b:(fR G==a.val)=false:=φ J
        simp[aR,d,b,eM,-yB];refine al.not ?_;simp[aR,-vS];refine al.not ?_;simp[aR,-sN];refine al.not ?_;simp[aR];exact e _ _ false F (g λh=>J h.2.1) σ'
    have n:(a.st==1)=false:=φ v
    by_cases H:a.st=2
    ·have p:(a.st==2)=true:=φ H
     have F:¬(a.val=[]/\a.x.length+a.r.length=0)->iU l a c false:=λh=>by rw[w,aw v,aL H,aw h]
     have G:wr .i64 ((a.x.length:Int)+(a.r.length:Int))=(a.x.length:Int)+(a.r.length:Int):=cE (aP:=by have:=u.x.len;have:=u.r.len;omega) (h:=by have:=u.x.len;have:=u.r.len;omega);have J:(((a.x.length:Int)+(a.r.length:Int))==0)=decide (a.x.length+a.r.length=0):=by
      by_cases b:a.x.length+a.r.length=0
      ·have:(a.x.length:Int)+(a.r.length:Int)=0:=ω
       rw[this,hd b];rfl
      ·rw[j1 b];simp;omega
     by_cases g:a.val=[]
     ·by_cases r:a.x.length+a.r.length=0
      ·simp[n,p,f,d,g,eM,G,J,r, bB,bA,-yC];refine al.of (aq:=[.agg #[.slice i l.a.length j,.slice k l.rows.length m],.slice S c.length U,ak [],.bool true]) (au [] true t σ') ?_;rintro _ _ ⟨a,b,h,rfl⟩;simp;exact e _ _ b (K.trans t a) (by rw[w,aw v,aL H,aL ⟨g,r⟩];exact h) σ'
      ·have b:(decide (a.x=[])&&decide (a.r=[]))=false:=by
        rw[lz];intro h;simp at h;exact r (by rw[h.1,h.2];rfl)
       simp[n,p,f,d,g,eM,G,J,b,aR,bB,bA,-yC];refine al.not ?_;simp[aR];exact e _ _ false t (F λh=>r h.2) σ'
     ·have b:(a.val==[])=false:=φ g
      simp[n,p,d,b,eM,aR,-yC];refine al.not ?_;simp[aR];exact e _ _ false t (F λh=>g h.1) σ'
    ·have p:(a.st==2)=false:=φ H
     by_cases V:a.st=3
     ·have D:(a.st==3)=true:=φ V
      have F:∀b,iU l a c b↔b=(oM l a.r&&(decide (a.val=[])&&(fU l a.x&&(jm l a.x&&(iL l a.r&&decide (c.length=0)))))):=λb=>by rw[w,aw v,aw H,aL V]
      let⟨_,_,ag,aB⟩:=h1.aZ.ex;cases ag;have q:l.a.length<=6:=Z.n;simp[n,p,D,f,-Ft,-Fu]
      refine er (σ:=Unit) l.a.length (λ_ _=>[(2,.slice S c.length U),(3,.P p3),(4,.P p4),(86,.slice i l.a.length j)])
       (λg _ ab=>K pm I ab/\∀b,b<g->((l.ad b).int&&(decide (b<a.r.length)&&decide (a.r.getD b []≠[48])))=false) () ⟨t,λb b=>absurd b (gS _)⟩ ?_ ?_
      ·rintro r _ W hi ⟨X,aw⟩;have Y:=X.h;let⟨f,d,o,s,C⟩:=B X;obtain⟨_,oc,_,aC,_,rfl,f2,f3,f4,b,f5,rfl⟩:=aB r hi;have al:l.ad r=b:=ar.q7 f5;have aD:=(K.trans x X).some g f2;obtain⟨J,hq⟩:=ε W.next;obtain⟨H5,ab⟩:=ε ((W.new (.cells [.string ⟨#[]⟩,.string ⟨#[]⟩,.string ⟨#[]⟩,.string ⟨#[]⟩,.bool false] (.t T.Fs))).put J (.cells [ak b.name,ak b.low,ak b.up,ak b.cost,.bool b.int] (.t T.Fs)));have I:K pm W H5:=by rw[ab,hq];exact gh Y _ _
       have aE:H5.get J=some (.cells [ak b.name,ak b.low,ak b.up,ak b.cost,.bool b.int] (.t T.Fs)):=by rw[ab];exact bO
       have aF:∀q,(W.new q).get J=some q:=λq=>by rw[hq];exact cc
       have aG:pm.may J=true:=Y.may ω;have aH:bB aC (oc+r*5) 5=some [ak b.name,ak b.low,ak b.up,ak b.cost,.bool b.int]:=f4;have L:=K.trans X I;let⟨_,y4,_,_,_⟩:=B L;have ah:((l.ad r).int&&(decide (r<a.r.length)&&decide (a.r.getD r []≠[48])))=false->∀G,G<r+1->((l.ad G).int&&(decide (G<a.r.length)&&decide (a.r.getD G []≠[48])))=false:=λh G _=>by
        by_cases ag:G=r
        ·subst ag;exact h
        ·exact aw G ω
       simp[hi,aD,f3,aH,Y.pick,Y.make,ptr,bA,<-hq,aF,aG,setCells,<-ab,aE,-Fv]
       cases aq:b.int with
       | false=>
         simp[aR];have h:=ah (by rw[al,aq];rfl);simp at h;exact⟨L,h⟩
       | true=>
         by_cases M:r<a.r.length
         ·obtain⟨_,_,_,_,_,aI,r2,r3,r4,T,r5,rfl⟩:=az r M;subst aI;have ak:=(K.trans x L).some g r2;have ar:a.r.getD r []=T:=by rw[e5,r5];rfl
          by_cases g:T=[48]
          ·subst g;simp[y4,M,ak,r3,r4,];have h:=ah (by rw[ar];simp);simp at h;exact⟨L,h⟩
          ·have b:(T==[48])=false:=φ g
           have q:oM l a.r=false:=by
            rw[lz];intro h;unfold oM at h;have:=eA.1 h r (o6.2 hi);rw[al,aq,ar]at this;simp[M,g]at this
           simp[y4,M,ak,r3,r4,b,eM,];exact e _ _ false L (by rw[F,q];rfl) σ'
         ·simp[y4,M,aR];have h:=ah (by rw[j1 M];simp);simp at h;exact⟨L,h⟩
      ·rintro _ _ ⟨b,q⟩;have x:oM l a.r=true:=by
        unfold oM;rw[eA];intro a g;rw[q a (o6.1 g)];rfl
       have q:=b.h;let⟨f,d,o,s,C⟩:=B b;rw[x]at F;by_cases g:a.val=[]
       ·simp[f,d,g,eM,bB,bA, -Br];refine al.of (aq:=[.agg #[.slice i l.a.length j,.slice k l.rows.length m],.slice z a.x.length A]) (MD y.tofA q o E s u.x) ?_;rintro _ _ ⟨G,rfl⟩;have h:=K.trans b G;let⟨f,d,o,s,C⟩:=B h
        cases J:fU l a.x with
        | false=>
          simp[aR,-yD];refine al.not ?_;simp[aR,-vT];refine al.not ?_;simp[aR];exact e _ _ false h (by rw[F,J];simp) σ'
        | true=>
          simp[f,d,bB,bA,-yD];refine al.of (aq:=[.agg #[.slice i l.a.length j,.slice k l.rows.length m],.slice z a.x.length A]) (M' y.tofA G.h o E s u.x) ?_;rintro _ _ ⟨L,rfl⟩;have r:=K.trans h L;let⟨f,d,o,s,C⟩:=B r
          cases M:jm l a.x with
          | false=>
            simp[aR,-vT];refine al.not ?_;simp[aR];exact e _ _ false r (by rw[F,M];simp) σ'
          | true=>
            simp[f,d,bB,bA,-vT];refine al.of (aq:=[.agg #[.slice i l.a.length j,.slice k l.rows.length m],.slice N a.r.length O]) (UI y.tofA L.h o E C u.r) ?_;rintro _ _ ⟨X,rfl⟩;have T:=K.trans r X
            cases W:iL l a.r with
            | false=>
              simp[aR];exact e _ _ false T (by rw[F,W];simp) σ'
            | true=>
              simp[wD];exact e _ _ (decide (c.length=0)) T (by rw[F,g,J,M,W];simp) σ'
       ·have c:(a.val==[])=false:=φ g
        simp[d,c,eM,aR,-Br];refine al.not ?_;simp[aR,-yD];refine al.not ?_;simp[aR,-vT];refine al.not ?_;simp[aR];exact e _ _ false b (by rw[F,j1 g];simp) σ'
     ·have D:(a.st==3)=false:=φ V
      simp[n,p,D];exact e _ _ false t (by rw[w,aw v,aw H,aw V]) σ'
   ·have b:0<a.d.length:=ω
    simp[d,b, -yA];exact e _ _ false t (no λh=>ae h.2) σ'
end Go.Dam.C
namespace Go.Dam.C
section
variable{l:ar}{cs:List a1}
theorem HF{aa:ar}(h:c5 aa){d:List (List UInt8)}(b:∀i,aV (bU d i) 400)(bQ:Bool):(fR (eX aa d bQ)).length<1000000:=by
 cases a:aa.I with
 | false=>
   have:eX aa d bQ=none:=by
    cases e:eX aa d bQ with
    | none=>rfl
    | some _=>rw[Bm e]at a;cases a
   rw[this];simp[fR]
 | true=>exact NC h a b
theorem eU.S3(a:jq (db l))(aY:c5 l)(h:eU l cs):c5 ⟨cs,l.rows⟩ where
 n:=by have:=(h.fM a).n;rwa [rO]at this
 m:=aY.m
 c:=λ_ b=>by
  obtain⟨i,c,rfl⟩:=ux (d:=bY) b;have:=(h.fM a).c (eE (cB l) (cs.getD i bY)) (gl.2 ⟨_,b,rfl⟩);rw[oB,oC]at this;refine⟨this.1,this.2.1,?_⟩;rw[(h.c i c).1];exact(q6 aY i).2.2
 r:=aY.r
theorem x2.walk{h:bV}(b:jq (db l))(aY:c5 l):vI l h.tree λk cs=>eU l cs/\∃t:cQ,t.rt=k/\ee h.tree (λ_ cs d=>eU l cs/\mf l h.val cs d) t cs where
 Ak:=λk cs h=>h.1.S3 b aY
 ag:=λk cs x ⟨a,t,c,d⟩ f g=>by
  let⟨_,j⟩:=d.at' c f g;have i:=a.S3 b aY
  rcases j with⟨_,e⟩ | ⟨fw,e,_⟩
  ·rw[e];exact⟨⟨σ',σ'⟩,HF i λh=>R6 σ' h⟩
  ·have h:=pg (a.fM b) fw;rw[e];exact⟨(h.ga (a.fM b) fw).2.d,HF i (abn (a.fM b) h)⟩
 aH:=λk cs x ⟨a,t,c,d⟩ f g _ _ _ _=>by
  let⟨h,i,_,_,b,e,j,k,_,l,m,n,o,p⟩:=d.sub c f g;refine⟨by rw[<-l];exact xu _,⟨?_,h,m,o⟩,?_,i,n,p⟩
  ·rw[j];exact a.up b e
  ·rw[k];exact a.low b e
 at':=λk cs x ⟨a,t,c,d⟩ f g=>by
  let⟨_,_,_,_,_,a,_,_,⟨_,e⟩,_⟩:=d.sub c f g;rw[e];exact a.bI.1.len
variable{deep:Bool}{k e:Int}{b:cW}{u:List cz}
theorem iy.walk(a:nr l)(h:iy l deep k b u e)(c:e=0)(f:b.st≠4):u.length<=300/\∃I:Nat->List a1->Prop,vI l u I/\(0<u.length->I 0 l.a):=by
 cases h with
 | form _=>cases c
 | wide _ _=>cases c
 | jj _ _ _ _=>grind
 | cB _ _ _ _ _ _=>exact⟨σ',λ_ _=>False,⟨λ_ _ h=>h.elim,λ_ _ _ h=>h.elim,λ_ _ _ h=>h.elim,λ_ _ _ h=>h.elim⟩,λh=>absurd h σ'⟩
 | done _ d b e _=>
   have E:=sV a d b e;let⟨t,c,_,_,e⟩:=E.ex;exact⟨E.n,_,x2.walk (a.ok b) a.s,λ_=>⟨.root a d b,t,c,e⟩⟩
theorem pB.Tb(b:l.I=true)(c:l.a.length<=6){v:Rat}{a:cW}(h:pB l v a):jO a.x:=by
 let⟨_,a,_⟩:=h.fit b;unfold fU at a;rw[bK]at a;have:=(CM a.1).1;exact⟨ω,h.s⟩
theorem iy.Zc(a:nr l)(h:iy l deep k b u e)(d:e=0)(j:b.st≠4):b.ok/\b.val.length<1000000:=by
 have b:jO []:=⟨σ',σ'⟩
 cases h with
 | form _=>cases d
 | wide _ _=>cases d
 | jj _ _ _ _=>grind
 | cB g c h i _ e=>
   have E:=sV a c h i
   cases f:g.val with
   | none=>rw[E.aK f]at e;cases e
   | some q=>exact⟨⟨(E.c0 q f).Tb c a.s.n,b,((pg a.s c).ga a.s c).2.r⟩,σ'⟩
 | done f e g h _=>
   have E:=sV a e g h
   cases c:f.val with
   | none=>rw[E.aK c];exact⟨⟨b,b,b⟩,σ'⟩
   | some q=>exact⟨⟨(E.c0 q c).Tb e a.s.n,b,b⟩,by have:=(E.c0 q c).l;grind⟩
end
end Go.Dam.C
namespace Go.Dam.C
open Go Go.Dam
structure EW(X:aA):Prop extends sw X where
 kf:Has X F.kf C.kf
 lW:Has X F.lW C.lW
variable{X:aA}{pm:Perm}{H ab bX ai:ae}{n:Nat}
def nC(l:List (List UInt8))(i:Nat):List UInt8:=(l.getD i []).take 20
theorem Og(l:List (List UInt8))(n:Nat):(List.range (min n l.length)).map (nC l)=(l.take n).map (·.take 20):=by
 apply List.ext_getElem
 ·simp
 ·intro i a _;have b:i<min n l.length:=φ a
  have a:i<l.length:=ω
  simp[nC,en a]
def fB(H:ae)(a:Nat)(v:Value)(k:Nat)(f:Nat->List UInt8):Prop:=∃c,v=aZ c k/\(0<k->a<=c/\eK H c k f)
theorem fB.strs{a k:Nat}{v:Value}{f:Nat->List UInt8}(h:fB H a v k f):fp H v ((List.range k).map f):=by
 obtain⟨_,rfl,h⟩:=h;by_cases e:k=0
 ·subst e;exact fp.nil
 ·rw[dA ω];exact(h ω).2.strs
theorem fB.k{a k:Nat}{v:Value}{f:Nat->List UInt8}(h:fB H a v k f)(g:bl pm H)(u:K pm H ab):fB ab a v k f:=by
 let⟨c,e,h⟩:=h;exact⟨c,e,λa=>⟨(h a).1,(h a).2.k g u⟩⟩
theorem fB.mono{a cw k:Nat}{v:Value}{f:Nat->List UInt8}(h:fB H a v k f)(b:cw<=a):fB H cw v k f:=by
 let⟨c,e,h⟩:=h;exact⟨c,e,λa=>⟨a8 b (h a).1,(h a).2⟩⟩
theorem fB.put{a k b:Nat}{v:Value}{f:Nat->List UInt8}(h:fB H a v k f)(c:b<a)(x:bz):fB (H.put b x) a v k f:=by
 let⟨c,e,h⟩:=h;exact⟨c,e,λa=>⟨(h a).1,(h a).2.gw (by have:=(h a).1;omega) x⟩⟩
theorem DX(o:EW X)(i:bl pm ai){v:Value}{l:List (List UInt8)}{n:Nat}(M:n<=1000)(u:fp ai v l):
 Call X pm F.kf [v,.int .i64 (n:Int)] ai λr ab=>K pm ai ab/\fB ab ai.next r (min n l.length) (nC l):=by
 refine Call.W o.kf rfl λ_ q=>?_;obtain⟨w,x,rfl,y⟩:=u.ex;simp[-HC]
 refine fh.of (σ:=Nat×Nat) (λs=>[(0,.slice w l.length x),(1,.I (n:Int)),(5,aZ s.2 s.1),(6,.I (s.1:Int))])
  (λs ab=>s.1<=n/\s.1<=l.length/\K pm ai ab/\(0<s.1->ai.next<=s.2/\eK ab s.2 s.1 (nC l))) (λs=>n-s.1) (0,0) (by simp[aZ]) ⟨Nat.zero_le _,Nat.zero_le _,K.refl i,λh=>absurd h (Nat.lt_irrefl 0)⟩ ?_
 rintro⟨k,d⟩ b ⟨u,w,a,e⟩;simp at u w e;have f:=a.h;by_cases g:k<l.length
 ·by_cases r:k<n
  ·obtain⟨_,_,_,_,_,rfl,v,z,A,s,B,rfl⟩:=y k g;have u:=a.some i v;have C:nC l k=s.take 20:=by rw[nC,e5,B];rfl
   simp[g,r,u,z,A, -HD];refine al.of (aq:=[ak s,.I 20]) (sC o.tosw (n:=20)) ?_;rintro _ b ⟨rfl,rfl⟩;have m:=K.new f (.cells [ak (s.take 20)] (.n 1));obtain⟨c,o,t,D,E⟩:∃c o,pF (b.new (.cells [ak (s.take 20)] (.n 1))) (aZ d k) 1 k c o/\(∀h,o=some h->ai.next<=h/\pm.may h=true)/\∀j,j<k->c[j]? = some (ak (nC l j)):=by
    by_cases p:k=0
    ·subst p;exact⟨[],none,⟨rfl,rfl,rfl⟩,σ',σ'⟩
    ·let⟨l,n⟩:=e ω;let⟨c,o,u,F⟩:=n.k f m;exact⟨c,some d,⟨dA ω,φ u,o⟩,λh G=>by cases G;exact⟨l,i.may l⟩,F⟩
   let⟨_,H,I,J,_,_⟩:=E6 m.h (cR:=16) (n:=ai.next) t (xs:=[ak (s.take 20)]) rfl rfl (bc _) ω ω (by have:=a.next;show ai.next<=b.next+1;omega) D;have c:wr .i64 ((k:Int)+1)=((k+1:Nat):Int):=by rw[cE];simp
   simp[f.pick,f.make,H,c];refine kt.of (k+1,b.next+1) (by show n-(k+1)<n-k;omega) (by simp[aZ]) ⟨by show k+1<=n;omega,by show k+1<=l.length;omega,aC.trans (K.trans a m) J,λ_=>⟨by have:=a.next;show ai.next<=b.next+1;omega,?_⟩⟩;let⟨_,b,c⟩:=I;refine⟨_,c,φ b,λj _=>?_⟩;have L:=t.len;by_cases p:j=k
   ·subst p;rw[iq ω,C];simp[L]
   ·rw[hY ω];exact E j ω
  ·simp[g,r,];refine q _ _ _ ?_;simp;have:min n l.length=k:=ω
   exact⟨a,by rw[this];exact⟨d,rfl,e⟩⟩
 ·simp[g,aR];refine q _ _ _ ?_;simp;have:min n l.length=k:=ω
  exact⟨a,by rw[this];exact⟨d,rfl,e⟩⟩
def cW.cut(a:cW):cW:=⟨a.st,a.val.take 20,(a.x.take 7).map (·.take 20),(a.d.take 7).map (·.take 20),(a.r.take 7).map (·.take 20)⟩
abbrev tyL:Nat:=T.Yb
def od(H:ae)(b:Nat)(r:Value)(a:cW):Prop:=∃c d e,r=.agg #[.int .i64 a.st,ak (a.val.take 20),c,d,e]/\fB H b c (min 7 a.x.length) (nC a.x)/\fB H b d (min 7 a.d.length) (nC a.d)/\fB H b e (min 7 a.r.length) (nC a.r)
theorem od.E5{d:Nat}{r:Value}{a:cW}(h:od H d r a):qU H r a.cut:=by
 obtain⟨e,f,g,rfl,d,i,j⟩:=h;have a:=d.strs;have b:=i.strs;have c:=j.strs;rw[Og]at a b c;exact⟨e,f,g,rfl,a,b,c⟩
theorem od.k{b:Nat}{r:Value}{a:cW}(h:od H b r a)(g:bl pm H)(u:K pm H ab):od ab b r a:=by
 obtain⟨a,c,d,rfl,e,f,i⟩:=h;exact⟨a,c,d,rfl,e.k g u,f.k g u,i.k g u⟩
theorem od.put{c b:Nat}{r:Value}{a:cW}(h:od H c r a)(d:b<c)(x:bz):od (H.put b x) c r a:=by
 obtain⟨a,b,e,rfl,f,g,i⟩:=h;exact⟨a,b,e,rfl,f.put d x,g.put d x,i.put d x⟩
theorem TR(q:EW X)(g:bl pm H){w:Value}{a:cW}(G:qU H w a):Call X pm F.lW [w] H λr ab=>K pm H ab/\od ab H.next r a:=by
 refine Call.W q.lW rfl λ_ hQ=>?_;obtain⟨_,_,_,rfl,O,P,Q⟩:=G;let⟨x,y,aa,_⟩:=O.ex;let⟨z,A,ab,_⟩:=P.ex;let⟨B,C,ad,_⟩:=Q.ex;subst aa ab ad;obtain⟨R,D⟩:=ε H.next;obtain⟨f,t⟩:=ε (H.new (.cells [.int .i64 a.st,ak a.val,.slice x a.x.length y,.slice z a.d.length A,.slice B a.r.length C] (.t tyL)));have S:K pm H f:=by rw[t];exact K.new g _
 have E:=S.h;have ae:f.get R=some (.cells [.I a.st,ak a.val,.slice x a.x.length y,.slice z a.d.length A,.slice B a.r.length C] (.t tyL)):=by rw[t,D];exact cc
 obtain⟨e,F⟩:=ε f.next;obtain⟨d,u⟩:=ε (f.new (.cells [.int .i64 0,.string ⟨#[]⟩,.slice none 0 0,.slice none 0 0,.slice none 0 0] (.t tyL)));have G:K pm f d:=by rw[u];exact K.new E _
 have c:=G.h;have T:d.get e=some (.cells [.I 0,.string ⟨#[]⟩,.Z,.Z,.Z] (.t tyL)):=by rw[u,F];exact cc
 have U:=G.some E ae;have r:=S.trans G;have G:f.next=R+1:=by rw[t,D];rfl
 have f:d.next=e+1:=by rw[u,F];rfl
 have af:=c.lt U;have ag:=c.lt T;simp[g.pick,g.make,ptr,<-D,<-t,  <-F,<-u];refine cx.of c.ah rfl ?_;have i:K pm d (d.up 16):=(K.refl c).up 16;have ai:=λo=>ej (ah:=pm.ah) (ok:=pm.ok) (o:=o) (b:=e) (a8 E.ah ω);simp[b8,c.none,c.O,U];refine cY i.h (aq:=[ak a.val,.I 20]) (by simp[c.none]) rfl (λI h=>g' h (sC q.tosw (n:=20))) ?_;rintro _ _-⟨rfl,rfl⟩;simp;refine cY i.h (aq:=[.slice x a.x.length y,.I 7]) (by simp[c.none]) rfl (λI h=>DX q h (n:=7) ω (O.ext ((r.trans i).ext g))) ?_;rintro _ V j f1;have f:=j.res c;simp;refine cY j.h (aq:=[.slice z a.d.length A,.I 7]) (by simp[f]) rfl (λI h=>DX q h (n:=7) ω (P.ext (((r.trans i).trans j).ext g))) ?_;rintro _ W s f2;have J:=K.trans j s;have f:=J.res c;simp;refine cY s.h (aq:=[.slice B a.r.length C,.I 7]) (by simp[f]) rfl (λI h=>DX q h (n:=7) ω (Q.ext (((r.trans i).trans J).ext g))) ?_;rintro _ L M f3;have f:=K.trans J M;have x5:=f.res c;have N:=i.trans f;have X:=N.some c T;obtain⟨k,rfl,d1⟩:=f1;obtain⟨l,rfl,d2⟩:=f2;obtain⟨m,rfl,d3⟩:=f3;obtain⟨v,w⟩:=ε (L.put e (.cells [.int .i64 a.st,ak (a.val.take 20),aZ k (min 7 a.x.length),aZ l (min 7 a.d.length),aZ m (min 7 a.r.length)] (.t tyL)));have aj:∀b p,dd (aZ b p)=true:=λb p=>by unfold aZ;split<;>rfl
 have al:∀b p,(aZ b p).cells=#[aZ b p]:=λb p=>by unfold aZ;split<;>rfl
 simp[x5,setCells,bA,al,aj,X,ai,<-w,b3,bZ,af,ag,fT,cU,dj];refine hQ _ _ _ ?_;have u6:aC pm H.next L v:=by rw[w];exact aC.put (.refl N.h) ω X σ' _
 have c:v.get e=some (.cells [.I a.st,ak (a.val.take 20),aZ k (min 7 a.x.length),aZ l (min 7 a.d.length),aZ m (min 7 a.r.length)] (.t tyL)):=by rw[w];exact bO
 simp[ft,c,bB,bA];have hU:e<(d.up 16).next:=by show e<d.next+16;omega
 have c:=j.next;have c:=s.next;have Y:=((fB.k (⟨k,rfl,d1⟩:fB V _ _ _ _) j.h (s.trans M)).put hU (.cells [.I a.st,ak (a.val.take 20),aZ k (min 7 a.x.length),aZ l (min 7 a.d.length),aZ m (min 7 a.r.length)] (.t tyL)));have Z:=((fB.k (⟨l,rfl,d2⟩:fB W _ _ _ _) s.h M).put (ω:e<V.next) (.cells [.I a.st,ak (a.val.take 20),aZ k (min 7 a.x.length),aZ l (min 7 a.d.length),aZ m (min 7 a.r.length)] (.t tyL)));have s3:=(fB.put (⟨m,rfl,d3⟩:fB L _ _ _ _) (ω:e<W.next) (.cells [.I a.st,ak (a.val.take 20),aZ k (min 7 a.x.length),aZ l (min 7 a.d.length),aZ m (min 7 a.r.length)] (.t tyL)));rw[<-w]at Y Z s3;have an:H.next<=(d.up 16).next:=by have:=r.next;show H.next<=d.next+16;omega
 exact⟨aC.trans (K.trans r N) u6,_,_,_,rfl,Y.mono an,Z.mono ω,s3.mono ω⟩
end Go.Dam.C
namespace Go.Dam.C
open Go Go.Dam
variable{X:aA}{pm cu:Perm}{H ab bX ai:ae}{n:Nat}
structure x4(X:aA):Prop extends ov X where
 kf:Has X F.kf C.kf
 lW:Has X F.lW C.lW
 s4:Has X F.s4 C.s4
theorem x4.w(h:x4 X):EW X where
 tosw:=h.tosw
 kf:=h.kf
 lW:=h.lW
abbrev D5:Nat:=T.Yf
abbrev D4:Nat:=T.Yg
def cz.cut(x:cz):cz:=⟨x.ad,x.at'.take 10,x.l,x.r,(x.d.take 7).map (·.take 20)⟩
def nD(l:List cz):List cz:=(l.take 7).map cz.cut
theorem Oi(l:List cz):Bc (nD l):=by
 refine⟨λ_ a=>?_⟩;obtain⟨_,_,rfl⟩:=gl.1 a;refine⟨by simp[cz.cut];omega,λ_ b=>?_⟩;obtain⟨_,_,rfl⟩:=gl.1 b;simp;omega
theorem aa9{l:ar}(aY:lN l){t:List cz}(c:Bc t)(g:∀x∈t,x.d.length<1000000):vI l t λ_ cs=>ld l cs where
 Ak:=λ_ cs h=>(h.fM aY).fM
 ag:=λk cs x b a d=>by
  have e:=cX a;have f:=(c.t x e).2;exact⟨⟨g x e,λs h=>by have:=f s h;omega⟩,HF (b.fM aY).fM (R6 λs h=>by have:=f s h;omega)⟩
 aH:=λk cs x b a d e f g h=>by
  let⟨i,j,l⟩:=S2 aY c b a d e f g h;exact⟨by rw[<-i];exact xu _,j,l⟩
 at':=λk cs x b a d=>by have:=(c.t x (cX a)).1;omega
def sy(H:ae)(a c k:Nat)(l:List cz):Prop:=0<k->a<=c/\∃(L:List Value) (b:Nat->Value),H.get c=some (.cells L (.n 5))/\ey L 5 k (λj=>(l.getD j fs).cut.cells (b j))/\∀j,j<k->fB H a (b j) (min 7 (l.getD j fs).d.length) (nC (l.getD j fs).d)
theorem fB.same{a cw k:Nat}{v:Value}{f:Nat->List UInt8}(h:fB H a v k f)(e:∀b y,a<=b->H.get b=some y->(∀L,y≠.cells L (.n 5))->ab.get b=some y)(c:cw<=a):fB ab cw v k f:=by
 let⟨a,b,h⟩:=h;refine⟨a,b,λb=>?_⟩;let⟨a,d,f,g⟩:=h b;exact⟨a8 c a,d,e _ _ a f (λL=>σ'),g⟩
theorem fB.one{a k:Nat}{v:Value}{f:Nat->List UInt8}(h:fB H a v k f):dd v=true/\v.cells=#[v]:=by
 obtain⟨_,rfl,_⟩:=h;unfold aZ;split<;>exact⟨rfl,rfl⟩
theorem VE{row:List Value}{o:Nat}{x:cz}{eN:Value}(h:bB row o 5=some (x.cells eN)):row[o]? = some (.int .i64 x.ad)/\row[o+1]? = some (ak x.at')/\row[o+2]? = some (.int .i64 x.l)/\row[o+3]? = some (.int .i64 x.r)/\row[o+4]? = some eN:=by
 have b:=(sX h).2;have e:∀j (a:j<5),row[o+j]? = (x.cells eN)[j]?:=λj a=>by
  rw[b,jY a,jZ]
 exact⟨by simpa [cz.cells]using e 0 δ,by simpa [cz.cells]using e 1 δ,by simpa [cz.cells]using e 2 δ,by simpa [cz.cells]using e 3 δ,by simpa [cz.cells]using e 4 δ⟩
theorem ab1(V:x4 X)(v:bl pm ai)(f:K pm ai H){A:Option Addr}{B W Y N k c:Nat}{l:List cz}(an:dE ai (.slice A N B) N 5 (j6 ai l))(av:k<N)(Z:k<7)(ax:sy H ai.next c k l){Z:cl}
 (hR:∀aU ab c',Sub [(2,.slice A N B),(3,.pointer (some ⟨W,0,none⟩)),(4,.pointer (some ⟨Y,0,none⟩)),(8,aZ c' (k+1)),(9,.int .i64 ((k+1:Nat):Int))] aU->K pm ai ab->sy ab ai.next c' (k+1) l->Z .normal aU ab):
 wp X pm (.code C.Cs) [(27,.bool true),(26,.bool true),(25,.int .i64 (k:Int)),(24,.bool true),(23,.bool true),(22,.int .i64 (N:Int)),(21,.slice A N B),(20,.int .i64 (k:Int)),(2,.slice A N B),(3,.pointer (some ⟨W,0,none⟩)),(4,.pointer (some ⟨Y,0,none⟩)),(8,aZ c k),(9,.int .i64 (k:Int))] H [] Z:=by
 have g:=f.h;let⟨_,_,e,ao⟩:=an.ex;cases e;obtain⟨b,_,y,_,_,rfl,e2,e3,e4,x,d,ar,rfl,e6⟩:=ao k av;have aa:=f.some v e2;let⟨c0,c1,c2,c3,c4⟩:=VE e4;have ad:l.getD k fs=x:=by rw[e5,ar];rfl
 let⟨db,dc,au,_⟩:=e6.ex;subst au;obtain⟨z,m⟩:=ε H.next;have D:K pm H (H.up 32):=(K.refl g).up 32;have O:=λj=>(by rw[m];exact g.none j:(H.up 32).get (z+j)=none);have aw:=(by rw[m];exact g.O:(H.up 32).get z=none);have lb:b<z:=by rw[m];exact g.lt aa
 have w1:wr .i64 ((k:Int)+1)=((k+1:Nat):Int):=by rw[cE];simp
 simp;refine cx.of g.ah rfl ?_;rw[<-m];simp[b8,O,aw,av,aa,e3,c0,c1,c2,c3,c4];refine cY D.h (aq:=[ak x.at',.I 10]) (by simp[O]) rfl (λcu P=>g' P (sC V.tosw (n:=10))) ?_;rintro _ _-⟨rfl,rfl⟩;simp;refine cY D.h (aq:=[.slice db x.d.length dc,.I 7]) (by simp[O]) rfl (λcu P=>DX V.w P (n:=7) ω (e6.ext ((f.trans D).ext v))) ?_;rintro _ p Q ⟨E,rfl,d1⟩;have F:∀j,j<32->p.get (z+j)=none:=λj G=>by rw[m];exact Q.res g j G
 obtain⟨a,I⟩:∃a:List Value,a=[.I x.ad,ak (x.at'.take 10),.I x.l,.I x.r,aZ E (min 7 x.d.length)]:=⟨_,rfl⟩;obtain⟨q,o⟩:=ε (p.put (z+29) (.cells a (.n 5)));have ae:K pm H p:=D.trans Q;have A:(H.up 32).next=z+32:=by rw[m];rfl
 have A:=Q.next;have S:K pm H q:=by rw[o];exact aC.fill ae ω (F 29 δ) ω _
 have r:0<k->ai.next<=c/\c<z:=λh=>by
  let⟨T,L,d,t,_⟩:=ax h;exact⟨T,by rw[m];exact g.lt t⟩
 have m:=v.lt e2;obtain⟨L,d,s,af⟩:∃(L:List Value) (d:Nat->Value),(0<k->H.get c=some (.cells L (.n 5))/\L.length=k*5/\ey L 5 k (λj=>(l.getD j fs).cut.cells (d j))/\∀j,j<k->fB H ai.next (d j) (min 7 (l.getD j fs).d.length) (nC (l.getD j fs).d))/\(k=0->L=[]):=by
  by_cases e:k=0
  ·exact⟨[],λ_=>Value.bool true,λh=>ω,λ_=>rfl⟩
  ·let⟨_,L,d,t,J,b⟩:=ax ω;exact⟨L,d,λ_=>⟨t,J.1,J,b⟩,λh=>absurd h e⟩
 have ay:a.all dd=true:=by
  have ag:∀b i,dd (aZ b i)=true:=λb i=>by unfold aZ;split<;>rfl
  rw[I];simp[ag]
 have e1:=vL (H:=q) (w:=5) (cR:=64) (c:=c) (i:=k) (ah:=pm.ah) (fJ:=pm.ok) (b:=z+30) (ch:=L) (xs:=a) (λh=>⟨S.some g (s h).1,(s h).2.1,ej (a8 v.ah (r h).1)⟩) af ay;obtain⟨M,u⟩:=ε ((ia q c k).put (z+30) (.cells (L++a) (.n 5)));rw[<-u]at e1;have aj:q.get (z+30)=none:=by rw[o,a6 ω];exact F 30 δ
 have az:M.get (z+31)=none:=by rw[u,a6 ω,ib (λh=>by have:=r h;omega),o,a6 ω];exact F 31 δ
 have aA:q.get (z+29)=some (.cells a (.n 5)):=by rw[o];exact bO
 have ag:∀b i,dd (aZ b i)=true:=λb i=>by unfold aZ;split<;>rfl
 have aB:∀b i,(aZ b i).cells=#[aZ b i]:=λb i=>by unfold aZ;split<;>rfl
 have U:a.length=5:=by rw[I];rfl
 have m:a.take 5=a:=by rw[<-U];exact xj
 simp[F,setCells,bB,bA,aB, <-I,U,m,w1,Perm.make,Perm.pick,<-o,aj,aA,e1,az,b3,bZ,fT,cU,dj,lb];refine⟨λx m=>.inl (.inl (.inl (vJ (λh=>(r h).2) m))),?_⟩;have m:q.next=p.next:=by rw[o];rfl
 have m:K pm ai M:=by
  have b:aC pm ai.next H M:=by
   rw[u];exact aC.fill (aC.ia (S.mono f.next) λh=>⟨(r h).1,S.some g (s h).1⟩) (by have:=f.next;omega) (by rw[ib (λh=>by have:=r h;omega)];exact aj) (by rw[rb];omega) _
  exact aC.trans f b
 have al:∀b y,b≠z+29->b≠z+30->(0<k->b≠c)->p.get b=some y->M.get b=some y:=λb y T t J h=>by
  rw[u,a6 t,ib J,o,a6 T];exact h
 refine hR _ _ (z+30) σ' m λ_=>⟨by have:=f.next;omega,L++a,λj=>if j=k then aZ E (min 7 x.d.length) else d j,by rw[u];exact bO,?_,λj G=>?_⟩
 ·have b:ey L 5 k (λj=>(l.getD j fs).cut.cells (d j)):=by
   by_cases e:k=0
   ·rw[af e,e];exact⟨rfl,λj G=>absurd G (gS _)⟩
   ·exact(s ω).2.2.1
  have e:(λj=>if j=k then a else(l.getD j fs).cut.cells (d j))=λj=>(l.getD j fs).cut.cells (if j=k then aZ E (min 7 x.d.length) else d j):=by
   funext j;by_cases e:j=k
   ·subst e;simp only[if_true,ad];rw[I];rfl
   ·simp only[e,if_false]
  rw[<-e];exact b.app U
 ·by_cases e:j=k
  ·subst e;simp only[if_true,ad];exact fB.same (⟨E,rfl,d1⟩:fB p _ _ _ _) (λb y _ a _=>al b y ω ω (λh=>by have:=r h;omega) a) (by have:=f.next;omega)
  ·simp only[e,if_false];have c:0<k:=ω
   exact fB.same ((s c).2.2.2 j ω) (λb y _ a d=>by
    have f:=g.lt a;exact al b y ω ω (λ_ e=>d L (by rw[e,(s c).1]at a;exact(jH a).symm)) (ae.some g a)) (bc _)
theorem sy.k{a c k:Nat}{l:List cz}(h:sy H a c k l)(g:bl pm H)(u:K pm H ab):sy ab a c k l:=λa=>by
 let⟨b,L,c,d,e,f⟩:=h a;exact⟨b,L,c,u.some g d,e,λj a=>(f j a).k g u⟩
theorem sy.nd{a c:Nat}{l:List cz}(h:sy H a c (min 7 l.length) l):dE H (aZ c (nD l).length) (nD l).length 5 (j6 H (nD l)):=by
 have a:(nD l).length=min 7 l.length:=by simp[nD]
 rw[a];by_cases a:0<min 7 l.length
 ·let⟨_,L,b,c,d,e⟩:=h a;refine ey.nd (λ_=>⟨L,c,d⟩) λi f=>⟨(l.getD i fs).cut,b i,?_,rfl,?_⟩
  ·have a:i<l.length:=ω
   simp[nD,jY (ω:i<7),en a]
  ·have:=(e i f).strs;rwa [Og]at this
 ·have e:min 7 l.length=0:=ω
  rw[e];exact⟨none,0,rfl,λ_ a=>absurd a (gS _)⟩
theorem j6.nd{v:Value}{m:Nat}{l:List cz}(h:dE H v m 5 (j6 H l))(e:Ext H ab):dE ab v m 5 (j6 ab l):=dE.imp h e λ_ _ _ ⟨x,a,b,c,d⟩=>⟨x,a,b,c,d.ext e⟩
theorem gp.nd{A:Nat->Prop}{aH:Nat}{v:Value}{l:List cz}(h:gp H A aH v l):dE H v l.length 5 (j6 H l):=by
 rcases h with⟨rfl,rfl⟩ | ⟨rfl,L,G5,f,dN,Ck⟩
 ·exact⟨none,0,rfl,λ_ a=>absurd a (gS _)⟩
 ·exact⟨_,_,rfl,λi a=>⟨aH,0,_,L,_,rfl,G5,rfl,by rw[Nat.zero_add];exact dN.row a,by
   let⟨b,e,c⟩:=Ck i a;exact⟨l[i],b,by simp[a],e,c.1⟩⟩⟩
theorem ar.VV(aa:ar):lN aa.cut:=by
 refine⟨by simp[ar.cut];omega,by simp[ar.cut];omega,λc a=>?_,λr b=>?_⟩
 ·obtain⟨c,_,rfl⟩:=gl.1 a;simp only[a1.cut,l6];omega
 ·obtain⟨r,_,rfl⟩:=gl.1 b;simp only[b9.cut,l6,rU];refine⟨ω,ω,λc a=>?_⟩;obtain⟨c,_,rfl⟩:=gl.1 a;simp only[l6];omega
theorem ld.root{l:ar}(h:lN l):ld l l.a:=⟨⟨rfl,λ_ _=>⟨rfl,rfl⟩⟩,λc a=>by have:=h.c c a;omega⟩
end Go.Dam.C
namespace Go.Dam.C
open Go Go.Dam
variable{X:aA}{pm cu:Perm}{H ab bX ai:ae}{n:Nat}
theorem BQ(a:cW):a.cut.ok/\a.cut.val.length<1000000:=by
 have h:∀(l:List (List UInt8)),jO ((l.take 7).map (·.take 20)):=λl=>by
  refine⟨by simp;omega,λ_ _=>?_⟩;grind
 exact⟨⟨h a.x,h a.d,h a.r⟩,by simp[cW.cut];omega⟩
theorem VT{l:List cz}:∀x∈nD l,x.d.length<1000000:=λx a=>by
 obtain⟨_,_,rfl⟩:=gl.1 a;simp[cz.cut];omega
theorem VU(aa:ar):nr aa.cut:=by
 refine⟨aa.Oj,λc a=>?_,λi b=>?_⟩
 ·obtain⟨c,_,rfl⟩:=gl.1 a;simp[a1.cut];omega
 ·let⟨_,_,e⟩:=gl.1 (cX (ar.rowAt b):aa.cut.row i∈(aa.rows.take 6).map b9.cut);rw[<-e];simp[b9.cut];omega
theorem UB(h:x4 X)(g:bl pm H){v w tv:Value}{aa:ar}{a:cW}{l:List cz}(aO:sB H v aa)(aI:qU H w a)(ht:dE H tv l.length 5 (j6 H l)):Call X pm F.s4 [v,w,tv] H λr ab=>K pm H ab/\r=.bool true:=by
 refine Call.W h.s4 rfl λU hQ=>?_;have hv:=aO.aa;have aY:=aI;obtain⟨v1,v2,rfl,hc,hr⟩:=hv;obtain⟨af,ag,rfl,_⟩:=hc.at;obtain⟨ai,aj,rfl,_⟩:=hr.at;obtain⟨_,_,_,rfl,a1,a_,ba⟩:=aI;let⟨an,ao,u,_⟩:=a1.ex;let⟨ar,au,v,_⟩:=a_.ex;let⟨av,aw,e3,_⟩:=ba.ex;subst u v e3;obtain⟨ta,tc,rfl,_⟩:=ht.ex;obtain⟨i,ax⟩:=ε H.next;obtain⟨j,V⟩:=ε (H.new (.cells [.slice af aa.a.length ag,.slice ai aa.rows.length aj] (.t D5)));have k1:K pm H j:=by rw[V];exact K.new g _
 have g1:=k1.h;have bb:j.get i=some (.cells [.slice af aa.a.length ag,.slice ai aa.rows.length aj] (.t D5)):=by rw[V,ax];exact cc
 obtain⟨c,ay⟩:=ε j.next;obtain⟨d,W⟩:∃d,d=j.new (.cells [.I a.st,ak a.val,.slice an a.x.length ao,.slice ar a.d.length au,.slice av a.r.length aw] (.t D4)):=⟨_,rfl⟩;have k2:K pm j d:=by rw[W];exact K.new g1 _
 have e:=k2.h;have az:d.get c=some (.cells [.I a.st,ak a.val,.slice an a.x.length ao,.slice ar a.d.length au,.slice av a.r.length aw] (.t D4)):=by rw[W,ay];exact cc
 have aA:=k2.some g1 bb;have aB:=k1.trans k2;have n1:j.next=i+1:=by rw[V,ax];rfl
 have j:d.next=c+1:=by rw[W,ay];rfl
 simp[g.pick,g.make,ptr,<-ax,<-V,  <-ay,<-W,-Hs,-Hy];refine al.of (aq:=[]) (Ve h.tosw e.ep) ?_;rintro _ d ⟨rfl,rfl⟩;have bc:=e.lt aA;have bd:=e.lt az;simp[-wB];refine cx.of e.ah rfl ?_;have Y:K pm d (d.up 6):=(K.refl e).up 6;simp[b8,e.none,e.O,aA,az,bB,bA,-wB];refine cY Y.h (aq:=[.agg #[.slice af aa.a.length ag,.slice ai aa.rows.length aj]]) (by simp[e.none]) rfl (λcu g'=>T9 h.tosw cu _ g' _ aa (aO.ext ((aB.trans Y).ext g))) ?_;rintro r1 H3 z f1;have j:=z.res e;simp[-wB];refine fG z.h (aq:=[.agg #[.I a.st,ak a.val,.slice an a.x.length ao,.slice ar a.d.length au,.slice av a.r.length aw]]) (by simp[j]) rfl (λcu g'=>TR h.w g' (aY.ext (((aB.trans Y).trans z).ext g))) ?_;rintro _ Z j f2;have V:=K.trans z j;have x4:=V.res e;have ad:=Y.trans V;have g4:=ad.h;have q0:=ad.some e aA;have q1:=ad.some e az;have bf:=f1.ext (j.ext z.h);have e:(d.up 6).next=c+7:=by show d.next+6=_;omega
 have e:=z.next;have e:=j.next;obtain⟨_,_,rfl,aP,aQ,bg,bh⟩:=bf;obtain⟨m,n,rfl,_⟩:=aP.at;obtain⟨p,q,rfl,_⟩:=aQ.rows.at;obtain⟨_,_,_,rfl,h1,h2,h3⟩:=f2;obtain⟨J,rfl,_⟩:=id h1;obtain⟨M,rfl,_⟩:=id h2;obtain⟨N,rfl,_⟩:=id h3;have bj:∀b A,dd (aZ b A)=true:=λb A=>by unfold aZ;split<;>rfl
 have e:∀b A,(aZ b A).cells=#[aZ b A]:=λb A=>by unfold aZ;split<;>rfl
 obtain⟨B,r⟩:=ε (Z.put i (.cells [.slice m aa.cut.a.length n,.slice p aa.cut.rows.length q] (.t D5)));obtain⟨f,s⟩:=ε (B.put c (.cells [.int .i64 a.st,ak (a.val.take 20),aZ J (min 7 a.x.length),aZ M (min 7 a.d.length),aZ N (min 7 a.r.length)] (.t D4)));have aD:B.get c=_:=(by rw[r,a6 ω]:B.get c=Z.get c).trans q1;have y5:B.get (d.next+5)=none:=by rw[r,a6 ω];exact x4 5 δ
 have e:=λo=>ej (ah:=pm.ah) (ok:=pm.ok) (o:=o) (b:=i) (a8 g.ah ω);have j:=λo=>ej (ah:=pm.ah) (ok:=pm.ok) (o:=o) (b:=c) (a8 g.ah ω);simp[x4,y5,setCells,  bj,q0,aD,e,j,<-r,<-s,b3,bZ,bc,bd,fT,cU,dj,-wB];have e:aC pm H.next Z f:=by
  have v1:aC pm H.next Z B:=by rw[r];exact aC.put (.refl g4) ω q0 σ' _
  have v2:aC pm H.next B f:=by rw[s];exact aC.put (.refl v1.h) ω aD σ' _
  exact v1.trans v2
 have kA:K pm H f:=aC.trans (K.trans aB ad) e;have D:=kA.h;have bk:mh f (d.up 6).next (.agg #[.slice m aa.cut.a.length n,.slice p aa.cut.rows.length q]) aa.cut:=by
  rw[s,r];exact(mh.put ⟨_,_,rfl,aP,aQ,bg,bh⟩ ω _).put ω _
 have bl:od f H3.next (.agg #[.I a.st,ak (a.val.take 20),aZ J (min 7 a.x.length),aZ M (min 7 a.d.length),aZ N (min 7 a.r.length)]) a:=by
  rw[s,r];exact(od.put ⟨_,_,_,rfl,h1,h2,h3⟩ ω _).put ω _
 have r0:f.get i=some (.cells [.slice m aa.cut.a.length n,.slice p aa.cut.rows.length q] (.t D5)):=by rw[s,a6 ω,r];exact bO
 have r1:f.get c=some (.cells [.I a.st,ak (a.val.take 20),aZ J (min 7 a.x.length),aZ M (min 7 a.d.length),aZ N (min 7 a.r.length)] (.t D4)):=by rw[s];exact bO
 clear r s y5 q0 q1 aD;have z:gD f 0 (.agg #[.slice m aa.cut.a.length n,.slice p aa.cut.rows.length q]) aa.cut:=gD.mono bk.e (Nat.zero_le _);have bm:=j6.nd ht (kA.ext g);have aE:∀l' ab,K pm H ab->aF 6 l'=some (.bool true)->U .ret l' ab:=λl' ab k d=>hQ _ _ _ (by simp[d];exact k);have ae:=aa.VV;have sh:=aa.Oj;have E:=VU aa;simp[-Hq,-wA]
 refine fh.of (σ:=Nat×Nat) (λs=>[(2,.slice ta l.length tc),(3,.P i),(4,.P c),(8,aZ s.2 s.1),(9,.I (s.1:Int))])
  (λs ab=>s.1<=7/\s.1<=l.length/\K pm f ab/\sy ab f.next s.2 s.1 l) (λs=>7-s.1) (0,0) (by simp[aZ]) ⟨Nat.zero_le _,Nat.zero_le _,K.refl D,λa=>absurd a (Nat.lt_irrefl 0)⟩ ?_
 rintro⟨k,aG⟩ H5 ⟨d,e,w,hs⟩;simp only at d e hs;have P:=w.h;have done:k=min 7 l.length->∀d e f j:Value,wp X pm (.code C.wA) [(27,.bool false),(26,d),(25,e),(24,f),(23,j),(22,.I (l.length:Int)),(21,.slice ta l.length tc),(20,.I (k:Int)),(2,.slice ta l.length tc),(3,.P i),(4,.P c),(8,aZ aG k),(9,.I (k:Int))] H5 [] U:=λr d e f j=>by
  have d:(nD l).length=k:=by rw[r];simp[nD]
  have a6:dE H5 (aZ aG k) (nD l).length 5 (j6 H5 (nD l)):=by
   rw[r]at hs;have:=hs.nd;rwa [d]at this|-
  have s0:=w.some D r0;have s1:=w.some D r1;have aS:=z.ext (w.ext D);simp[s0,bB,bA,-Hx,-Hv];refine al.of (aq:=[.agg #[.slice m aa.cut.a.length n,.slice p aa.cut.rows.length q],.bool false,.I 0]) (YZ h.tonw P E aS ω ω) ?_;rintro _ H6 ⟨k6,_,_,_,b,t,aT,rfl,ib,tb,_,Q⟩;have F:=k6.h;have a8:=ib.E5;obtain⟨_,_,_,rfl,d,e,f⟩:=ib;let⟨ah,aC,f1,_⟩:=d.1.ex;let⟨aF,aH,f2,_⟩:=e.1.ex;let⟨aI,aJ,f3,_⟩:=f.1.ex;subst f1 f2 f3;obtain⟨ab,rfl⟩:=tb.form;obtain⟨G,aK⟩:=ε H6.next;have bo:pm.may G=true:=F.may ω;have bp:∀d,(H6.new d).get G=some d:=λd=>by rw[aK];simp
  obtain⟨H7,aL⟩:=ε ((H6.new (.cells [.int .i64 0,.string ⟨#[]⟩,.slice none 0 0,.slice none 0 0,.slice none 0 0] (.t T.Hp))).put G (.cells [.int .i64 b.st,ak b.val,.slice ah b.x.length aC,.slice aF b.d.length aH,.slice aI b.r.length aJ] (.t T.Hp)));have k7:K pm H6 H7:=by rw[aL,aK];exact gh F _ _
  have o:=k7.h;have ob:H7.get G=some (.cells [.I b.st,ak b.val,.slice ah b.x.length aC,.slice aF b.d.length aH,.slice aI b.r.length aJ] (.t T.Hp)):=by rw[aL];exact bO
  simp[F.pick,F.make,ptr,bA,<-aK,bp,bo,<-aL,setCells,-Hu,-zj];have I:K pm H5 H7:=K.trans k6 k7;have aM:K pm H H7:=K.trans (K.trans kA w) I;by_cases he:aT=0
  ·subst he;by_cases x:b.st=4
   ·simp[ob,x,-zj];exact aE _ _ aM σ'
   ·let⟨bq,br⟩:=Q.Zc E rfl x;let⟨_,_,aR,hI⟩:=Q.walk E rfl x;have bS:=Q.Qb E rfl x;have d:(b.st==4)=false:=by simp[x]
    have t0:=I.some P s0;have t1:=I.some P s1;have aU:=aS.ext (I.ext P);have a7:=(bl.k D (K.trans w I)).E5;have e:=j6.nd a6 (I.ext P);have b7:=a8.ext (k7.ext F);have bs:=j6.nd tb.nd (k7.ext F);simp[d,ob,t0,t1,bB,bA,-HA,-Ht,-wC];refine al.of (aq:=[.agg #[.slice m aa.cut.a.length n,.slice p aa.cut.rows.length q],.agg #[.I a.st,ak (a.val.take 20),aZ J (min 7 a.x.length),aZ M (min 7 a.d.length),aZ N (min 7 a.r.length)],aZ aG k]) (EJ h.toov o (aa9 ae (Oi l) VT) (λ_=>ld.root ae) aU sh a7 (BQ a).1 (BQ a).2 e ω) ?_;rintro _ H8 ⟨g,b1,bt,rfl⟩;have bu:b1=true->a.st=b.st/\a.val.take 20=b.val:=λbw=>by
     subst bw;exact(iU.Jy (λ_ _ _ a=>aa8 ae (Oi l) a (ld.root ae) rfl) bt).agree bS
    have y:=g.h;have p8:=g.some o ob;have aV:=g.some o t0;have aN:=g.some o t1;have aW:=aU.ext (g.ext o);have d:=a7.ext (g.ext o);have aX:=j6.nd bs (g.ext o);have b8:=b7.ext (g.ext o);have hP:∀(L:bn),Sub [(3,.P i),(4,.P c),(10,.P G),(11,.slice ab t.length t.length)] L->wp X pm (.code C.wC) L H8 [] U:=λL H=>by
     simp only[Sub]at H;let⟨R,l4,S,T,_⟩:=H;simp[R,l4,T,aV,aN,bB,bA,-Hz,-Hr,-wz];refine al.of (aq:=[.agg #[.slice m aa.cut.a.length n,.slice p aa.cut.rows.length q],.agg #[.I a.st,ak (a.val.take 20),aZ J (min 7 a.x.length),aZ M (min 7 a.d.length),aZ N (min 7 a.r.length)],.slice ab t.length t.length]) (EJ h.toov y aR hI aW sh d (BQ a).1 (BQ a).2 aX ω) ?_;rintro _ H9 ⟨l,b2,bx,rfl⟩;have c:=l.h;have p9:=l.some y p8;have d:=l.some y aV;have bz:=l.some y aN;have e:=aW.ext (l.ext y);have f:=j6.nd aX (l.ext y);have j:=b8.ext (l.ext y);have hF:∀(L:bn),Sub [(3,.P i),(10,.P G),(11,.slice ab t.length t.length)] L->wp X pm (.code C.wz) L H9 [] U:=λL H=>by
      simp only[Sub]at H;let⟨R,S,T,_⟩:=H;simp[R,S,T,p9,d,bB,bA,-Hw];refine al.of (aq:=[.agg #[.slice m aa.cut.a.length n,.slice p aa.cut.rows.length q],.agg #[.I b.st,ak b.val,.slice ah b.x.length aC,.slice aF b.d.length aH,.slice aI b.r.length aJ],.slice ab t.length t.length]) (EJ h.toov c aR hI e sh j bq br f ω) ?_;rintro _ _ ⟨a,_,C,rfl⟩;obtain rfl:=Q.taken E rfl x C;simp;exact aE _ _ (K.trans aM (K.trans g (K.trans l a))) σ'
     rcases b2 with _ | _
     ·simp[-wz];exact hF _ (by simp[R,S,T])
     ·let⟨u,v⟩:=Q.UU E rfl x bx;have v:a.val.take 20=b.val:=v;have u:a.st=b.st:=u;simp[l4,S,p9,bz,u,v,-wz];exact hF _ (by simp[R,S,T])
    rcases b1 with _ | _
    ·simp[-wC];exact hP _ σ'
    ·let⟨u,v⟩:=bu rfl;simp[p8,aN,u,v,-wC];exact hP _ σ'
  ·have a:(aT==0)=false:=by simp[he]
   simp[a,aR,-zj];exact aE _ _ aM σ'
 by_cases c:k<l.length
 ·by_cases a:k<7
  ·simp[c,a, -Cs];refine ab1 h D w bm c a hs ?_;intro l' ab b d e f;exact kt.of (k+1,b) (by show 7-(k+1)<7-k;omega) d ⟨by show k+1<=7;omega,by show k+1<=l.length;omega,e,f⟩
  ·simp[c,a, -wA];exact done ω _ _ _ _
 ·simp[c,aR,-wA];exact done ω _ _ _ _
end Go.Dam.C
namespace Go.Dam.C
open Go Go.Dam Go.RowKit
section
variable{O:cy}{P:Program}{W:World}
def e8(O:cy)(W:World)(aQ:Value)(Q:ae->Value->Prop):Prop:=∀γ H,In O (λ_=>True) W γ H->∃a b v,In O (λ_=>True) W a b/\γ.le a/\Ext H b/\aO a v aQ/\Q b v
def Bd(Q:ae->Value->Prop):Prop:=∀H a v,Ext H a->Q H v->Q a v
theorem e8.plain{v:Value}(h:plainCell v=true):e8 O W v λ_ u=>u=v:=λγ H a=>⟨γ,H,v,a,.refl _,.refl _,.plainCell h,rfl⟩
theorem e8.imp{v:Value}{Q a:ae->Value->Prop}(h:e8 O W v Q)(g:∀H u,Q H u->a H u):e8 O W v a:=λγ H b=>
 let ⟨a,c,u,d,e,f,i,j⟩:=h γ H b;⟨a,c,u,d,e,f,i,g _ _ j⟩
theorem e8.list{V:Nat->Value}{Q:Nat->ae->Value->Prop}(ax:∀i,Bd (Q i)):∀k,(∀i,i<k->e8 O W (V i) (Q i))->∀γ H,In O (λ_=>True) W γ H->
 ∃a ab,∃u:Nat->Value,In O (λ_=>True) W a ab/\γ.le a/\Ext H ab/\∀i,i<k->aO a (u i) (V i)/\Q i ab (u i)
 | 0,_,γ,H,a=>⟨γ,H,λ_=>.bool true,a,.refl _,.refl _,λi a=>absurd a (gS _)⟩
 | k+1,h,γ,H,a=>by
   let⟨d,f,u,g,j,l,m⟩:=e8.list ax k (λi a=>h i ω) γ H a;let⟨a,n,v,o,b,c,p,q⟩:=h k ω d f g;refine⟨a,n,λi=>if i=k then v else u i,o,j.trans b,l.trans c,λi _=>?_⟩;by_cases e:i=k
   ·subst e;simp;exact⟨p,q⟩
   ·simp[e];let⟨p,q⟩:=m i ω;exact⟨p.mono b,ax i _ _ _ c q⟩
theorem e8.nil{w:Nat}{Q:ae->Nat->List Value->Prop}:e8 O W (.slice none 0 0) λH u=>fS H u 0 w (Q H):=λγ H a=>
 ⟨γ,H,_,a,.refl _,.refl _,.r1,none,0,rfl,bc _,λ_=>rfl,λ_ h=>by cases h⟩
theorem e8.slice{a:Addr}{len cap w:Nat}{V:Nat->Value}{Q:Nat->ae->Value->Prop}(ax:∀i,Bd (Q i))(aY:len<=cap)(y:0<w)(r:∀j,j<cap*w->W.cell? (a.add j)=some (V j))(h:∀j,j<len*w->e8 O W (V j) (Q j)):
 e8 O W (.slice (some a) len cap) λH v=>fS H v len w λi cs=>∃u:Nat->Value,cs=(List.range w).map (λk=>u (i*w+k))/\∀k,k<w->Q (i*w+k) H (u (i*w+k)):=by
 intro γ H c;let⟨l,d,u,m,z,A,s⟩:=e8.list ax (len*w) h γ H c;have M:((List.range (len*w)).map u).length=len*w:=σ'
 have B:bN l ((List.range (len*w)).map u) ((List.range (len*w)).map V):=bN.rF σ' λi v _ p q=>by
  rw[jd]at p q;by_cases a:i<len*w
  ·rw[tu a]at p q;cases p;cases q;exact(s i a).1
  ·rw[hc (φ a)]at p;cases p
 let⟨_,_,_,_⟩:=m.y9;obtain⟨b,o,C,D⟩:∃b o,qX W (λ_=>True) b o ((List.range (len*w)).map V)/\aO (l.set d.next ⟨b,o,0,0⟩) (.S d.next len cap) (.slice (some a) len cap):=by
  by_cases u:cap=0
  ·subst u;obtain rfl:len=0:=ω
   let⟨a,b,f,g⟩:=m.F5;exact⟨1,0,⟨trivial,a,b,f,g,σ',σ'⟩,.nc (aT.gU _ _ _)⟩
  ·have E:0<cap*w:=tm ω y;have f:=r 0 E;let⟨b,o,F⟩:=a;have G:F=none:=by simpa [Addr.add]using World.cell?_spot f
   subst G;obtain⟨a,h,k,g⟩:∃a h k,W.heap[b]? = some (.cells a h k):=by
    unfold World.cell? at f;split at f
    ·rename_i a e I g;exact⟨a,e,I,by simpa [Addr.add]using g⟩
    ·cases f
   have t:∀i,i<cap*w->a[o+i]? = some (V i):=by
    intro i c;have b:=r i c;rw[add_eq]at b;simpa [World.cell?,g]using b
   have H:=(gT.1 (t (cap*w-1) ω)).1;have N:len*w<=cap*w:=fV _ aY;refine⟨b,o,⟨trivial,a,h,k,g,by simp;omega,λi v e=>?_⟩,?_⟩
   ·rw[jd]at e;by_cases b:i<len*w
    ·rw[tu b]at e;cases e;exact t i ω
    ·rw[hc (φ b)]at e;cases e
   ·have:=aO.gV (γ:=l.set d.next ⟨b,o,0,0⟩) (b:=d.next) (off:=0) (n:=len) (cap:=cap) (dm:=cap) (L:=⟨b,o,0,0⟩) (aT.gU _ _ _) (bc _) aY (.inl rfl);simpa using this
 let⟨J,K,x⟩:=m.add C B;refine⟨_,_,_,J,z.trans K,A.trans x,D,_,cap,rfl,aY,(λh=>by cases h),λa h=>?_⟩;cases h;refine⟨d.next,0,_,rfl,.inl cc,σ',λi c=>⟨_,pW ?_,u,?_,λk j=>ax _ _ _ _ x (s _ ?_).2⟩⟩
 ·have:i*w+w<=len*w:=by rw[<-j0];exact fV _ c
  simp;omega
 ·apply n4;intro k;by_cases j:k<w
  ·have:i*w+w<=len*w:=by rw[<-j0];exact fV _ c
   rw[jY j,jZ,jd,jd,tu j,tu ω,Nat.zero_add];rfl
  ·rw[hc (by simp;omega),hc (φ j)]
 ·have:i*w+w<=len*w:=by rw[<-j0];exact fV _ c
  omega
theorem An{v:Value}:Bd λ_ u=>u=v:=λ_ _ _ _ h=>h
theorem fS.vh{m w:Nat}{P:Nat->List Value->Prop}:Bd λH v=>fS H v m w P:=λ_ _ _ e h=>fS.imp h e λ_ _ _ h=>h
def fO:Value->List UInt8
 | .string s=>s.data.toList
 | _=>[]
def kP:Value->Int
 | .int _ n=>n
 | _=>0
def Bl:Value->Bool
 | .bool b=>b
 | _=>false
def kQ(v:Value):Prop:=∃s,v=.string s
def oN(v:Value):Prop:=∃n,v=.int .i64 n
def wv(v:Value):Prop:=∃b,v=.bool b
theorem kQ.st{v:Value}(h:kQ v):v=ak (fO v):=by obtain⟨_,rfl⟩:=h;rfl
theorem oN.int{v:Value}(h:oN v):v=.int .i64 (kP v):=by obtain⟨_,rfl⟩:=h;rfl
theorem wv.bool{v:Value}(h:wv v):v=.bool (Bl v):=by obtain⟨_,rfl⟩:=h;rfl
theorem kQ.lift{v:Value}(h:kQ v):e8 O W v λ_ u=>u=v:=by obtain⟨_,rfl⟩:=h;exact .plain rfl
theorem oN.lift{v:Value}(h:oN v):e8 O W v λ_ u=>u=v:=by obtain⟨_,rfl⟩:=h;exact .plain rfl
theorem wv.lift{v:Value}(h:wv v):e8 O W v λ_ u=>u=v:=by obtain⟨_,rfl⟩:=h;exact .plain rfl
def vG(W:World)(w:Nat)(v:Value)(E:(Nat->Value)->Prop):Prop:=v=.slice none 0 0∨∃b c a,∃V:Nat->Value,v=.slice (some b) c a/\c<=a/\(∀j,j<a*w->W.cell? (b.add j)=some (V j))/\∀i,i<a->E λk=>V (i*w+k)
def tV(W:World)(v:Value):Prop:=vG W 1 v λV=>kQ (V 0)
def AW(W:World)(v:Value):Prop:=vG W 2 v λV=>oN (V 0)/\kQ (V 1)
def AX(W:World)(v:Value):Prop:=vG W 5 v λV=>kQ (V 0)/\kQ (V 1)/\kQ (V 2)/\kQ (V 3)/\wv (V 4)
def RowsIn(W:World)(v:Value):Prop:=vG W 5 v λV=>kQ (V 0)/\oN (V 1)/\AW W (V 2)/\kQ (V 3)/\kQ (V 4)
theorem tV.lift{v:Value}(h:tV W v):∃l,e8 O W v λH u=>fp H u l:=by
 rcases h with rfl | ⟨o,e,f,V,rfl,p,q,g⟩
 ·exact⟨[],λγ H a=>⟨γ,H,_,a,.refl _,.refl _,.r1,fp.nil⟩⟩
 ·refine⟨(List.range e).map λi=>fO (V i),(e8.slice (w:=1) (Q:=λj _ u=>u=V j) (λ_=>An) p δ q λj _=>?_).imp λH u h=>?_⟩
  ·have:=g j ω;simp[Nat.mul_one,Nat.add_zero]at this;exact this.lift
  ·obtain⟨k,f,rfl,_,r,s⟩:=h;refine⟨k,f,σ',λi a=>?_⟩;have a:i<e:=φ a
   cases k with
   | none=>have:=r rfl;omega
   | some o=>
     obtain⟨h,m,n,rfl,b,_,t⟩:=s _ rfl;obtain⟨_,v,u,rfl,f⟩:=t i a;have e:=f 0 δ;simp[Nat.mul_one,Nat.add_zero]at e;have f:=(sX v).2;have c:=congrArg (λl=>l[0]?) f;simp[e]at c;have d:=g i ω;simp[Nat.mul_one,Nat.add_zero]at d;exact b.elim (λb=>⟨h,m,_,n,V i,rfl,b,rfl,c.symm,fO (V i),by simp[a],d.st⟩) λb=>⟨h,m,_,n,V i,rfl,b,rfl,c.symm,fO (V i),by simp[a],d.st⟩
theorem AW.lift{v:Value}(h:AW W v):∃l:List dL,e8 O W v λH u=>fS H u l.length 2 λi cs=>∃c,l[i]? = some c/\cs=c.cells:=by
 rcases h with rfl | ⟨_,b,_,V,rfl,c,d,a⟩
 ·exact⟨[],e8.nil⟩
 ·refine⟨(List.range b).map λi=>⟨kP (V (i*2+0)),fO (V (i*2+1))⟩,(e8.slice (w:=2) (Q:=λj _ u=>u=V j) (λ_=>An) c δ d λj _=>?_).imp λH u h=>?_⟩
  ·obtain⟨f,g⟩:=a (j/2) ω;have e:j=j/2*2+0∨j=j/2*2+1:=ω
   rcases e with e | e<;>rw[e]
   ·exact f.lift
   ·exact g.lift
  ·simp only[rU,xf];refine fS.imp h (λ_ _ e=>e) λi cs c ⟨u,e,b⟩=>⟨⟨kP (V (i*2+0)),fO (V (i*2+1))⟩,by simp[c],?_⟩;obtain⟨c,d⟩:=a i ω;have a:=b 0 δ;have f:=b 1 δ;rw[e];show[u (i*2+0),u (i*2+1)]=_;rw[a,f];show[V (i*2+0),V (i*2+1)]=[.int .i64 (kP (V (i*2+0))),ak (fO (V (i*2+1)))];rw[<-c.int,<-d.st]
theorem AX.lift{v:Value}(h:AX W v):∃l:List a1,e8 O W v λH u=>fS H u l.length 5 λi cs=>∃c,l[i]? = some c/\cs=c.cells:=by
 rcases h with rfl | ⟨_,a,_,V,rfl,c,d,b⟩
 ·exact⟨[],e8.nil⟩
 ·refine⟨(List.range a).map λi=>⟨fO (V (i*5+0)),fO (V (i*5+1)),fO (V (i*5+2)),fO (V (i*5+3)),Bl (V (i*5+4))⟩,(e8.slice (w:=5) (Q:=λj _ u=>u=V j) (λ_=>An) c δ d λj _=>?_).imp λH u h=>?_⟩
  ·let⟨f,g,h,i,k⟩:=b (j/5) ω;have e:j=j/5*5+0∨j=j/5*5+1∨j=j/5*5+2∨j=j/5*5+3∨j=j/5*5+4:=ω
   rcases e with e | e | e | e | e<;>rw[e]
   ·exact f.lift
   ·exact g.lift
   ·exact h.lift
   ·exact i.lift
   ·exact k.lift
  ·simp;refine fS.imp h (λ_ _ e=>e) λi cs c ⟨u,e,a⟩=>⟨⟨fO (V (i*5+0)),fO (V (i*5+1)),fO (V (i*5+2)),fO (V (i*5+3)),Bl (V (i*5+4))⟩,by simp[c],?_⟩;let⟨c,d,f,g,j⟩:=b i ω;rw[e];show[u (i*5+0),u (i*5+1),u (i*5+2),u (i*5+3),u (i*5+4)]=[ak (fO (V (i*5+0))),ak (fO (V (i*5+1))),ak (fO (V (i*5+2))),ak (fO (V (i*5+3))),.bool (Bl (V (i*5+4)))];rw[a 0 δ,a 1 δ,a 2 δ,a 3 δ,a 4 δ,<-c.st,<-d.st,<-f.st,<-g.st,<-j.bool]
theorem RowsIn.lift{v:Value}(h:RowsIn W v):∃l:List b9,e8 O W v λH u=>vy H u l:=by
 rcases h with rfl | ⟨c,k,d,V,rfl,m,n,f⟩
 ·exact⟨[],λγ H a=>⟨γ,H,_,a,.refl _,.refl _,.r1,none,0,rfl,bc _,λ_=>rfl,λc h=>by cases h⟩⟩
 ·have g:∀i,∃l:List dL,i<d->e8 O W (V (i*5+2)) λH u=>fS H u l.length 2 λi b=>∃c,l[i]? = some c/\b=c.cells:=λi=>by
   by_cases a:i<d
   ·obtain⟨l,h⟩:=(f i a).2.2.1.lift (O:=O);exact⟨l,λ_=>h⟩
   ·exact⟨[],λh=>absurd h a⟩
  obtain⟨a,l⟩:∃a:Nat->List dL,∀i,i<d->e8 O W (V (i*5+2)) λH u=>fS H u (a i).length 2 λd b=>∃c,(a i)[d]? = some c/\b=c.cells:=⟨λi=>(g i).choose,λi=>(g i).choose_spec⟩
  refine⟨(List.range k).map λi=>⟨fO (V (i*5+0)),kP (V (i*5+1)),a i,fO (V (i*5+3)),fO (V (i*5+4))⟩,
   (e8.slice (w:=5) (Q:=λj H u=>if j%5=2 then fS H u (a (j/5)).length 2 λd b=>∃c,(a (j/5))[d]? = some c/\b=c.cells else u=V j) (λj=>?_) m (by decide) n λj _=>?_).imp λH u h=>?_⟩
  ·by_cases e:j%5=2
   ·simp only[e,if_true];exact fS.vh
   ·simp only[e,if_false];exact An
  ·obtain⟨h,o,_,p,q⟩:=f (j/5) (by omega);have e:j=j/5*5+0∨j=j/5*5+1∨j=j/5*5+2∨j=j/5*5+3∨j=j/5*5+4:=by omega
   rcases e with e | e | e | e | e
   ·simp only[show ¬j%5=2 by omega,if_false];rw[e];exact h.lift
   ·simp only[show ¬j%5=2 by omega,if_false];rw[e];exact o.lift
   ·have:=l (j/5) (by omega);rw[<-e]at this;simp only[show j%5=2 by omega,if_true];exact this
   ·simp only[show ¬j%5=2 by omega,if_false];rw[e];exact p.lift
   ·simp only[show ¬j%5=2 by omega,if_false];rw[e];exact q.lift
  ·unfold vy;simp only[rU,xf];refine fS.imp h (λ_ _ e=>e) λi b c ⟨u,e,b⟩=>⟨⟨fO (V (i*5+0)),kP (V (i*5+1)),a i,fO (V (i*5+3)),fO (V (i*5+4))⟩,u (i*5+2),by simp[c],?_,?_⟩
   ·obtain⟨g,h,_,j,k⟩:=f i (by omega);have a:=b 0 (by decide);have c:=b 1 (by decide);have d:=b 3 (by decide);have f:=b 4 (by decide);rw[aw (by omega)]at a c d f;rw[e];show[u (i*5+0),u (i*5+1),u (i*5+2),u (i*5+3),u (i*5+4)]=[ak (fO (V (i*5+0))),.int .i64 (kP (V (i*5+1))),u (i*5+2),ak (fO (V (i*5+3))),ak (fO (V (i*5+4)))];rw[a,c,d,f,<-g.st,<-h.int,<-j.st,<-k.st]
   ·have a:=b 2 (by decide);rw[aL (by omega),show(i*5+2)/5=i by omega]at a;exact a
def A4(W:World)(v:Value):Prop:=∃a b,v=.agg #[a,b]/\AX W a/\RowsIn W b
def AU(W:World)(v:Value):Prop:=∃a b c d e,v=.agg #[a,b,c,d,e]/\oN a/\kQ b/\tV W c/\tV W d/\tV W e
theorem A4.lift{v:Value}(h:A4 W v):∃aa:ar,e8 O W v λH u=>sB H u aa:=by
 obtain⟨_,_,rfl,a,b⟩:=h;let⟨c,e⟩:=a.lift (O:=O);let⟨a,f⟩:=b.lift (O:=O);refine⟨⟨c,a⟩,λγ H b=>?_⟩;let⟨g,i,a,j,k,l,m,n⟩:=e γ H b;let⟨e,o,b,p,c,d,q,r⟩:=f g i j;exact⟨e,o,.agg #[a,b],p,k.trans c,l.trans d,.agg (.cons (m.mono c) (.cons q .nil)),a,b,rfl,fS.vh _ _ _ d n,r⟩
theorem AU.lift{v:Value}(h:AU W v):∃a:cW,e8 O W v λH u=>qU H u a:=by
 obtain⟨_,_,_,_,_,rfl,a,c,d,e,g⟩:=h;let⟨x,i⟩:=d.lift (O:=O);let⟨j,k⟩:=e.lift (O:=O);let⟨r,l⟩:=g.lift (O:=O);obtain⟨n,rfl⟩:=a;obtain⟨s,rfl⟩:=c;refine⟨⟨n,s.data.toList,x,j,r⟩,λγ H a=>?_⟩;let⟨g,j,c,m,o,p,q,t⟩:=i γ H a;let⟨i,r,d,u,e,f,v,w⟩:=k g j m;let⟨j,k,g,m,a,b,x,y⟩:=l i r u;exact⟨j,k,.agg #[.I n,.string s,c,d,g],m,(o.trans e).trans a,(p.trans f).trans b,.agg (.cons (.int _ _) (.cons (.str _) (.cons ((q.mono e).mono a) (.cons (v.mono a) (.cons x .nil))))),c,d,g,rfl,t.ext (f.trans b),w.ext b,y⟩
section
variable{vx:Type}{enc:TypeId×Value->vx}{base:Nat}{held:Bool}
theorem Av{t e l w:Nat}{v:Value}{x:DataW vx×List MemPlace}{E:(Nat->Value)->Prop}(o:P.underlying t=some (.slice e))(p:P.cellsOf e=w)(h:DataW.trod enc P W base (λ_=>true) held l t [v]=some x)
 (q:∀(V:Nat->Value) n y,DataW.trod enc P W base (λ_=>true) held n e ((List.range w).map V)=some y->E V):vG W w v E:=by
 rcases Deep.open_slice o h with⟨fr,_⟩ | ⟨a,len,cap,m,n,D,MS,fr,_,aY,_,hm,_,G8⟩
 ·exact .inl (φ fr)
 ·have hm:m=cap:=φ hm
  subst hm;rw[p]at G8;refine .inr ⟨a,len,m,λj=>(W.cell? (a.add j)).getD (.bool true),φ fr,aY,?_⟩;have f:∀i,i<m->∃b,b.length=w/\(∀k,k<w->W.cell? (a.add (i*w+k))=b[k]?)/\DataW.trod enc P W base (λ_=>true) held n e b=some (D i,MS i):=λi c=>by
   obtain⟨b,a,e⟩:=G8 i c;obtain⟨_,g,h⟩:=World.cells?_some a;exact⟨b,g,λk a=>by rw[<-h k a,Deep.add_add],e⟩
  refine⟨λj d=>?_,λi c=>?_⟩
  ·have g:0<w:=qo λe=>by subst e;simp at d
   obtain⟨b,e,h,_⟩:=f (j/w) (ts (by rw[eZ];exact d));have d:=h (j%w) (o1 _ g);rw[show j/w*w+j%w=j by rw[eZ];exact xi j w]at d;rw[en (by rw[e];exact o1 _ g)]at d;show _=some ((W.cell? (a.add j)).getD _);rw[d];rfl
  ·obtain⟨b,_,b,a⟩:=f i c;refine q _ n (D i,MS i) ?_;rw[<-a];congr 1;apply n4;intro k;by_cases a:k<w
   ·rw[jd,tu a,<-b k a];have:=b k a;rw[en ω]at this;rw[this];simp[this]
   ·rw[hc (φ a),hc ω]
theorem hD{e a:Nat}{c2:Array Field}{cs:List Value}{x:DataW vx×List MemPlace}{i:Nat}{f:Field}{u:Value}(c:P.underlying e=some (.struct c2))(h:DataW.trod enc P W base (λ_=>true) held a e cs=some x)
 (a:c2[i]? = some f) (d:P.cellsOf f.type=1) (g:cs[f.offset]? = some u):∃n y,DataW.trod enc P W base (λ_=>true) held n f.type [u]=some y:=by
 let⟨_,n,_,_,_,_,j⟩:=DataW.trod_struct c h;have b:=j i f a;have c:=(gT.1 a).1;have e:(cs.drop f.offset).take 1=[u]:=by
  apply n4;intro k
  cases k with
  | zero=>simp[g]
  | succ k=>simp[List.getElem?_take]
 rw[d,e,en ω]at b;exact⟨n,_,b⟩
theorem oO{t a:Nat}{u:Value}{y:DataW vx×List MemPlace}(b:P.underlying t=some .string)(h:DataW.trod enc P W base (λ_=>true) held a t [u]=some y):kQ u:=by
 let⟨s,e,_⟩:=DataW.trod_string b h;exact⟨s,φ e⟩
theorem wx{t a:Nat}{u:Value}{y:DataW vx×List MemPlace}(b:P.underlying t=some (.int .i64))(h:DataW.trod enc P W base (λ_=>true) held a t [u]=some y):oN u:=by
 let⟨s,e,_⟩:=DataW.trod_int b h;exact⟨s,φ e⟩
theorem W'{t a:Nat}{u:Value}{y:DataW vx×List MemPlace}(b:P.underlying t=some .bool)(h:DataW.trod enc P W base (λ_=>true) held a t [u]=some y):wv u:=by
 let⟨s,e,_⟩:=DataW.trod_bool b h;exact⟨s,φ e⟩
end
end
end Go.Dam.C
namespace Go.Dam.C
open Go Go.Dam
section
variable{O:cy}{W:World}
def A8(W:World)(v:Value):Prop:=vG W 5 v λV=>oN (V 0)/\kQ (V 1)/\oN (V 2)/\oN (V 3)/\tV W (V 4)
theorem A8.lift{v:Value}(h:A8 W v):∃l:List cz,e8 O W v λH u=>dE H u l.length 5 (j6 H l):=by
 rcases h with rfl | ⟨_,f,b,V,rfl,g,k,c⟩
 ·exact⟨[],λγ H a=>⟨γ,H,_,a,.refl _,.refl _,.r1,none,0,rfl,λ_ a=>absurd a (gS _)⟩⟩
 ·have d:∀i,∃l:List (List UInt8),i<b->e8 O W (V (i*5+4)) λH u=>fp H u l:=λi=>by
   by_cases a:i<b
   ·obtain⟨l,h⟩:=(c i a).2.2.2.2.lift (O:=O);exact⟨l,λ_=>h⟩
   ·exact⟨[],λh=>absurd h a⟩
  obtain⟨a,_⟩:∃a:Nat->List (List UInt8),∀i,i<b->e8 O W (V (i*5+4)) λH u=>fp H u (a i):=⟨λi=>(d i).choose,λi=>(d i).choose_spec⟩
  refine⟨(List.range f).map λi=>⟨kP (V (i*5+0)),fO (V (i*5+1)),kP (V (i*5+2)),kP (V (i*5+3)),a i⟩,
   (e8.slice (w:=5) (Q:=λj H u=>if j%5=4 then fp H u (a (j/5)) else u=V j) (λj=>?_) g δ k λj _=>?_).imp λH u h=>?_⟩
  ·by_cases e:j%5=4
   ·simp only[e,if_true];exact λ_ _ _ e h=>fp.ext h e
   ·simp only[e,if_false];exact An
  ·obtain⟨h,l,m,n,_⟩:=c (j/5) ω;have e:j=j/5*5+0∨j=j/5*5+1∨j=j/5*5+2∨j=j/5*5+3∨j=j/5*5+4:=ω
   rcases e with e | e | e | e | e
   ·simp only[show ¬j%5=4 by omega,if_false];rw[e];exact h.lift
   ·simp only[show ¬j%5=4 by omega,if_false];rw[e];exact l.lift
   ·simp only[show ¬j%5=4 by omega,if_false];rw[e];exact m.lift
   ·simp only[show ¬j%5=4 by omega,if_false];rw[e];exact n.lift
   grind
  ·simp only[rU,xf];refine dE.imp (fS.aZ h) (λ_ _ e=>e) λi _ d ⟨u,e,b⟩=>⟨⟨kP (V (i*5+0)),fO (V (i*5+1)),kP (V (i*5+2)),kP (V (i*5+3)),a i⟩,u (i*5+4),by simp[d],?_,?_⟩
   ·obtain⟨g,h,j,k,_⟩:=c i ω;have a:=b 0 δ;have c:=b 1 δ;have d:=b 2 δ;have f:=b 3 δ;rw[aw ω]at a c d f;rw[e];show[u (i*5+0),u (i*5+1),u (i*5+2),u (i*5+3),u (i*5+4)]=[.int .i64 (kP (V (i*5+0))),ak (fO (V (i*5+1))),.int .i64 (kP (V (i*5+2))),.int .i64 (kP (V (i*5+3))),u (i*5+4)];rw[a,c,d,f,<-g.int,<-h.st,<-j.int,<-k.int]
   grind
end
end Go.Dam.C
