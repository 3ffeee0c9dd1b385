/- An abstract memory, and that the program does there what it does. -/
import Derived.Test.YtkjakecbclpfpaaGreatDoorCDamA
import Derived.Below
import Derived.Lib.Bytealg
namespace Go.Dam
open Go
section
variable{O:cy}{P:Program}{base:Nat}{pm:Perm}{n:Nat}{G:Nat->Bool}{K:cv}
def Y4:Oper:=⟨none,.move (.tmp 0),0,"",#[],none⟩
def vO(a:Array Oper)(i j:Nat):Bool:=((Region.before a).getD j 0).testBit i
structure Mu(ops:Array Oper)(an:List aE)(c:lK):Prop where
 down:re ops=true
 ao:c.ord.Nodup
 cover:∀i,i<an.length->i∈c.ord
 len:(b8 an c.ord).length=an.length
 lq:zC (vO ops) (b8 an c.ord) (b8 an c.ord) 0=some c.lq
 fixed:c.fixed=wg (vO ops) (b8 an c.ord) (b8 an c.ord) 0
theorem VM{b:Array Oper}{an:List aE}{c:lK}(h:BL b an=some c):Mu b an c:=by
 unfold BL at h;simp only at h;split at h
 ·rename_i a;simp only[bK,cP,eA,o6,o0]at a;split at h
  ·rename_i _ d;simp only[aJ]at h;subst h;exact⟨a.1.1.1,a.1.1.2,λ_ _=>by grind,a.2,d,rfl⟩
  ·cases h
 ·cases h
def yp{α:Type}(l:List α)(d:α)(i:Nat):α:=(l[i]?).getD d
theorem Wt{b:List aE}{d:Option lK}{e cA:Env}{H Ut:ae}(h:rm K pm b d e H=some (cA,Ut)):
 ∃c a,d=some c/\pm.ah<=H.next/\jV K pm ((b8 b c.ord).map (·.2)) H.next c.fixed e ⟨H.t,H.next+b.length⟩=some (cA,Ut,a)/\b3 a Ut c.lq=true/\bZ a H.next a 0=true:=by
 unfold rm at h;split at h
 ·rename_i c;rw[cJ]at h;grind
 ·cases h
theorem Wv{a:List Rec}{Ut:ae}{c:List (Nat×Nat)}(h:b3 a Ut c=true){i j:Nat}(d:(i,j)∈c):∃x y,a[i]? = some x/\a[j]? = some y/\(∀b∈x.oQ,b∉y.oQ)/\((∀b∈x.oQ,b∉y.sW)∨
 ((∀r∈a,∃u,y.again r.heap=some u/\ni u y.val=true)/\∃u,y.again Ut=some u/\ni u y.val=true)):=by
 simp only[b3,eA]at h;have:=h (i,j) d;simp only at this;split at this
 ·rename_i x y e f;simp only[bK,jG]at this;refine⟨x,y,e,f,Ov this.1,this.2.imp (λq=>Ov q) λq=>?_⟩;simp only[DR,bK,eA]at q;exact⟨λr b=>SP (q.1 r b),SP q.2⟩
 ·cases this
theorem abd{a:Array Oper}{c:lK}(t:Mu a (kF P G n a) c){e cA:Env}{H Ut:ae}{k:List Rec}
 (h:jV K pm ((b8 (kF P G n a) c.ord).map (·.2)) H.next c.fixed e ⟨H.t,H.next+(kF P G n a).length⟩=some (cA,Ut,k)) (O:b3 k Ut c.lq=true) (Q:bZ k H.next k 0=true):
 ∃s:eV P G n a K pm,s.N=a.size/\s.aK=H.next/\s.E 0=e/\s.ca 0=⟨H.t,H.next+s.N⟩/\s.E s.N=cA/\s.ca s.N=Ut/\(∀p q,s.du p q->vO a (s.B p) (s.B q)=true)/\(∀p,p<s.N->a[s.B p]? = some (s.eY p))/\
  (∀p q,p<s.N->q<s.N->s.B p=s.B q->p=q)/\(∀i,i<a.size->∃p,p<s.N/\s.B p=i):=by
 obtain⟨z,u,I,J,x,m⟩:=OP h;generalize o:b8 (kF P G n a) c.ord=d at*
 have R:(kF P G n a).length=a.size:=by simp[kF]
 have A:d.length=a.size:=by have:=t.len;rw[o]at this;omega
 have S:k.length=a.size:=by have:=m.len;simpa [A]using this
 let f:Nat->Nat:=λp=>(yp d (0,⟨none,none,.bad ""⟩) p).1;let l:Nat->Oper:=λp=>(a[f p]?).getD Y4;have v:∀p,p<a.size->d[p]? = some (f p,e3 P G n a (l p))/\a[f p]? = some (l p):=by
  intro p g;have e:p<d.length:=by omega
  have h:d[p]? = some d[p]:=en e;have i:d[p]∈b8 (kF P G n a) c.ord:=by rw[o];exact tn e
  obtain⟨e,_⟩:=W6 i;have i:f p=d[p].1:=by simp only[f,yp,h,je]
  rw[<-i]at e;simp only[kF,jd,kX]at e
  cases q:a[f p]? with
  | none=>grind
  | some _=>
    grind
 have y:∀p,p<a.size->_:=λp g=>m.step p (e3 P G n a (l p)) (by grind);have C:∀p q,p<q->q<a.size->¬vO a (f p) (f q)=true->∃w,w5 p q (e3 P G n a (l p)) (e3 P G n a (l q))=some w/\∀S∈w,S∈c.lq:=by
  intro p q j b e;have:=RH d 0 c.lq (o▸t.lq) q _ (v q b).1 p _ (v p (by omega)).1 (by omega) (by simpa using e);rwa [Nat.zero_add]at this
 have T:∀i,i<=a.size->i=a.size∨∃r∈k,r.heap=u i:=by
  intro i D;by_cases q:i=a.size
  ·exact .inl q
  ·obtain⟨_,_,_,c⟩:=y i (by omega);exact .inr ⟨_,cX c,rfl⟩
 have U:u a.size=Ut:=by have:=m.Pf;simpa [A]using this
 have W:z a.size=cA:=by have:=m.OF;simpa [A]using this
 have L:∀p q,p<a.size->q<a.size->(p,q)∈c.lq->(∀A∈x p,A∉x q)/\((∀A∈x p,A∉J q)∨∀i,i<=a.size->∃A,(e3 P G n a (l q)).again (z q) (u i)=some A/\ni A (I q)=true):=by
  intro p q g b h;obtain⟨_,_,c,e,n,s⟩:=Wv O h;obtain⟨_,_,_,h⟩:=y p g;obtain⟨_,_,_,A⟩:=y q b;rw[h]at c;rw[A]at e;cases c;cases e;refine⟨n,s.imp id λ⟨B,_⟩ i D=>?_⟩
  rcases T i D with r | ⟨r,E,F⟩
  ·simp_all
  ·rw[<-F];exact B r E
 refine⟨{N:=a.size,aK:=H.next,B:=f,eY:=l,ct:=λp=>c.fixed.getD p false,du:=λp q=>vO a (f p) (f q)=true,E:=z,ca:=u,V:=I,F:=J,M:=x,run:=?_,put:=?_,own:=?_,apart:=?_,wr:=?_,J2:=?_,fixed:=?_,made:=?_},rfl,rfl,m.OE,?_,W,U,λp q h=>h,λp g=>(v p g).2,λp q g b j=>?_,λi D=>?_⟩
 ·simp_all
 ·simp_all
 ·simp_all
 ·intro p q j b c;obtain⟨w,e,_⟩:=C p q j b c;exact(IE e).1
 ·intro p q j b c _ _;obtain⟨w,e,h⟩:=C p q j b c;exact L p q (by omega) b (h _ ((IE e).2.1 (by simp_all)))
 ·intro p q j b c _ _;obtain⟨w,e,h⟩:=C p q j b c;exact L q p b (by omega) (h _ ((IE e).2.2 (by simp_all)))
 ·intro p g c q b _ e;rw[t.fixed,o]at c;have:=OY d 0 p _ (v p g).1 c;rw[Nat.zero_add]at this;have:=OZ d 0 q _ (v q b).1 this (by omega) e;simp_all
 ·intro q b p g c _;obtain⟨_,_,_,e⟩:=y q b;have:=Qq k 0 q _ e Q p (by omega) c (by omega);simp_all
 ·show u 0=⟨H.t,H.next+a.size⟩;rw[m.aP,R]
 ·have c:=W7 (an:=kF P G n a) t.ao;rw[o,List.pairwise_iff_getElem]at c;apply o3;intro i;have e:p<d.length:=by simp only at g;omega
  have h:q<d.length:=by simp only at b;omega
  have b:f p=d[p].1:=by simp only[f,yp,en e,je]
  have cA:f q=d[q].1:=by simp only[f,yp,en h,je]
  simp only[b,cA]at j
  rcases Nat.lt_or_gt_of_ne i with r | r
  ·simp_all
  ·exact c q p h e r j.symm
 ·have c:=t.cover i (by omega);obtain⟨b,e⟩:∃b,(kF P G n a)[i]? = some b:=⟨_,en (by omega)⟩;have a:(i,b)∈d:=by
   rw[<-o];unfold b8;rw[List.mem_filterMap];exact⟨i,c,by rw[e];rfl⟩
  obtain⟨p,g,b⟩:=tp a;refine⟨p,by simp only;omega,?_⟩;simp only[f,yp,en g,je,b]
theorem eV.facts{b:Array Oper}(s:eV P G n b K pm)(b:eJ O P G K)(c:pm.num=none){γ:aT}{H:ae}{w:World}{a:Act}(d:s.aK=H.next)(e:pm.ah<=s.aK)(f:s.ca 0=⟨H.t,H.next+s.N⟩)(g:Rel O base γ H w)(h:dG γ n (s.E 0) a)(i:fX G γ):∀q,q<s.N->s.Fact q:=
 (s.chain b c d e f g h i s.N (bc _)).2
theorem WQ{a:Array Bool}{i j:Nat}(b:i<a.size):(a.setIfInBounds i true).getD j true=true↔a.getD j true=true∨j=i:=by
 simp only[l4];grind
theorem dG.congr{γ:aT}{e b:Env}{a:Act}(h:dG γ n e a)(a':∀t,b.get t=e.get t):dG γ n b a:=⟨h.size,h.Q,h.defers,λt v _=>h.get t v (by grind)⟩
theorem U0{g:Array Oper}{s:eV P G n g K pm}{gW:aT}{ai:ae}{h3:World}{Q:Exit->Act->World->Prop}(u:re g=true)(F:s.N=g.size)(C:∀p q,s.du p q->vO g (s.B p) (s.B q)=true)(v:∀p,p<s.N->g[s.B p]? = some (s.eY p))
 (D:∀p q,p<s.N->q<s.N->s.B p=s.B q->p=q) (M:∀i,i<g.size->∃p,p<s.N/\s.B p=i)
 (E:∀q,q<s.N->s.Fact q) (N:s.aK=ai.next) (R:pm.ah<=s.aK) (aP:∀b,s.aK<=b->(s.ca 0).get b=none) (S:s.aK<=(s.ca 0).next) (U:eJ O P G K) (V:pm.num=none) (W:fX G gW)
 (X:∀F H I,dG F n (s.E s.N) H->Step O base pm gW ai h3 F (s.ca s.N) I->Q .normal H I):
 ∀(d:Nat) (c:Array Bool) (e:Env) (J:ae) (γ:aT) (a:Act) (w:World),c.size=g.size->mH c.toList<=d->
  (∀j o,c.getD j true=true->g[j]? = some o->∀e∈o.after,Region.binds .any e=true->c.getD e.on true=true)->
  eV.Inv O base s (λp=>c.getD (s.B p) true=true) gW ai h3 e J γ a w->wpAny P .any g Q d c a w:=by
 intro d;have F:∀p,p<s.N->s.B p<g.size:=λp f=>(gT.1 (v p f)).1;have L:∀(c:Array Bool) (e:Env) (J:ae) (γ:aT) (a:Act) (w:World),(∀i,i<g.size->c.getD i true=true)->eV.Inv O base s (λp=>c.getD (s.B p) true=true) gW ai h3 e J γ a w->Q .normal a w:=by
  intro c e J γ a w A d;have i:∀p,p<s.N->(p<s.N↔c.getD (s.B p) true=true):=λp f=>⟨λ_=>A _ (F p f),λ_=>f⟩;have l:=d.next s.N (bc _) λk h _=>i k h;refine X γ a w (d.nI.congr λt=>(d.fN t s.N (bc _) λk h _=>i k h).symm) ?_;refine d.step.congr (λb m n=>(d.fi b s.N (bc _) (λp f q=>?_) λk h _=>i k h).symm) (Nat.le_of_eq l) (λb j=>?_) λb j o=>?_
  ·subst q;exact d.known p f m n
  ·cases a:s.N with
   | zero=>
     grind
   | succ k=>
     rw[a]at j;exact(E k (by omega)).new b j
  ·rw[<-d.fi b s.N (bc _) (λp f q=>by omega) λk h _=>i k h];exact d.step.kO b j o
 have A:∀(c:Array Bool),c.size=g.size->Region.ready .any g c=[]->∀x i,i<x->i<g.size->c.getD i true=true:=by
  intro c _ _ x
  induction x with
  | zero=>grind
  | succ x ih=>
    intro i _ b
    cases d:c.getD i true with
    | true=>rfl
    | false=>
      have a:g[i]? = some g[i]:=mT b;have:i∈Region.ready .any g c:=mem_ready.2 ⟨d,_,a,λe b h=>by
       have i:=OG u a b h;have:=ih e.on (by omega) (by omega);rw[l4,mT (by omega)]at this|-;exact this⟩
      grind
 have Y:∀(c:Array Bool),c.size=g.size->mH c.toList=0->∀i,i<g.size->c.getD i true=true:=by
  intro c _ a i _
  cases b:c.getD i true with
  | true=>rfl
  | false=>
    rw[l4,mT (by omega)]at b;refine(QR (i:=i) a ?_).elim;grind
 induction d with
 | zero=>
   intro c e J γ a w b _ _ d;have h:=Y c b (by omega);refine⟨?_,L c e J γ a w h d⟩
   cases i:Region.ready .any g c with
   | nil=>rfl
   | cons x _=>
     have a:x∈Region.ready .any g c:=by rw[i];exact .head _
     obtain⟨_,o,_,_⟩:=mem_ready.1 a;grind
 | succ d ih=>
   intro c e J γ a w g _ y x;refine⟨λF=>L c e J γ a w (λi d=>A c g F (i+1) i (by omega) d) x,λi d=>?_⟩;obtain⟨A,o,n,F⟩:=mem_ready.1 d;have H:=(gT.1 n).1;obtain⟨j,z,r⟩:=M i H;have H:o=s.eY j:=by
    have:=v j z;rw[r,n]at this;exact jH this
   have G:∀e∈o.after,Region.binds .any e=true->c.getD e.on true=true:=λe t h=>by
    have:=F e t h;have a:=OG u n t h;grind
   have F:s.Ready (λp=>c.getD (s.B p) true=true) j:=by
    refine⟨z,by grind,λp q f a h b=>?_,λp f h=>?_⟩
    ·have:=C p q h;exact Fb (T:=λi=>c.getD i true=true) u y _ (s.B q) (s.B p) _ (qq _) (v q a) (y _ _ b (v q a)) this
    ·have:=C p j h;rw[r]at this;exact Fb (T:=λi=>c.getD i true=true) u y _ i (s.B p) o (qq _) n G this
   have B:∀k,(c.setIfInBounds i true).getD k true=true↔c.getD k true=true∨k=i:=λk=>WQ (by omega);have u:c[i]? = some false:=by
    rw[l4,mT (by omega)]at A;rw[mT (by omega)];exact congrArg some A
   unfold wpOp;rw[n];simp only;rw[H];refine x.oper E N R aP S U V W F λv x A C E m=>?_;refine ih (c.setIfInBounds i true) v x A C E (by simpa using g) ?_ ?_ ?_
   ·have:=QQ (l:=c.toList) (i:=i) (by simpa using u);rw[Array.toList_setIfInBounds];omega
   ·intro k i a b e t h;rw[B]at a|-
    rcases a with a | a
    ·exact .inl (y k i a b e t h)
    ·subst a;rw[n]at b;cases b;exact .inl (G e t h)
   ·have a:(λp=>(c.getD (s.B p) true=true)∨p=j)=λp=>p<s.N/\(c.setIfInBounds i true).getD (s.B p) true=true∨¬p<s.N/\((c.getD (s.B p) true=true)∨p=j):=by
     funext p;by_cases f:p<s.N
     ·simp only[f,true_and,not_true_eq_false,false_and,or_false,B,eq_iff_iff];refine or_congr Iff.rfl ⟨λq=>q▸r,λq=>D p j f z (q.trans r.symm)⟩
     ·simp[f]
    have e:∀p,p<s.N->(((c.getD (s.B p) true=true)∨p=j)↔(c.setIfInBounds i true).getD (s.B p) true=true):=λp f=>by
     rw[B];exact or_congr Iff.rfl ⟨λq=>q▸r,λq=>D p j f z (q.trans r.symm)⟩
    exact⟨m.nI,m.step,m.jB,λt i d c=>m.fN t i d λk a g=>(c k a g).trans (e k a).symm,
     λb i d g c=>m.fi b i d (λp f q=>⟨(e p f).2 (g p f q).1,(g p f q).2⟩) λk a g=>(c k a g).trans (e k a).symm,
     λi d c=>m.next i d λk a g=>(c k a g).trans (e k a).symm,
     λp f L a=>⟨(e p f).1 (m.known p f L a).1,(m.known p f L a).2⟩⟩
theorem yZ(o:P.follows .mixedOrders=true):A0 O P G:=by
 intro K e pm f n id a _ base p _ g γ H _ w d c h i q;obtain⟨_,_,k,_,r,u,v⟩:=Wt d;have j:=VM k;obtain⟨s,x,k,d,l,y,z,A,m,B,C⟩:=abd j r u v;have r:dG γ n (s.E 0) g:=d▸h;have d:=s.facts e f k (by omega) l c r i;have r:∀b,s.aK<=b->(s.ca 0).get b=none:=λb _=>by rw[l];exact c.new b (by omega)
 refine wp_region_any o ?_;refine U0 (gW:=γ) (ai:=H) (h3:=w) j.down x A m B C d k (by omega) r (by grind) e f i (λe f i j k=>q e f i (y▸j) (z▸k)) a.size (Array.replicate a.size false) p ⟨H.t,H.next+s.N⟩ γ g _ (by simp) (by simp[QP]) ?_ ?_
 ·intro _ _ b e;exfalso;have:=(gT.1 e).1;rw[l4]at b;grind
 ·have e:∀p,p<s.N->¬((Array.replicate a.size false).getD (s.B p) true=true):=λp f=>by
   have:=(gT.1 (m p f)).1;rw[l4];simp[this]
  have a:∀i,i<=s.N->∀a,a=i->True:=λ_ _ _ _=>trivial;refine⟨h,Step.Se c s.N _,by grind,λt i g a=>?_,λb i g _ a=>?_,λi g a=>?_,λp f _ f=>?_⟩
  ·have:=s.GH (t:=t) 0 i (by omega) λk _ _ b=>e k (by omega) ((a k (by omega) b).1 (by omega));grind
  ·have:=s.zh d (b:=b) 0 i (by omega) λk _ _ g=>e k (by omega) ((a k (by omega) g).1 (by omega));grind
  ·have:=s.HO d 0 i (by omega) λk _ _ b=>e k (by omega) ((a k (by omega) b).1 (by omega));grind
  ·have:=c.lt _ _ f;omega
end
theorem pL{a b:Nat} (h:a≠b:=by omega):Nat.beq a b=false:=by rw[dc];simp[h]
theorem jt{α:Type}(x:α)(k:α->Out):cb (some x) k=k x:=rfl
theorem oK(b:Bool)(x y:Out):e' b x y=bif b then x else y:=by cases b<;>rfl
theorem RN(f:Nat):mR (f+1) 0=[]:=rfl
theorem RM(f j:Nat):mR (f+1) (2*j+1)=true::mR f j:=by
 have a:Nat.beq (2*j+1) 0=false:=pL;have b:Nat.beq (Nat.mod (2*j+1) 2) 1=true:=by
  rw[show Nat.mod (2*j+1) 2=(2*j+1)%2 from rfl,show(2*j+1)%2=1 by omega];rfl
 have c:Nat.div (2*j+1) 2=j:=by rw[show Nat.div (2*j+1) 2=(2*j+1)/2 from rfl];omega
 simp only[mR,a,b,c,cond_true,cond_false]
theorem RL(f j:Nat):mR (f+1) (2*j+2)=false::mR f j:=by
 have c:Nat.beq (2*j+2) 0=false:=pL;have d:Nat.beq (Nat.mod (2*j+2) 2) 1=false:=by
  rw[show Nat.mod (2*j+2) 2=(2*j+2)%2 from rfl,show(2*j+2)%2=0 by omega];rfl
 have e:Nat.sub (Nat.div (2*j+2) 2) 1=j:=by rw[show Nat.div (2*j+2) 2=(2*j+2)/2 from rfl,show ∀a b,Nat.sub a b=a-b from λ_ _=>rfl];omega
 simp only[mR,c,d,e,cond_false]
theorem three(k:Nat):k=0∨(∃j,k=2*j+1)∨∃j,k=2*j+2:=by
 rcases zP k with h | h
 ·exact .inl h
 ·rcases Nat.mod_two_eq_zero_or_one k with a | a
  ·exact .inr (.inr ⟨k/2-1,by omega⟩)
  ·exact .inr (.inl ⟨k/2,by omega⟩)
theorem Ch{α:Type}(l r:b6 α)(v:Option α)(j:Nat):(b6.ao l v r).get (2*j+1)=l.get j:=by
 have a:Nat.beq (2*j+1) 0=false:=pL;have b:Nat.beq ((2*j+1)%2) 1=true:=by rw[show(2*j+1)%2=1 by omega];rfl
 simp only[b6.get,a,b,cond_true,cond_false,show(2*j+1)/2=j by omega]
theorem Cf{α:Type}(l r:b6 α)(v:Option α)(j:Nat):(b6.ao l v r).get (2*j+2)=r.get j:=by
 have a:Nat.beq (2*j+2) 0=false:=pL;have b:Nat.beq ((2*j+2)%2) 1=false:=by rw[show(2*j+2)%2=0 by omega];rfl
 simp only[b6.get,a,b,cond_false,show(2*j+2)/2-1=j by omega]
theorem G3:∀(f k:Nat) (e:Env) (c:Value->Out),k<f->(O' (mR f k)).g e c=cb (e.get k) c
 | 0,_,_,_,_=>by omega
 | f+1,k,e,c,_=>by
   rcases three k with rfl | ⟨j,rfl⟩ | ⟨j,rfl⟩
   ·rw[RN];cases e<;>rfl
   ·rw[RM]
    cases e with
    | ag=>rfl
    | ao l _ _=>
      rw[Ch];exact G3 f j l c (by omega)
   ·rw[RL]
    cases e with
    | ag=>rfl
    | ao _ _ r=>
      rw[Cf];exact G3 f j r c (by omega)
theorem Jz(n:Nat)(e:Env)(c:Value->Out):(xI n).g e c=cb (e.get n) c:=G3 (n+1) n e c (qq n)
theorem aa3{α:Type}(x:α)(l r:b6 α)(v:Option α)(j:Nat):(b6.ao l v r).set x (2*j+1)=.ao (l.set x j) v r:=by
 have a:Nat.beq (2*j+1) 0=false:=pL;have b:Nat.beq ((2*j+1)%2) 1=true:=by rw[show(2*j+1)%2=1 by omega];rfl
 simp only[b6.set,a,b,cond_true,cond_false,show(2*j+1)/2=j by omega]
theorem aa1{α:Type}(x:α)(l r:b6 α)(v:Option α)(j:Nat):(b6.ao l v r).set x (2*j+2)=.ao l v (r.set x j):=by
 have a:Nat.beq (2*j+2) 0=false:=pL;have b:Nat.beq ((2*j+2)%2) 1=false:=by rw[show(2*j+2)%2=0 by omega];rfl
 simp only[b6.set,a,b,cond_false,show(2*j+2)/2-1=j by omega]
theorem CP{α:Type}(x:α):∀(f g k:Nat),k<f->k<g->b6.one x f k=b6.one x g k
 | 0,_,_,_,_=>by omega
 | _,0,_,_,_=>by omega
 | f+1,g+1,k,_,_=>by
   simp only[b6.one]
   cases a:Nat.beq k 0 with
   | true=>rfl
   | false=>
     have b:k≠0:=by rw[dc]at a;simpa using a
     simp only[cond_false];rw[CP x f g (k/2) (by omega) (by omega),CP x f g (k/2-1) (by omega) (by omega)]
theorem DJ{α:Type}(x:α)(k:Nat):(b6.ag:b6 α).set x k=b6.one x (k+1) k:=rfl
theorem ZT{α:Type}(x:α)(f j:Nat):b6.one x (f+1) (2*j+1)=.ao (b6.one x f j) none .ag:=by
 have a:Nat.beq (2*j+1) 0=false:=pL;have b:Nat.beq ((2*j+1)%2) 1=true:=by rw[show(2*j+1)%2=1 by omega];rfl
 simp only[b6.one,a,b,cond_true,cond_false,show(2*j+1)/2=j by omega]
theorem ZS{α:Type}(x:α)(f j:Nat):b6.one x (f+1) (2*j+2)=.ao .ag none (b6.one x f j):=by
 have a:Nat.beq (2*j+2) 0=false:=pL;have b:Nat.beq ((2*j+2)%2) 1=false:=by rw[show(2*j+2)%2=0 by omega];rfl
 simp only[b6.one,a,b,cond_false,show(2*j+2)/2-1=j by omega]
theorem Aj:∀(f k:Nat) (x:Value) (e:Env),k<f->(SW (mR f k)).s x e=e.set x k
 | 0,_,_,_,_=>by omega
 | f+1,k,x,e,_=>by
   rcases three k with rfl | ⟨j,rfl⟩ | ⟨j,rfl⟩
   ·rw[RN];cases e<;>rfl
   ·rw[RM]
    cases e with
    | ag=>
      rw[DJ,ZT,CP x (2*j+1) (j+1) j (by omega) (by omega),<-DJ];exact congrArg (λt=>b6.ao t none b6.ag) (Aj f j x .ag (by omega))
    | ao l v r=>
      rw[aa3];exact congrArg (λt=>b6.ao t v r) (Aj f j x l (by omega))
   ·rw[RL]
    cases e with
    | ag=>
      rw[DJ,ZS,CP x (2*j+2) (j+1) j (by omega) (by omega),<-DJ];exact congrArg (λt=>b6.ao b6.ag none t) (Aj f j x .ag (by omega))
    | ao l v r=>
      rw[aa1];exact congrArg (λt=>b6.ao l v t) (Aj f j x r (by omega))
theorem S'(n:Nat)(x:Value)(e:Env):(DN n).s x e=e.set x n:=Aj (n+1) n x e (qq n)
theorem kd(r:b0)(e:Env)(c:Value->Out):(eb r).g e c=cb (a7 e r) c:=by
 cases r with
 | t n=>exact Jz n e c
 | c _=>rfl
theorem aag(d:Option Nat)(v:Value)(e:Env):(IT d).s v e=putDst e d v:=by
 cases d with
 | none=>rfl
 | some d=>exact S' d v e
theorem OQ:∀(l:List b0) (e:Env) (c:List Value->Out),(B8 l).f e c=cb (eO e l) c
 | [],e,c=>rfl
 | r::l,e,c=>by
   show(eb r).g e (λv=>(B8 l).f e λt=>c (v::t))=_;rw[kd];simp only[eO]
   cases a7 e r with
   | none=>rfl
   | some v=>
     simp only[jt];rw[OQ l];cases eO e l<;>rfl
theorem G2:∀(f b:Nat) (t:b6 bz) (k:bz->Out),b<f->Ce f b t k=cb (t.get b) k
 | 0,_,_,_,_=>by omega
 | f+1,b,t,k,_=>by
   cases t with
   | ag=>rfl
   | ao l v r=>
     show e' (Nat.beq b 0) (cb v k) (e' (Nat.beq (Nat.mod b 2) 1) (Ce f (Nat.div b 2) l k) (Ce f (Nat.sub (Nat.div b 2) 1) r k))=_;have c:∀a,Nat.mod a 2=a%2:=λ_=>rfl;have d:∀a,Nat.div a 2=a/2:=λ_=>rfl;have e:∀a,Nat.sub a 1=a-1:=λ_=>rfl
     rcases three b with rfl | ⟨j,rfl⟩ | ⟨j,rfl⟩
     ·rfl
     ·rw[Ch,c,d,show(2*j+1)%2=1 by omega,show(2*j+1)/2=j by omega];have a:Nat.beq (2*j+1) 0=false:=pL;rw[a];exact G2 f j l k (by omega)
     ·rw[Cf,c,d,e,show(2*j+2)%2=0 by omega,show(2*j+2)/2-1=j by omega];have a:Nat.beq (2*j+2) 0=false:=pL;rw[a];exact G2 f j r k (by omega)
theorem Nz(H:ae)(b:Nat)(k:bz->Out):vP H b k=cb (H.get b) k:=G2 (b+1) b H.t k (qq b)
theorem zs{α:Type}:∀(l:List α) (n:Nat) (k:α->Out),mI l n k=cb l[n]? k
 | [],n,k=>by rfl
 | x::l,0,k=>rfl
 | x::l,n+1,k=>by
   rw[rR];exact zs l n k
theorem SV(x:Value):∀(l:List Value) (n:Nat) (k:List Value->Out),kq x l n k=cb (setCells l n [x]) k
 | [],n,k=>by rfl
 | y::l,0,k=>by
   rfl
 | y::l,n+1,k=>by
   show kq x l n (λr=>k (y::r))=_;rw[SV x l n];simp only[setCells,cJ,iK,List.length_nil];by_cases h:n+(0+1)<=l.length
   ·rw[hd h,hd (by omega)];rfl
   ·rw[j1 h,j1 (by omega)];rfl
theorem Co(a b:IntKind):rr a b=decide (a=b):=by cases a<;>cases b<;>rfl
theorem NI:∀(a b:List UInt8),yx a b=(a==b)
 | [],[]=>rfl
 | [],_::_=>rfl
 | _::_,[]=>rfl
 | a::x,b::y=>by
   have h:Nat.beq a.toNat b.toNat=(a==b):=by
    rw[dc];by_cases q:a=b
    ·subst q;simp
    ·rw[j1 (λe=>q (zT.1 e))];simp[q]
   simp only[yx,h,NI x y];show _=(a==b&&x==y);cases (a==b)<;>rfl
theorem Nh(d:BinOp)(f:Int->Int->Int)(g:∀k a b,ha d k a b=some (.int k (wr k (f a b))))(h:∀s t,tG d s t=none)(x y:Value)(k:Value->Out):E7 f x y k=cb (w8 d x y) k:=by
 cases x<;>first | rfl | skip
 case int c a=>
  cases y<;>first | rfl | skip
  case int e b=>
   show e' (rr c e) (k (.int c (wr c (f a b)))) none=cb (if c=e then ha d c a b else none) k;rw[Co,oK,g];by_cases i:c=e<;>simp[i,cb]
 case string s=>
  cases y<;>first | rfl | skip
  case string t=>
   show none=cb (tG d s t) k;rw[h];rfl
theorem BJ(c:BinOp)(f:Int->Int->Bool)(g:∀k a b,ha c k a b=some (.bool (f a b)))(x y:Value)(k:Value->Out):yO c f x y k=cb (w8 c x y) k:=by
 cases x<;>first | rfl | skip
 case int d a=>
  cases y<;>first | rfl | skip
  case int e b=>
   show e' (rr d e) (k (.bool (f a b))) none=cb (if d=e then ha c d a b else none) k;rw[Co,oK,g];by_cases h:d=e<;>simp[h,cb]
 case string _=>
  cases y<;>rfl
theorem OL(neg:Bool)(q:lL)(x y:Value)(k:Value->Out):(y2 neg q).f x y k=cb (match k4 q x y with | some b=>some (.bool (xor neg b)) | none=>none) k:=by
 cases q with
 | bR=>
   cases x<;>first | rfl | skip
   case int a d=>
    cases y<;>first | rfl | skip
    case int c b=>
     show e' (rr a c) (k (.bool (xor neg (hS d b)))) none=cb (match (if a=c then some (hS d b) else none) with | some b=>some (.bool (xor neg b)) | none=>none) k;rw[Co,oK];by_cases h:a=c<;>simp[h,cb]
   case string s=>
    cases y<;>first | rfl | skip
    case string t=>
     show k (.bool (xor neg (yx s.data.toList t.data.toList)))=cb (match some (s.toList==t.toList) with | some b=>some (Value.bool (xor neg b)) | none=>none) k;rw[NI,Go.ByteArray.toList_eq,Go.ByteArray.toList_eq];rfl
 | bool=>
   cases x<;>first | rfl | skip
   cases y<;>rfl
 | nil n=>
   show cb (kJ n x y) (λb=>k (.bool (xor neg b)))=cb (match kJ n x y with | some b=>some (.bool (xor neg b)) | none=>none) k;cases kJ n x y<;>rfl
 | cells e=>
   show cb (k4 (.cells e) x y) (λb=>k (.bool (xor neg b)))=_;cases k4 (.cells e) x y<;>rfl
theorem Vj(b:BinOp)(q:lL)(x y:Value)(k:Value->Out):(Fc b q).f x y k=cb (binOp b q x y) k:=by
 cases b<;>first | rfl | skip
 case add=>
  cases x<;>first | rfl | skip
  case int a e=>
   cases y<;>first | rfl | skip
   case int c f=>
    show e' (rr a c) (k (.int a (wr a (Int.add e f)))) none=cb (if a=c then ha .add a e f else none) k;rw[Co,oK];by_cases h:a=c
    ·rw[hd h,aL h];rfl
    ·rw[j1 h,aw h];rfl
  case string s=>
   cases y<;>first | rfl | skip
   case string t=>
    show e' _ (k (.string (br s t))) none=cb (bif Nat.ble (s.size+t.size) 4294967296 then some (.string (br s t)) else none) k;rw[oK];cases Nat.ble (s.size+t.size) 4294967296<;>rfl
 case sub=>exact Nh .sub _ (λ_ _ _=>rfl) (λ_ _=>rfl) x y k
 case mul=>exact Nh .mul _ (λ_ _ _=>rfl) (λ_ _=>rfl) x y k
 case lss=>exact BJ .lss _ (λ_ _ _=>rfl) x y k
 case leq=>exact BJ .leq _ (λ_ _ _=>rfl) x y k
 case gtr=>exact BJ .gtr _ (λ_ _ _=>rfl) x y k
 case geq=>exact BJ .geq _ (λ_ _ _=>rfl) x y k
 case eql=>
  show(y2 false q).f x y k=_;rw[OL];show _=cb (match k4 q x y with | some d=>some (.bool d) | none=>none) k
  cases k4 q x y with
  | none=>rfl
  | some d=>cases d<;>rfl
 case neq=>
  show(y2 true q).f x y k=_;rw[OL];show _=cb (match k4 q x y with | some d=>some (.bool (!d)) | none=>none) k
  cases k4 q x y with
  | none=>rfl
  | some d=>cases d<;>rfl
theorem Ro(v:Value):CO v=dd v:=by cases v<;>rfl
theorem yk(o:bh)(K:cv)(ah:Perm)(e:Env)(H:ae)(k:Value->ae->Out):(yj o).f K ah e H k=cb (o.run K ah e H) λp=>k p.1 p.2:=rfl
theorem vb{o:Option Value}{ah:Perm}{H:ae}{k:Value->ae->Out}:cb ((gx o).run ah H) (λp=>k p.1 p.2)=cb o λu=>k u H:=by cases o<;>rfl
theorem vk{o:Option Value}{f:Value->bf}{ah:Perm}{H:ae}{k:Value×ae->Out}:cb ((dC o f).run ah H) k=cb o λv=>cb ((f v).run ah H) k:=by cases o<;>rfl
theorem Rq(o:bh)(K:cv)(ah:Perm)(e:Env)(H:ae)(k:Value->ae->Out):(CQ o).f K ah e H k=cb (o.run K ah e H) λp=>k p.1 p.2:=by
 cases o<;>try exact yk _ K ah e H k
 case dw x=>
  show(eb x).g e (λv=>k v H)=cb ((gx (a7 e x)).run ah H) λp=>k p.1 p.2;rw[kd,vb]
 case pick g a b=>
  show(eb g).g e (λv=>v7 v λt=>e' t ((eb a).g e λu=>k u H) ((eb b).g e λu=>k u H))=cb ((bh.J e (.pick g a b)).run ah H) λp=>k p.1 p.2;simp only[bh.J,kd,vk];congr 1;funext v;cases v<;>try rfl
  case bool t=>
   cases t
   ·exact vb.symm
   ·exact vb.symm
 case box t x=>
  show(eb x).g e (λv=>k (ptr (ah.pick H)) (ah.make H (.cells v.cells.toList (.t t))))=cb ((bh.J e (.box t x)).run ah H) λp=>k p.1 p.2;simp only[bh.J,kd,vk];rfl
 case load G n a=>
  cases G with
  | true=>exact yk _ K ah e H k
  | false=>
    show(eb a).g e (λv=>pS v λc=>vP H c.block λx=>Gk x λd=>mI d c.off λu=>k u H)=cb ((bh.J e (.load false n a)).run ah H) λp=>k p.1 p.2;simp only[bh.J,kd]
    cases a7 e a with
    | none=>rfl
    | some v=>
      simp only[jt];cases v<;>try rfl
      case pointer p=>
       cases p with
       | none=>rfl
       | some c=>
         show vP H c.block (λx=>Gk x λd=>mI d c.off λu=>k u H)=_;rw[Nz];simp only[mr,bf.run]
         cases H.get c.block with
         | none=>rfl
         | some x=>
           simp only[jt];cases x<;>try rfl
           case cells d _=>
            show mI d c.off (λu=>k u H)=cb ((gx d[c.off]?).run ah H) λp=>k p.1 p.2;rw[zs,vb]
           case ro d=>
            show mI d c.off (λu=>k u H)=cb ((gx d[c.off]?).run ah H) λp=>k p.1 p.2;rw[zs,vb]
 case store n a x=>
  show(@Bool.rec (λ_=>sE) (yj (.store n a x)) _ (Nat.beq n 1)).f K ah e H k=_
  cases j:Nat.beq n 1 with
  | false=>exact yk _ K ah e H k
  | true=>
    have m:n=1:=by rw[dc]at j;simpa using j
    subst m;show(eb a).g e (λv=>pS v λc=>(eb x).g e λu=>e' (CO u) (vP H c.block λy=>Om y λd z=>kq u d c.off λd=>e' (ah.may c.block) (k aR (H.put c.block (.cells d z))) none) (cb ((bh.store 1 a x).run (λ_ _ _ _=>none) ah e H) λp=>k p.1 p.2))=cb ((bh.J e (.store 1 a x)).run ah H) λp=>k p.1 p.2;simp only[kd]
    cases h:a7 e a with
    | none=>simp[bh.J,h,nH,bf.run,cb]
    | some v=>
      simp only[jt];cases v<;>try (simp only[bh.J,h,nH];rfl)
      case pointer p=>
       cases p with
       | none=>simp only[bh.J,h,nH];rfl
       | some c=>
         show cb (a7 e x) _=_
         cases l:a7 e x with
         | none=>simp only[bh.J,h,l,nH];rfl
         | some u=>
           simp only[jt];rw[oK]
           cases e:CO u with
           | false=>rfl
           | true=>
             have o:u.cells=#[u]:=by cases u<;>first | rfl | (exact absurd e (by rw[Ro];simp[dd]))
             simp only[cond_true,bh.J,h,l,nH,o];show _=cb ((putRow c [u] (.ret aR)).run ah H) λp=>k p.1 p.2;simp only[putRow,bf.run];rw[Nz]
             cases H.get c.block with
             | none=>rfl
             | some y=>
               simp only[jt];cases y<;>try rfl
               case cells d z=>
                show kq u d c.off (λd=>e' (ah.may c.block) (k aR (H.put c.block (.cells d z))) none)=_;have p:[u].all dd=true:=by simp[<-Ro,e]
                simp only[p,cond_true];rw[SV];cases setCells d c.off [u]with
                | none=>rfl
                | some d=>
                  simp only[jt,bf.run];rw[oK];cases ah.may c.block<;>rfl
 case nilCheck x=>
  show(eb x).g e (λv=>pS v λc=>k (.pointer (some c)) H)=cb ((bh.J e (.nilCheck x)).run ah H) λp=>k p.1 p.2;simp only[bh.J,kd,vk];congr 1;funext v;cases v<;>try rfl
  case pointer p=>cases p<;>rfl
 case bin A B x y=>
  show(eb x).g e (λa=>(eb y).g e λb=>(Fc A B).f a b λv=>k v H)=cb ((bh.J e (.bin A B x y)).run ah H) λp=>k p.1 p.2;simp only[bh.J,kd,vk,Vj,vb]
 case conv g x=>
  cases g<;>try exact yk _ K ah e H k
  case int r=>
   show(eb x).g e (λv=>sQ v λ_ n=>k (.int r (wr r n)) H)=cb ((bh.J e (.conv (.int r) x)).run ah H) λp=>k p.1 p.2;simp only[bh.J,kd,vk];congr 1;funext v;cases v<;>rfl
 case fieldAddr C x=>
  show(eb x).g e (λv=>pS v λc=>k (.pointer (some ⟨c.block,Nat.add c.off C,none⟩)) H)=cb ((bh.J e (.fieldAddr C x)).run ah H) λp=>k p.1 p.2;simp only[bh.J,kd,vk];congr 1;funext v;cases v<;>try rfl
  case pointer p=>cases p<;>rfl
 case lV f x i=>
  show(eb x).g e (λv=>(eb i).g e λu=>BR v λo d _=>cb o λc=>v8 u λj=>e' (Nat.ble (Nat.succ j) d) (k (.pointer (some ⟨c.block,Nat.add c.off (Nat.mul j f),none⟩)) H) none)=cb ((bh.J e (.lV f x i)).run ah H) λp=>k p.1 p.2;simp only[bh.J,kd]
  cases a7 e x with
  | none=>rfl
  | some v=>
    cases a7 e i with
    | none=>cases v<;>try rfl
            case slice b _ _=>cases b<;>rfl
    | some u=>
      simp only[jt];cases v<;>try rfl
      case slice b q _=>
       cases b with
       | none=>rfl
       | some c=>
         cases u<;>try rfl
         case int _ n=>
          cases n with
          | negSucc _=>rfl
          | ofNat j=>
            show e' (Nat.ble (Nat.succ j) q) _ none=cb ((bif Nat.blt j q then bf.ret (.pointer (some ⟨c.block,c.off+j*f,none⟩)) else .fail).run ah H) λp=>k p.1 p.2;rw[oK];show(bif Nat.blt j q then _ else _)=_;cases Nat.blt j q<;>rfl
 case uH n f x i=>
  show(eb x).g e (λv=>(eb i).g e λu=>pS v λc=>v8 u λj=>e' (Nat.ble (Nat.succ j) n) (k (.pointer (some ⟨c.block,Nat.add c.off (Nat.mul j f),none⟩)) H) none)=cb ((bh.J e (.uH n f x i)).run ah H) λp=>k p.1 p.2;simp only[bh.J,kd]
  cases a7 e x with
  | none=>rfl
  | some v=>
    cases a7 e i with
    | none=>cases v<;>try rfl
            case pointer b=>cases b<;>rfl
    | some u=>
      simp only[jt];cases v<;>try rfl
      case pointer b=>
       cases b with
       | none=>rfl
       | some c=>
         cases u<;>try rfl
         case int _ D=>
          cases D with
          | negSucc D=>rfl
          | ofNat j=>
            show e' (Nat.ble (Nat.succ j) n) _ none=cb ((bif Nat.blt j n then bf.ret (.pointer (some ⟨c.block,c.off+j*f,none⟩)) else .fail).run ah H) λp=>k p.1 p.2;rw[oK];show(bif Nat.blt j n then _ else _)=_;cases Nat.blt j n<;>rfl
 case mB x i=>
  show(eb x).g e (λv=>(eb i).g e λu=>um v λs=>v8 u λj=>mI s.data.toList j λb=>k (.int .u8 (.ofNat b.toNat)) H)=cb ((bh.J e (.mB x i)).run ah H) λp=>k p.1 p.2;simp only[bh.J,kd]
  cases a7 e x with
  | none=>rfl
  | some v=>
    cases a7 e i with
    | none=>cases v<;>rfl
    | some u=>
      simp only[jt];cases v<;>try rfl
      case string s=>
       cases u<;>try rfl
       case int _ E=>
        cases E with
        | negSucc E=>rfl
        | ofNat j=>
          show mI s.data.toList j (λb=>k (.int .u8 (.ofNat b.toNat)) H)=cb ((match s.data.toList[j]? with | some b=>bf.ret (.int .u8 (b.toNat:Int)) | none=>.fail).run ah H) λp=>k p.1 p.2;rw[zs];cases s.data.toList[j]?<;>rfl
 case k2 x a b=>
  show(eb x).g e (λv=>um v λs=>cb (ed e 0 a) λl=>cb (ed e s.size b) λh=>e' (Nat.ble l h&&Nat.ble h s.size) (k (.string (b1 s l h)) H) none)=cb ((bh.J e (.k2 x a b)).run ah H) λp=>k p.1 p.2;simp only[bh.J,kd]
  cases a7 e x with
  | none=>rfl
  | some v=>
    simp only[jt];cases v<;>try rfl
    case string s=>
     cases ed e 0 a with
     | none=>rfl
     | some l=>
       simp only[oE];show cb (ed e s.size b) _=_
       cases ed e s.size b with
       | none=>rfl
       | some h=>
         show e' _ _ none=cb ((bif Nat.ble l h&&Nat.ble h s.size then bf.ret (.string (b1 s l h)) else .fail).run ah H) _;rw[oK];cases (Nat.ble l h&&Nat.ble h s.size)<;>rfl
 case extract x i=>
  show(eb x).g e (λv=>Ok v (λ_=>none) (λc=>mI c.toList i λu=>k u H))=cb ((bh.J e (.extract x i)).run ah H) λp=>k p.1 p.2;simp only[bh.J,kd,vk];congr 1;funext v;cases v<;>try rfl
  case tuple c=>
   show mI c.toList i (λu=>k u H)=cb ((gx c.toList[i]?).run ah H) λp=>k p.1 p.2;rw[zs,vb]
 case call F w=>
  show(B8 w).f e (λl=>cb (K ah F l H) λp=>k p.1 p.2)=cb (match eO e w with | some l=>K ah F l H | none=>none) λp=>k p.1 p.2;rw[OQ];cases eO e w<;>rfl
 case len g x=>
  cases g
  case m=>exact yk _ K ah e H k
  case s=>
   show(eb x).g e (λv=>um v λs=>k (.int .i64 (.ofNat s.size)) H)=cb ((bh.J e (.len .s x)).run ah H) λp=>k p.1 p.2;simp only[bh.J,kd]
   cases a7 e x with
   | none=>rfl
   | some v=>cases v<;>rfl
  case l=>
   show(eb x).g e (λv=>BR v λ_ n _=>k (.int .i64 (.ofNat n)) H)=cb ((bh.J e (.len .l x)).run ah H) λp=>k p.1 p.2;simp only[bh.J,kd]
   cases a7 e x with
   | none=>rfl
   | some v=>cases v<;>rfl
theorem Z2(o:aE)(K:cv)(ah:Perm)(e:Env)(H:ae)(k:Value->ae->Out):(HY o).f K ah e H k=cb (o.run K ah e H) λp=>k p.1 p.2:=by
 obtain⟨_,g,a⟩:=o
 cases g with
 | none=>exact Rq a K ah e H k
 | some p=>
   obtain⟨j,b⟩:=p;show(xI j).g e _=_;rw[Jz];simp only[aE.run,aE.wanted]
   cases e.get j with
   | none=>rfl
   | some v=>
     simp only[jt];cases v<;>try rfl
     case bool c=>
      show e' (c==b) ((CQ a).f K ah e H k) (k aR H)=cb (match some (c==b) with | some true=>a.run K ah e H | some false=>some (aR,H) | none=>none) λp=>k p.1 p.2;rw[oK]
      cases (c==b) with
      | true=>exact Rq a K ah e H k
      | false=>rfl
theorem Rt:∀(l:List aE) (K:cv) (ah:Perm) (e:Env) (H:ae) (k:Env->ae->Out),(CS l).f K ah e H k=cb (ke K ah l e H) λp=>k p.1 p.2
 | [],_,_,_,_,_=>rfl
 | o::l,K,ah,e,H,k=>by
   show(HY o).f K ah e H (λv H=>(CS l).f K ah ((IT o.dst).s v e) H k)=_;rw[Z2];simp only[ke]
   cases o.run K ah e H with
   | none=>rfl
   | some p=>
     obtain⟨v,a⟩:=p;simp only[jt];rw[aag];exact Rt l K ah _ a k
theorem PB(f:Env->ae->Out)(a:Env->ae->(e1->Env->ae->Out)->Out)(b:∀e H k,a e H k=cb (f e H) λp=>k p.1 p.2.1 p.2.2)(k:e1->Env->ae->Out):∀(n:Nat) (e:Env) (H:ae),Hf a k n e H=cb (iter f n e H) λp=>k p.1 p.2.1 p.2.2
 | 0,_,_=>rfl
 | n+1,e,H=>by
   show a e H (λx=>@e1.rec (λ_=>Env->ae->Out) (Hf a k n) (λi=>k (.exit i)) (k .ret) x)=_;rw[b];simp only[iter]
   cases f e H with
   | none=>rfl
   | some p=>
     obtain⟨x,c,d⟩:=p
     cases x with
     | normal=>exact PB f a b k n c d
     | exit i=>rfl
     | ret=>rfl
theorem VH(K:cv)(ah:Perm)(a:Nat):∀(c:aG) (e:Env) (H:ae) (k:e1->Env->ae->Out),(q5 c).f K ah a e H k=cb (eval K ah a c e H) λp=>k p.1 p.2.1 p.2.2:=by
 intro c
 induction c with
 | skip=>intro e H k;rfl
 | bs b=>
   intro e H k;show(CS b).f K ah e H (λe H=>k .normal e H)=_;rw[Rt];simp only[eval];cases ke K ah b e H<;>rfl
 | draw b c=>
   intro e H k;show cb (rm K ah b c e H) (λp=>k .normal p.1 p.2)=_;simp only[eval];cases rm K ah b c e H<;>rfl
 | seq b c d f=>
   intro e H k;show(q5 b).f K ah a e H (λx=>@e1.rec (λ_=>Env->ae->Out) (λe H=>(q5 c).f K ah a e H k) (λi=>k (.exit i)) (k .ret) x)=_;rw[d];simp only[eval]
   cases eval K ah a b e H with
   | none=>rfl
   | some p=>
     obtain⟨x,e,g⟩:=p
     cases x with
     | normal=>exact f e g k
     | exit i=>rfl
     | ret=>rfl
 | cond c b d f g=>
   intro e H k;show(eb c).g e (λv=>v7 v λt=>e' t ((q5 b).f K ah a e H k) ((q5 d).f K ah a e H k))=_;rw[kd];simp only[eval]
   cases a7 e c with
   | none=>rfl
   | some v=>
     simp only[jt];cases v<;>try rfl
     case bool t=>
      cases t
      ·exact g e H k
      ·exact f e H k
 | block id b ih=>
   intro e H k;show(q5 b).f K ah a e H (λx=>@e1.rec (λ_=>Env->ae->Out) (k .normal) (λi e H=>e' (Nat.beq i id) (k .normal e H) (k (.exit i) e H)) (k .ret) x)=_;rw[ih];simp only[eval]
   cases eval K ah a b e H with
   | none=>rfl
   | some p=>
     obtain⟨x,c,d⟩:=p
     cases x with
     | normal=>rfl
     | exit i=>
       simp only[jt];show e' (Nat.beq i id) (k .normal c d) (k (.exit i) c d)=_;rw[oK];cases Nat.beq i id<;>rfl
     | ret=>rfl
 | loop b ih=>
   intro e H k;exact PB (eval K ah a b) ((q5 b).f K ah a) ih k a e H
 | exit id=>intro e H k;rfl
 | ret=>intro e H k;rfl
 | bad _=>intro e H k;rfl
theorem OJ:∀(l:List Value) (n:Nat) (e:Env),B7 l n e=pV l n e
 | [],_,_=>rfl
 | v::l,n,e=>by
   show B7 l (n+1) ((DN n).s v e)=_;rw[S'];exact OJ l (n+1) _
theorem Du:∀(l:List n') (e:Env) (H:ae) (k:List Value->Out),z' l e H k=cb (lE e H l) k
 | [],_,_,_=>rfl
 | r::l,e,H,k=>by
   cases r with
   | slot t=>
     show(xI t).g e (λv=>z' l e H λl=>k (v::l))=_;rw[Jz];simp only[lE]
     cases e.get t with
     | none=>rfl
     | some v=>
       simp only[jt];rw[Du l];cases lE e H l<;>rfl
   | cell t g n=>
     show cb (ft H g n (e.get t)) (λv=>z' l e H λl=>k (v::l))=_;simp only[lE]
     cases ft H g n (e.get t) with
     | none=>rfl
     | some v=>
       simp only[jt];rw[Du l];cases lE e H l<;>rfl
theorem WH(F:bg)(K:cv)(ah:Perm)(a:Nat)(args:List Value)(H:ae):CT ((GW F).f K ah a args H)=wc K ah a F args H:=by
 show CT (e' (Nat.ble args.length F.kh) ((q5 F.body).f K ah a (B7 args 0 .ag) H _) none)=_;rw[oK];unfold wc
 cases Nat.ble args.length F.kh with
 | false=>rfl
 | true=>
   simp only[cond_true,Bool.not_true,cond_false];rw[VH,OJ]
   cases eval K ah a F.body (pV args 0 .ag) H with
   | none=>rfl
   | some p=>
     obtain⟨x,b,c⟩:=p
     cases x with
     | normal=>
       simp only[jt];rw[Du];cases lE b c F.res<;>rfl
     | exit _=>rfl
     | ret=>
       simp only[jt];rw[Du];cases lE b c F.res<;>rfl
theorem Dy(T:Nat->Option bg)(S:cv->cv)(a:Nat):∀n,Af T S a n=runK T S a n
 | 0=>rfl
 | n+1=>by
   show S _=S _;congr 1;funext ah f args H;show @Option.rec bg (λ_=>Option (Value×ae)) none (λF=>CT ((GW F).f (Af T S a n) ah a args H)) (T f)=_;rw[Dy T S a n]
   cases T f with
   | none=>rfl
   | some F=>exact WH F _ ah a args H
end Go.Dam
namespace Go.Dam
open Go Go.RowKit
def fq(O:cy)(P:Program)(G:Nat->Bool)(f:FuncId)(g:Perm->List Value->ae->Option (Value×ae)):Prop:=
 ∀(a:Perm) (b:List Value) (H:ae) (v:Value) (c:ae),a.num=none->g a b H=some (v,c)->∀(d:Nat) (γ:aT) (w:World) (e:Array Value),Rel O d γ H w->fX G γ->bN γ b e.toList->
  pD P f e w λg h=>∃b e,g=.returned e/\aO b v e/\Step O d a γ H w b c h
section
variable{P:Program}
theorem pD.mono{f:FuncId}{args:Array Value}{w:World}{R a:Ending->World->Prop}(h:pD P f args w R)(b:∀e ay,R e ay->a e ay):pD P f args w a:=by
 rcases h with⟨b7,cH⟩ | ⟨v,ay,b7,cH⟩
 ·exact .inl ⟨b7,cH.mono b⟩
 ·exact .inr ⟨v,ay,b7,b _ _ cH⟩
end
section
variable{O:cy}{P:Program}{base:Nat}{pm:Perm}{γ:aT}{H:ae}{w ay:World}
theorem Step.below(d:Rel O base γ H w)(a:Below w.heap.size w ay):Step O base pm γ H w γ H ay where
 rel:=by
  have h:∀c,c<w.heap.size->ay.heap[c]? = w.heap[c]?:=a.block;have i:∀c,gY γ H w c->gY γ H ay c/\ay.heap[c]? = w.heap[c]?:=λc f=>⟨⟨fK f.1 a.size,f.2⟩,h c f.1⟩;exact⟨λg L j=>by
   obtain⟨x,b,e⟩:=d.bj g L j;exact⟨x,b,e.mono (.refl γ) i λr=>h _ (e.lt r)⟩,d.lt,d.new,d.inj,d.low,a8 d.size a.size⟩
 ext:=.refl γ
 fresh:=λg L b e=>by rw[e]at b;cases b
 grow:=a.size
 u:=λc f _=>a.block c f
 next:=bc _
 kO:=λ_ _ _=>rfl
 kp:=λ_ _ _ k=>k
 known:=λg L b e=>by rw[e]at b;cases b
 os:=a.os
 tape:=a.tape
 output:=a.output
end
def lj(c:Nat):List UInt8->Nat->Int
 | [],_=>-1
 | b::l,n=>bif Nat.beq b.toNat c then .ofNat n else lj c l (Nat.succ n)
theorem Pp(c:Nat)(d:c<256):∀(l:List UInt8) (n:Nat),lj c l n=if Lib.indexByte l c.toUInt8=-1 then -1 else(n:Int)+Lib.indexByte l c.toUInt8
 | [],n=>by simp[lj,Lib.indexByte]
 | b::l,n=>by
   have a:Nat.beq b.toNat c=(b==c.toUInt8):=by
    rw[dc];by_cases h:b=c.toUInt8
    ·subst h;have b:c.toUInt8.toNat=c:=by simp[Nat.toUInt8];omega
     rw[b];simp
    ·rw[j1]
     ·simp[h]
     ·intro e;apply h;apply zT.1;have b:c.toUInt8.toNat=c:=by simp[Nat.toUInt8];omega
      rw[b];exact e
   have e:=Lib.indexByte_ge l c.toUInt8;simp only[lj,Lib.indexByte,a];by_cases a:(b==c.toUInt8)=true
   ·simp[a]
   ·have a:(b==c.toUInt8)=false:=by simpa using a
    simp only[a,cond_false,kl,if_false];rw[Pp c d l (n+1)];by_cases a:Lib.indexByte l c.toUInt8=-1
    ·simp[a]
    ·have b:(Lib.indexByte l c.toUInt8==-1)=false:=by simpa using a
     rw[aw a,b];simp only[kl,if_false];rw[aw (by omega)];push_cast;omega
def Ao:List Value->Option (List ByteArray)
 | []=>some []
 | .string s::l=>(match Ao l with | some r=>some (s::r) | none=>none)
 | _=>none
theorem JE:∀{l:List Value} {r:List ByteArray},Ao l=some r->l=r.map .string
 | [],r,h=>by simp only[Ao,aJ]at h;subst h;rfl
 | v::l,r,h=>by
   cases v<;>simp only[Ao,reduceCtorEq]at h;split at h
   ·rename_i _ a;simp only[aJ]at h;subst h;rw[JE a];rfl
   ·cases h
end Go.Dam
