/- An abstract memory, and that the program does there what it does. -/
import Derived.Test.YtcdpdaildggfiaaGreatDoorDamA
import Derived.Below
import Derived.Lib.Bytealg
namespace Go.Dam
open Go
section
variable{O:b0}{P:Program}{base:Nat}{pm:Perm}{n:Nat}{G:Nat->Bool}{K:bY}
def QI:Oper:=⟨none,.move (.tmp 0),0,"",#[],none⟩
def rz(a:Array Oper)(i j:Nat):Bool:=((Region.before a).getD j 0).testBit i
structure FC(ops:Array Oper)(al:List aw)(c:jn):Prop where
 down:nS ops=true
 an:c.ord.Nodup
 cover:∀i,i<al.length->i∈c.ord
 len:(b7 al c.ord).length=al.length
 ja:uN (rz ops) (b7 al c.ord) (b7 al c.ord) 0=some c.ja
 fixed:c.fixed=rR (rz ops) (b7 al c.ord) (b7 al c.ord) 0
theorem NC{b:Array Oper}{al:List aw}{c:jn}(h:wJ b al=some c):FC b al c:=by
 unfold wJ at h;simp only at h;split at h
 ·rename_i a;simp only[b3,df,eD,VX,lV]at a;split at h
  ·rename_i _ d;simp only[ax]at h;subst h;exact⟨a.1.1.1,a.1.1.2,λi c=>by simpa using a.1.2 i c,a.2,d,rfl⟩
  ·cases h
 ·cases h
def tH{α:Type}(l:List α)(d:α)(i:Nat):α:=(l[i]?).getD d
theorem Om{d:List aw}{g:Option jn}{e cq:Env}{H f:ad}(h:nZ K pm d g e H=some (cq,f)):
 ∃c b,g=some c/\pm.ah<=H.next/\hq K pm ((b7 d c.ord).map (·.2)) H.next c.fixed e ⟨H.t,H.next+d.length⟩=some (cq,f,b)/\cj b f c.ja=true/\cd b H.next b 0=true:=by
 unfold nZ at h;split at h
 ·rename_i c;rw[cg]at h;by_cases e:pm.ah<=H.next
  ·simp only[e,decide_true,cond_true]at h;split at h
   ·rename_i _ i l j
    cases a:(cj l i c.ja&&cd l H.next l 0) with
    | false=>rw[a]at h;cases h
    | true=>
      rw[a]at h;simp only[cond_true,ax,bT]at h;obtain⟨rfl,rfl⟩:=h;simp only[b3]at a;exact⟨c,l,rfl,e,j,a.1,a.2⟩
   ·cases h
  ·simp only[e,decide_false,cond_false]at h;cases h
 ·cases h
theorem Oo{a:List Rec}{d:ad}{c:List (Nat×Nat)}(h:cj a d c=true){i j:Nat}(e:(i,j)∈c):∃x y,a[i]? = some x/\a[j]? = some y/\(∀b∈x.lL,b∉y.lL)/\((∀b∈x.lL,b∉y.pe)∨
 ((∀r∈a,∃u,y.again r.heap=some u/\ku u y.val=true)/\∃u,y.again d=some u/\ku u y.val=true)):=by
 simp only[cj,eD]at h;have:=h (i,j) e;simp only at this;split at this
 ·rename_i x y f g;simp only[b3,ir]at this;refine⟨x,y,f,g,Hd this.1,this.2.imp (λq=>Hd q) λq=>?_⟩;simp only[yD,b3,eD]at q;exact⟨λr b=>K1 (q.1 r b),K1 q.2⟩
 ·cases this
theorem SP{a:Array Oper}{c:jn}(v:FC a (h5 P G n a) c){e cq:Env}{H z:ad}{m:List Rec}
 (h:hq K pm ((b7 (h5 P G n a) c.ord).map (·.2)) H.next c.fixed e ⟨H.t,H.next+(h5 P G n a).length⟩=some (cq,z,m)) (S:cj m z c.ja=true) (T:cd m H.next m 0=true):
 ∃s:dQ P G n a K pm,s.N=a.size/\s.aE=H.next/\s.E 0=e/\s.bI 0=⟨H.t,H.next+s.N⟩/\s.E s.N=cq/\s.bI s.N=z/\(∀p q,s.cK p q->rz a (s.y p) (s.y q)=true)/\(∀p,p<s.N->a[s.y p]? = some (s.Q p))/\
  (∀p q,p<s.N->q<s.N->s.y p=s.y q->p=q)/\(∀i,i<a.size->∃p,p<s.N/\s.y p=i):=by
 obtain⟨B,w,J,L,A,o⟩:=Hx h;generalize t:b7 (h5 P G n a) c.ord=f at*
 have U:(h5 P G n a).length=a.size:=by simp[h5]
 have C:f.length=a.size:=by have:=v.len;rw[t]at this;omega
 have W:m.length=a.size:=by have:=o.len;simpa [C]using this
 let g:Nat->Nat:=λp=>(tH f (0,⟨none,none,.bad ""⟩) p).1;let k:Nat->Oper:=λp=>(a[g p]?).getD QI;have u:∀p,p<a.size->f[p]? = some (g p,dU P G n a (k p))/\a[g p]? = some (k p):=by
  intro p b;have i:p<f.length:=by omega
  have q:f[p]? = some f[p]:=eu i;have y:f[p]∈b7 (h5 P G n a) c.ord:=by rw[t];exact x7 i
  obtain⟨e,_⟩:=OV y;have s:g p=f[p].1:=by simp only[g,tH,q,jf]
  rw[<-s]at e;simp only[h5,iw,iv]at e
  cases h:a[g p]? with
  | none=>rw[h]at e;cases e
  | some c=>
    have i:k p=c:=by simp only[k,h,jf]
    rw[h]at e;simp only[gL,ax]at e;rw[i,q];refine⟨?_,rfl⟩;rw[e,s]
 have l:∀p,p<a.size->_:=λp b=>o.step p (dU P G n a (k p)) (by rw[iw,(u p b).1];rfl);have D:∀p q,p<q->q<a.size->¬rz a (g p) (g q)=true->∃x,sq p q (dU P G n a (k p)) (dU P G n a (k q))=some x/\∀W∈x,W∈c.ja:=by
  intro p q j d e;have:=JZ f 0 c.ja (t▸v.ja) q _ (u q d).1 p _ (u p (by omega)).1 (by omega) (by simpa using e);rwa [Nat.zero_add]at this
 have X:∀i,i<=a.size->i=a.size∨∃r∈m,r.heap=w i:=by
  intro i I;by_cases q:i=a.size
  ·exact .inl q
  ·obtain⟨_,_,_,c⟩:=l i (by omega);exact .inr ⟨_,eB c,rfl⟩
 have O:w a.size=z:=by have:=o.HV;simpa [C]using this
 have Y:B a.size=cq:=by have:=o.Hl;simpa [C]using this
 have R:∀p q,p<a.size->q<a.size->(p,q)∈c.ja->(∀z∈A p,z∉A q)/\((∀z∈A p,z∉L q)∨∀i,i<=a.size->∃z,(dU P G n a (k q)).again (B q) (w i)=some z/\ku z (J q)=true):=by
  intro p q b d h;obtain⟨_,_,c,e,n,s⟩:=Oo S h;obtain⟨_,_,_,h⟩:=l p b;obtain⟨_,_,_,y⟩:=l q d;rw[h]at c;rw[y]at e;cases c;cases e;refine⟨n,s.imp id λ⟨E,F⟩ i I=>?_⟩
  rcases X i I with r | ⟨r,c,e⟩
  ·rw[r,O];exact F
  ·rw[<-e];exact E r c
 refine⟨{N:=a.size,aE:=H.next,y:=g,Q:=k,bW:=λp=>c.fixed.getD p false,cK:=λp q=>rz a (g p) (g q)=true,E:=B,bI:=w,V:=J,F:=L,M:=A,run:=?_,put:=?_,own:=?_,apart:=?_,wr:=?_,DF:=?_,fixed:=?_,made:=?_},rfl,rfl,o.Hk,?_,Y,O,λp q h=>h,λp b=>(u p b).2,λp q b d j=>?_,λi I=>?_⟩
 ·intro p b;exact(l p b).2.1
 ·intro p b;exact(l p b).2.2.1
 ·intro p b;exact(l p b).1
 ·intro p q j d c;obtain⟨x,e,_⟩:=D p q j d c;exact(Ce e).1
 ·intro p q j d c e h;obtain⟨x,i,k⟩:=D p q j d c;exact R p q (by omega) d (k _ ((Ce i).2.1 (by rw[e,h];rfl)))
 ·intro p q j d c e h;obtain⟨x,i,k⟩:=D p q j d c;exact R q p d (by omega) (k _ ((Ce i).2.2 (by rw[e,h];rfl)))
 ·intro p b c q d _ e;rw[v.fixed,t]at c;have:=HG f 0 p _ (u p b).1 c;rw[Nat.zero_add]at this;have:=HH f 0 q _ (u q d).1 this (by omega) e;rwa [Nat.zero_add]at this
 ·intro q d p b e _;obtain⟨_,_,_,h⟩:=l q d;have:=IX m 0 q _ h T p (by omega) e (by omega);rw[Nat.zero_add]at this;obtain⟨i,_,c,n⟩:=this;obtain⟨_,_,_,e⟩:=l p b;rw[e]at c;cases c;exact⟨i,n⟩
 ·show w 0=⟨H.t,H.next+a.size⟩;rw[o.ez,U]
 ·have c:=OW (al:=h5 P G n a) v.an;rw[t,List.pairwise_iff_getElem]at c;apply lW;intro i;have e:p<f.length:=by simp only at b;omega
  have h:q<f.length:=by simp only at d;omega
  have d:g p=f[p].1:=by simp only[g,tH,eu e,jf]
  have cq:g q=f[q].1:=by simp only[g,tH,eu h,jf]
  simp only[d,cq]at j
  rcases Nat.lt_or_gt_of_ne i with r | r
  ·exact c p q e h r j
  ·exact c q p h e r j.symm
 ·have c:=v.cover i (by omega);obtain⟨o,d⟩:∃o,(h5 P G n a)[i]? = some o:=⟨_,eu (by omega)⟩;have a:(i,o)∈f:=by
   rw[<-t];unfold b7;rw[List.mem_filterMap];exact⟨i,c,by rw[d];rfl⟩
  obtain⟨p,b,c⟩:=u5 a;refine⟨p,by simp only;omega,?_⟩;simp only[g,tH,eu b,jf,c]
theorem dQ.facts{b:Array Oper}(s:dQ P G n b K pm)(b:dK O P G K)(c:pm.num=none){γ:aL}{H:ad}{w:World}{a:Act}(d:s.aE=H.next)(e:pm.ah<=s.aE)(f:s.bI 0=⟨H.t,H.next+s.N⟩)(g:Rel O base γ H w)(h:cW γ n (s.E 0) a)(i:eF G γ):∀q,q<s.N->s.Fact q:=
 (s.chain b c d e f g h i s.N (bg _)).2
theorem OH{a:Array Bool}{i j:Nat}(aJ:i<a.size):(a.setIfInBounds i true).getD j true=true↔a.getD j true=true∨j=i:=by
 simp only[jD];by_cases h:i=j
 ·subst h;simp[aJ]
 ·rw[sD h];exact⟨.inl,λq=>q.resolve_right (λq=>h q.symm)⟩
theorem cW.congr{γ:aL}{e b:Env}{a:Act}(h:cW γ n e a)(AW:∀t,b.get t=e.get t):cW γ n b a:=⟨h.size,h.G,h.defers,λt v q=>h.get t v (by rw[<-AW t];exact q)⟩
theorem MT{g:Array Oper}{s:dQ P G n g K pm}{fe:aL}{aj:ad}{fS:World}{Q:Exit->Act->World->Prop}(u:nS g=true)(F:s.N=g.size)(C:∀p q,s.cK p q->rz g (s.y p) (s.y q)=true)(v:∀p,p<s.N->g[s.y p]? = some (s.Q p))
 (D:∀p q,p<s.N->q<s.N->s.y p=s.y q->p=q) (M:∀i,i<g.size->∃p,p<s.N/\s.y p=i)
 (E:∀q,q<s.N->s.Fact q) (N:s.aE=aj.next) (R:pm.ah<=s.aE) (ez:∀b,s.aE<=b->(s.bI 0).get b=none) (S:s.aE<=(s.bI 0).next) (U:dK O P G K) (V:pm.num=none) (W:eF G fe)
 (X:∀F H I,cW F n (s.E s.N) H->Step O base pm fe aj fS F (s.bI s.N) I->Q .normal H I):
 ∀(d:Nat) (c:Array Bool) (e:Env) (J:ad) (γ:aL) (a:Act) (w:World),c.size=g.size->j8 c.toList<=d->
  (∀j o,c.getD j true=true->g[j]? = some o->∀e∈o.after,Region.binds .any e=true->c.getD e.on true=true)->
  dQ.Inv O base s (λp=>c.getD (s.y p) true=true) fe aj fS e J γ a w->wpAny P .any g Q d c a w:=by
 intro d;have F:∀p,p<s.N->s.y p<g.size:=λp f=>(e'.1 (v p f)).1;have L:∀(c:Array Bool) (e:Env) (J:ad) (γ:aL) (a:Act) (w:World),(∀i,i<g.size->c.getD i true=true)->dQ.Inv O base s (λp=>c.getD (s.y p) true=true) fe aj fS e J γ a w->Q .normal a w:=by
  intro c e J γ a w A d;have j:∀p,p<s.N->(p<s.N↔c.getD (s.y p) true=true):=λp f=>⟨λ_=>A _ (F p f),λ_=>f⟩;have l:=d.next s.N (bg _) λk h _=>j k h;refine X γ a w (d.kI.congr λt=>(d.Z t s.N (bg _) λk h _=>j k h).symm) ?_;refine d.step.congr (λb m n=>(d.W b s.N (bg _) (λp f q=>?_) λk h _=>j k h).symm) (Nat.le_of_eq l) (λb i=>?_) λb i o=>?_
  ·subst q;exact d.known p f m n
  ·cases a:s.N with
   | zero=>
     rw[a]at i;exact ez b (by omega)
   | succ k=>
     rw[a]at i;exact(E k (by omega)).new b i
  ·rw[<-d.W b s.N (bg _) (λp f q=>by omega) λk h _=>j k h];exact d.step.ib b i o
 have A:∀(c:Array Bool),c.size=g.size->Region.ready .any g c=[]->∀x i,i<x->i<g.size->c.getD i true=true:=by
  intro c _ b x
  induction x with
  | zero=>intro i _;omega
  | succ x ih=>
    intro i _ d
    cases h:c.getD i true with
    | true=>rfl
    | false=>
      have a:g[i]? = some g[i]:=kh d;have:i∈Region.ready .any g c:=mem_ready.2 ⟨h,_,a,λe d j=>by
       have i:=Ho u a d j;have:=ih e.on (by omega) (by omega);rw[jD,kh (by omega)]at this|-;exact this⟩
      rw[b]at this;cases this
 have Y:∀(c:Array Bool),c.size=g.size->j8 c.toList=0->∀i,i<g.size->c.getD i true=true:=by
  intro c _ b i _
  cases a:c.getD i true with
  | true=>rfl
  | false=>
    rw[jD,kh (by omega)]at a;refine(Jm (i:=i) b ?_).elim;rw[iv,kh (by omega)];exact congrArg some a
 induction d with
 | zero=>
   intro c e J γ a w d _ _ h;have b:=Y c d (by omega);refine⟨?_,L c e J γ a w b h⟩
   cases i:Region.ready .any g c with
   | nil=>rfl
   | cons x _=>
     have d:x∈Region.ready .any g c:=by rw[i];exact .head _
     obtain⟨a,o,e,_⟩:=mem_ready.1 d;rw[b x (e'.1 e).1]at a;cases a
 | succ d ih=>
   intro c e J γ a w x _ y F;refine⟨λg=>L c e J γ a w (λi d=>A c x g (i+1) i (by omega) d) F,λi d=>?_⟩;obtain⟨g,o,r,A⟩:=mem_ready.1 d;have H:=(e'.1 r).1;obtain⟨j,z,n⟩:=M i H;have H:o=s.Q j:=by
    have:=v j z;rw[n,r]at this;exact jF this
   have G:∀e∈o.after,Region.binds .any e=true->c.getD e.on true=true:=λe t h=>by
    have:=A e t h;have a:=Ho u r t h;rw[jD,kh (by omega)]at this|-;exact this
   have A:s.Ready (λp=>c.getD (s.y p) true=true) j:=by
    refine⟨z,by rw[n,g];simp,λp q f a h b=>?_,λp f h=>?_⟩
    ·have:=C p q h;exact zF (T:=λi=>c.getD i true=true) u y _ (s.y q) (s.y p) _ (nd _) (v q a) (y _ _ b (v q a)) this
    ·have:=C p j h;rw[n]at this;exact zF (T:=λi=>c.getD i true=true) u y _ i (s.y p) o (nd _) r G this
   have B:∀k,(c.setIfInBounds i true).getD k true=true↔c.getD k true=true∨k=i:=λk=>OH (by omega);have u:c[i]? = some false:=by
    rw[jD,kh (by omega)]at g;rw[kh (by omega)];exact congrArg some g
   unfold wpOp;rw[r];simp only;rw[H];refine F.oper E N R ez S U V W A λg v A C E m=>?_;refine ih (c.setIfInBounds i true) g v A C E (by simpa using x) ?_ ?_ ?_
   ·have:=Jl (l:=c.toList) (i:=i) (by simpa using u);rw[Array.toList_setIfInBounds];omega
   ·intro k i a b e t h;rw[B]at a|-
    rcases a with a | a
    ·exact .inl (y k i a b e t h)
    ·subst a;rw[r]at b;cases b;exact .inl (G e t h)
   ·have a:(λp=>(c.getD (s.y p) true=true)∨p=j)=λp=>p<s.N/\(c.setIfInBounds i true).getD (s.y p) true=true∨¬p<s.N/\((c.getD (s.y p) true=true)∨p=j):=by
     funext p;by_cases f:p<s.N
     ·simp only[f,true_and,not_true_eq_false,false_and,or_false,B,eq_iff_iff];refine or_congr Iff.rfl ⟨λq=>q▸n,λq=>D p j f z (q.trans n.symm)⟩
     ·simp[f]
    have e:∀p,p<s.N->(((c.getD (s.y p) true=true)∨p=j)↔(c.setIfInBounds i true).getD (s.y p) true=true):=λp f=>by
     rw[B];exact or_congr Iff.rfl ⟨λq=>q▸n,λq=>D p j f z (q.trans n.symm)⟩
    exact⟨m.kI,m.step,m.hc,λt i d c=>m.Z t i d λk a g=>(c k a g).trans (e k a).symm,
     λb i d g c=>m.W b i d (λp f q=>⟨(e p f).2 (g p f q).1,(g p f q).2⟩) λk a g=>(c k a g).trans (e k a).symm,
     λi d c=>m.next i d λk a g=>(c k a g).trans (e k a).symm,
     λp f L a=>⟨(e p f).1 (m.known p f L a).1,(m.known p f L a).2⟩⟩
theorem ue(p:P.follows .mixedOrders=true):vU O P G:=by
 intro K g pm h n id e _ base q _ i γ H _ w a d j k r;obtain⟨_,_,c,_,f,u,v⟩:=Om a;have l:=NC c;obtain⟨s,x,c,m,a,y,z,A,o,B,C⟩:=SP l f u v;have u:cW γ n (s.E 0) i:=m▸j;have f:=s.facts g h c (by omega) a d u k;have u:∀b,s.aE<=b->(s.bI 0).get b=none:=λb _=>by rw[a];exact d.new b (by omega)
 refine wp_region_any p ?_;refine MT (fe:=γ) (aj:=H) (fS:=w) l.down x A o B C f c (by omega) u (by rw[a,c];exact e9 _ _) g h k (λg h k l p=>r g h k (y▸l) (z▸p)) e.size (Array.replicate e.size false) q ⟨H.t,H.next+s.N⟩ γ i _ (by simp) (by simp[Jk]) ?_ ?_
 ·intro _ _ b g;exfalso;have:=(e'.1 g).1;rw[jD]at b;simp[this]at b
 ·have g:∀p,p<s.N->¬((Array.replicate e.size false).getD (s.y p) true=true):=λp e=>by
   have:=(e'.1 (o p e)).1;rw[jD];simp[this]
  have h:∀i,i<=s.N->∀h,h=i->True:=λ_ _ _ _=>trivial;refine⟨j,Step.Ks d s.N _,by rw[c];exact bg _,λt i h c=>?_,λb i h _ c=>?_,λi h c=>?_,λp e _ e=>?_⟩
  ·have:=s.AD (t:=t) 0 i (by omega) λk _ _ b=>g k (by omega) ((c k (by omega) b).1 (by omega));rw[Nat.zero_add]at this;rw[this,m]
  ·have:=s.uw f (b:=b) 0 i (by omega) λk _ _ h=>g k (by omega) ((c k (by omega) h).1 (by omega));rw[Nat.zero_add]at this;rw[this,a]
  ·have:=s.BR f 0 i (by omega) λk _ _ b=>g k (by omega) ((c k (by omega) b).1 (by omega));rw[Nat.zero_add]at this;rw[this,a]
  ·have:=d.lt _ _ e;omega
end
def kf:Nat->Nat->List Bool
 | 0,_=>[]
 | f+1,k=>bif Nat.beq k 0 then[] else bif Nat.beq (Nat.mod k 2) 1 then true::kf f (Nat.div k 2) else false::kf f (Nat.sub (Nat.div k 2) 1)
structure rb where
 g:Env->(Value->Out)->Out
structure rr where
 s:Value->Env->Env
structure oZ where
 f:bY->Perm->Env->ad->(Value->ad->Out)->Out
structure F4 where
 f:bY->Perm->Env->ad->(Env->ad->Out)->Out
structure FB where
 f:bY->Perm->Nat->Env->ad->(dS->Env->ad->Out)->Out
structure y3 where
 f:Value->Value->(Value->Out)->Out
structure FT where
 f:Env->(List Value->Out)->Out
noncomputable def bJ{α:Type}(o:Option α)(k:α->Out):Out:=@Option.rec α (λ_=>Out) none k o
noncomputable def HO:List Bool->rb:=@List.rec Bool (λ_=>rb) ⟨λe k=>@bG.rec Value (λ_=>Out) none (λ_ v _ _ _=>@Option.rec Value (λ_=>Out) none k v) e⟩
 (λb _ ih=>@Bool.rec (λ_=>rb) ⟨λe k=>@bG.rec Value (λ_=>Out) none (λ_ _ r _ _=>ih.g r k) e⟩ ⟨λe k=>@bG.rec Value (λ_=>Out) none (λl _ _ _ _=>ih.g l k) e⟩ b)
noncomputable def K7:List Bool->rr:=@List.rec Bool (λ_=>rr) ⟨λx=>@bG.rec Value (λ_=>Env) (.an .ag (some x) .ag) (λl _ r _ _=>.an l (some x) r)⟩
 (λb _ ih=>@Bool.rec (λ_=>rr) ⟨λx=>@bG.rec Value (λ_=>Env) (.an .ag none (ih.s x .ag)) (λl v r _ _=>.an l v (ih.s x r))⟩ ⟨λx=>@bG.rec Value (λ_=>Env) (.an (ih.s x .ag) none .ag) (λl v r _ _=>.an (ih.s x l) v r)⟩ b)
noncomputable def sX(n:Nat):rb:=HO (kf (n+1) n)
noncomputable def yz(n:Nat):rr:=K7 (kf (n+1) n)
noncomputable def dc:bC->rb:=@bC.rec (λ_=>rb) sX (λv=>⟨λ_ k=>k v⟩)
noncomputable def Cr:Option Nat->rr:=@Option.rec Nat (λ_=>rr) ⟨λ_ e=>e⟩ yz
noncomputable def w':List bC->FT:=@List.rec bC (λ_=>FT) ⟨λ_ k=>k []⟩ (λr _ ih=>⟨λe k=>(dc r).g e λv=>ih.f e λl=>k (v::l)⟩)
noncomputable def t'(v:Value)(a:IntKind->Int->Out)(au:ByteArray->Out):Out:=
 @Value.rec (λ_=>Out) (λ_=>PUnit) (λ_=>PUnit) (λ_=>none) a (λ_ _=>none) (λ_ _ _=>none) au (λ_=>none) (λ_ _ _=>none) (λ_=>none) (λ_=>none) (λ_ _ _ _ _=>none) none (λ_ _ _=>none) none (λ_ _=>none) (λ_ _=>none) (λ_ _=>⟨⟩) ⟨⟩ (λ_ _ _ _=>⟨⟩) v
noncomputable def o'(v:Value)(a:IntKind->Int->Out):Out:=t' v a λ_=>none
noncomputable def qb(v:Value)(au:ByteArray->Out):Out:=t' v (λ_ _=>none) au
noncomputable def rI(v:Value)(a:Bool->Out):Out:=
 @Value.rec (λ_=>Out) (λ_=>PUnit) (λ_=>PUnit) a (λ_ _=>none) (λ_ _=>none) (λ_ _ _=>none) (λ_=>none) (λ_=>none) (λ_ _ _=>none) (λ_=>none) (λ_=>none) (λ_ _ _ _ _=>none) none (λ_ _ _=>none) none (λ_ _=>none) (λ_ _=>none) (λ_ _=>⟨⟩) ⟨⟩ (λ_ _ _ _=>⟨⟩) v
noncomputable def G'(v:Value)(a:Option Addr->Out)(b:Option Addr->Nat->Nat->Out):Out:=
 @Value.rec (λ_=>Out) (λ_=>PUnit) (λ_=>PUnit) (λ_=>none) (λ_ _=>none) (λ_ _=>none) (λ_ _ _=>none) (λ_=>none) a b (λ_=>none) (λ_=>none) (λ_ _ _ _ _=>none) none (λ_ _ _=>none) none (λ_ _=>none) (λ_ _=>none) (λ_ _=>⟨⟩) ⟨⟩ (λ_ _ _ _=>⟨⟩) v
noncomputable def mz(v:Value)(k:Addr->Out):Out:=G' v (λo=>bJ o k) (λ_ _ _=>none)
noncomputable def wO(v:Value)(k:Option Addr->Nat->Nat->Out):Out:=G' v (λ_=>none) k
noncomputable def G7(v:Value)(k:Array Value->Out)(b:Array Value->Out):Out:=
 @Value.rec (λ_=>Out) (λ_=>PUnit) (λ_=>PUnit) (λ_=>none) (λ_ _=>none) (λ_ _=>none) (λ_ _ _=>none) (λ_=>none) (λ_=>none) (λ_ _ _=>none) (λ_=>none) (λ_=>none) (λ_ _ _ _ _=>none) none (λ_ _ _=>none) none (λa _=>k a) (λa _=>b a) (λ_ _=>⟨⟩) ⟨⟩ (λ_ _ _ _=>⟨⟩) v
noncomputable def rJ(v:Value)(k:Nat->Out):Out:=o' v λ_ n=>@Int.rec (λ_=>Out) k (λ_=>none) n
noncomputable def dX(b:Bool)(x y:Out):Out:=@Bool.rec (λ_=>Out) y x b
noncomputable def Ib:IntKind->Nat:=@IntKind.rec (λ_=>Nat) 0 1 2 3 4 5 6 7
noncomputable def n5(a b:IntKind):Bool:=Nat.beq (Ib a) (Ib b)
noncomputable def j9{α:Type}(l:List α):Nat->(α->Out)->Out:=@List.rec α (λ_=>Nat->(α->Out)->Out) (λ_ _=>none) (λv _ ih n k=>@Nat.rec (λ_=>Out) (k v) (λm _=>ih m k) n) l
noncomputable def hX(x:Value)(l:List Value):Nat->(List Value->Out)->Out:=@List.rec Value (λ_=>Nat->(List Value->Out)->Out) (λ_ _=>none) (λv t ih n k=>@Nat.rec (λ_=>Out) (k (x::t)) (λm _=>ih m λr=>k (v::r)) n) l
noncomputable def zA(f:Int->Int->Int):Value->Value->(Value->Out)->Out:=λx y k=>o' x λa b=>o' y λc d=>dX (n5 a c) (k (.int a (wr a (f b d)))) none
noncomputable def tW(a:BinOp)(f:Int->Int->Bool):Value->Value->(Value->Out)->Out:=λx y k=>t' x (λb c=>o' y λd e=>dX (n5 b d) (k (.bool (f c e))) none) λs=>qb y λt=>bJ (pO a s t) k
def tL:List UInt8->List UInt8->Bool
 | [],[]=>true
 | a::x,b::y=>bif Nat.beq a.toNat b.toNat then tL x y else false
 | _,_=>false
noncomputable def uf(neg:Bool):jo->y3:=@jo.rec (λ_=>y3)
 ⟨λx y k=>t' x (λc a=>o' y λd b=>dX (n5 c d) (k (.bool (xor neg (fQ a b)))) none) λs=>qb y λt=>k (.bool (xor neg (tL s.data.toList t.data.toList)))⟩
 ⟨λx y k=>rI x λa=>rI y λb=>k (.bool (xor neg (a==b)))⟩
 (λn=>⟨λx y k=>bJ (h8 n x y) λb=>k (.bool (xor neg b))⟩)
 (λa=>⟨λx y k=>bJ (iC (.cells a) x y) λb=>k (.bool (xor neg b))⟩)
noncomputable def zG:BinOp->jo->y3
 | .add=>λ_=>⟨λx y k=>t' x (λa b=>o' y λc d=>dX (n5 a c) (k (.int a (wr a (Int.add b d)))) none) λs=>qb y λt=>bJ (pO .add s t) k⟩
 | .sub=>λ_=>⟨zA Int.sub⟩
 | .mul=>λ_=>⟨zA Int.mul⟩
 | .lss=>λ_=>⟨tW .lss ha⟩
 | .leq=>λ_=>⟨tW .leq λa b=>!ha b a⟩
 | .gtr=>λ_=>⟨tW .gtr λa b=>ha b a⟩
 | .geq=>λ_=>⟨tW .geq λa b=>!ha a b⟩
 | .eql=>λq=>uf false q
 | .neq=>λq=>uf true q
 | op=>λq=>⟨λx y k=>bJ (binOp op q x y) k⟩
noncomputable def xf:Nat->Nat->bG bk->(bk->Out)->Out:=
 @Nat.rec (λ_=>Nat->bG bk->(bk->Out)->Out) (λ_ _ _=>none) (λ_ ih b t k=>@bG.rec bk (λ_=>Out) none (λl v r _ _=>
  dX (Nat.beq b 0) (bJ v k) (dX (Nat.beq (Nat.mod b 2) 1) (ih (Nat.div b 2) l k) (ih (Nat.sub (Nat.div b 2) 1) r k))) t)
noncomputable def rA(H:ad)(b:Nat)(k:bk->Out):Out:=xf (Nat.succ b) b H.t k
noncomputable def z6(x:bk)(k:List Value->Out):Out:=@bk.rec (λ_=>Out) (λa _=>k a) k (λ_ _=>none) (λ_ _=>none) (λ_=>none) none (λ_ _=>none) x
noncomputable def G9(x:bk)(k:List Value->cz->Out):Out:=@bk.rec (λ_=>Out) k (λ_=>none) (λ_ _=>none) (λ_ _=>none) (λ_=>none) none (λ_ _=>none) x
noncomputable def tB(o:aV):oZ:=⟨λK a e H k=>bJ (o.run K a e H) λp=>k p.1 p.2⟩
noncomputable def xL:Value->Bool:=@Value.rec (λ_=>Bool) (λ_=>PUnit) (λ_=>PUnit) (λ_=>true) (λ_ _=>true) (λ_ _=>true) (λ_ _ _=>true) (λ_=>true) (λ_=>true) (λ_ _ _=>true) (λ_=>true) (λ_=>true) (λ_ _ _ _ _=>true) true (λ_ _ _=>true) true (λ_ _=>false) (λ_ _=>false) (λ_ _=>⟨⟩) ⟨⟩ (λ_ _ _ _=>⟨⟩)
noncomputable def sN(x:bC)(f:Value->(Value->Out)->Out):oZ:=⟨λ_ _ e H k=>(dc x).g e λv=>f v λu=>k u H⟩
noncomputable def xN:aV->oZ
 | .cM x=>⟨λ_ _ e H k=>(dc x).g e λv=>k v H⟩
 | .bin a q x y=>⟨λ_ _ e H k=>(dc x).g e λb=>(dc y).g e λc=>(zG a q).f b c λv=>k v H⟩
 | .call f a=>⟨λK b e H k=>(w' a).f e λl=>bJ (K b f l H) λp=>k p.1 p.2⟩
 | .len .l x=>sN x λv k=>wO v λ_ n _=>k (.int .i64 (.ofNat n))
 | .len .s x=>sN x λv k=>qb v λs=>k (.int .i64 (.ofNat s.size))
 | .load a n b=>@Bool.rec (λ_=>oZ) ⟨λ_ _ e H k=>(dc b).g e λv=>mz v λc=>rA H c.block λx=>z6 x λd=>j9 d c.off λu=>k u H⟩ (tB (.load a n b)) a
 | .store n b x=>@Bool.rec (λ_=>oZ) (tB (.store n b x)) ⟨λ_ d e H k=>(dc b).g e λv=>mz v λa=>(dc x).g e λu=>dX (xL u) (rA H a.block λy=>G9 y λc z=>hX u c a.off λc=>dX (d.may a.block) (k bz (H.put a.block (.cells c z))) none) (bJ ((aV.store n b x).run (λ_ _ _ _=>none) d e H) λp=>k p.1 p.2)⟩ (Nat.beq n 1)
 | .pick c a b=>⟨λ_ _ e H k=>(dc c).g e λv=>rI v λt=>dX t ((dc a).g e λu=>k u H) ((dc b).g e λu=>k u H)⟩
 | .iW b x i=>⟨λ_ _ e H k=>(dc x).g e λv=>(dc i).g e λu=>wO v λo c _=>bJ o λa=>rJ u λj=>dX (Nat.ble (Nat.succ j) c) (k (.pointer (some ⟨a.block,Nat.add a.off (Nat.mul j b),none⟩)) H) none⟩
 | .qv n b x i=>⟨λ_ _ e H k=>(dc x).g e λv=>(dc i).g e λu=>mz v λa=>rJ u λj=>dX (Nat.ble (Nat.succ j) n) (k (.pointer (some ⟨a.block,Nat.add a.off (Nat.mul j b),none⟩)) H) none⟩
 | .j2 x i=>⟨λ_ _ e H k=>(dc x).g e λv=>(dc i).g e λu=>qb v λs=>rJ u λj=>j9 s.data.toList j λb=>k (.int .u8 (.ofNat b.toNat)) H⟩
 | .extract x i=>sN x λv k=>G7 v (λ_=>none) λa=>j9 a.toList i k
 | .fieldAddr b x=>sN x λv k=>mz v λa=>k (.pointer (some ⟨a.block,Nat.add a.off b,none⟩))
 | .nilCheck x=>sN x λv k=>mz v λa=>k (.pointer (some a))
 | .conv (.int a) x=>sN x λv k=>o' v λ_ n=>k (.int a (wr a n))
 | .box t x=>⟨λ_ a e H k=>(dc x).g e λv=>k (ptr (a.pick H)) (a.make H (.cells v.cells.toList (.t t)))⟩
 | o=>tB o
noncomputable def B1(o:aw):oZ:=@Option.rec (Nat×Bool) (λ_=>oZ) (xN o.op) (λp=>⟨λK a e H k=>(sX p.1).g e λv=>bJ (@Value.rec (λ_=>Option Bool) (λ_=>PUnit) (λ_=>PUnit) (λb=>some (b==p.2)) (λ_ _=>some false) (λ_ _=>some false) (λ_ _ _=>some false) (λ_=>some false) (λ_=>some false) (λ_ _ _=>some false) (λ_=>some false) (λ_=>some false) (λ_ _ _ _ _=>some false) (some false) (λ_ _ _=>some false) (some false) (λ_ _=>some false) (λ_ _=>some false) (λ_ _=>⟨⟩) ⟨⟩ (λ_ _ _ _=>⟨⟩) v) λw=>dX w ((xN o.op).f K a e H k) (k bz H)⟩) o.guard
noncomputable def xP:List aw->F4:=@List.rec aw (λ_=>F4) ⟨λ_ _ e H k=>k e H⟩ (λo _ ih=>⟨λK a e H k=>(B1 o).f K a e H λv H=>ih.f K a ((Cr o.dst).s v e) H k⟩)
noncomputable def A8(f:Env->ad->(dS->Env->ad->Out)->Out)(k:dS->Env->ad->Out):Nat->Env->ad->Out:=
 @Nat.rec (λ_=>Env->ad->Out) (λ_ _=>none) (λ_ ih e H=>f e H λx=>@dS.rec (λ_=>Env->ad->Out) ih (λi=>k (.exit i)) (k .ret) x)
noncomputable def nJ:aM->FB:=
 @aM.rec (λ_=>FB)
  ⟨λ_ _ _ e H k=>k .normal e H⟩
  (λb=>⟨λK a _ e H k=>(xP b).f K a e H λe H=>k .normal e H⟩)
  (λb c=>⟨λK a _ e H k=>bJ (nZ K a b c e H) λp=>k .normal p.1 p.2⟩)
  (λ_ _ d c=>⟨λK a b e H k=>d.f K a b e H λx=>@dS.rec (λ_=>Env->ad->Out) (λe H=>c.f K a b e H k) (λi=>k (.exit i)) (k .ret) x⟩)
  (λf _ _ d c=>⟨λK a b e H k=>(dc f).g e λv=>rI v λf=>dX f (d.f K a b e H k) (c.f K a b e H k)⟩)
  (λid _ c=>⟨λK a b e H k=>c.f K a b e H λx=>@dS.rec (λ_=>Env->ad->Out) (k .normal) (λi e H=>dX (Nat.beq i id) (k .normal e H) (k (.exit i) e H)) (k .ret) x⟩)
  (λ_ c=>⟨λK a b e H k=>A8 (c.f K a b) k b e H⟩)
  (λid=>⟨λ_ _ _ e H k=>k (.exit id) e H⟩)
  ⟨λ_ _ _ e H k=>k .ret e H⟩
  (λ_=>⟨λ_ _ _ _ _ _=>none⟩)
structure Mj where
 f:bY->Perm->Nat->List Value->ad->Out
noncomputable def w9:List Value->Nat->Env->Env:=@List.rec Value (λ_=>Nat->Env->Env) (λ_ e=>e) (λv _ ih n e=>ih (Nat.succ n) ((yz n).s v e))
noncomputable def ve:List ld->Env->ad->(List Value->Out)->Out:=@List.rec ld (λ_=>Env->ad->(List Value->Out)->Out) (λ_ _ k=>k [])
 (λr _ ih e H k=>@ld.rec (λ_=>Out) (λt=>(sX t).g e λv=>ih e H λl=>k (v::l)) (λt g n=>bJ (dG H g n (e.get t)) λv=>ih e H λl=>k (v::l)) r)
noncomputable def AN(F:aZ):Mj:=⟨λK b c a H=>dX (Nat.ble a.length F.hN) ((nJ F.body).f K b c (w9 a 0 .ag) H λx e H=>@dS.rec (λ_=>Out) (ve F.res e H λl=>some (.normal,.an .ag (some (f' l)) .ag,H)) (λ_=>none) (ve F.res e H λl=>some (.normal,.an .ag (some (f' l)) .ag,H)) x) none⟩
noncomputable def xQ(o:Out):Option (Value×ad):=@Option.rec (dS×Env×ad) (λ_=>Option (Value×ad)) none (λp=>@bG.rec Value (λ_=>Option (Value×ad)) none (λ_ v _ _ _=>@Option.rec Value (λ_=>Option (Value×ad)) none (λv=>some (v,p.2.2)) v) p.2.1) o
noncomputable def vj(T:Nat->Option aZ)(S:bY->bY)(a:Nat):Nat->bY:=
 @Nat.rec (λ_=>bY) (λ_ _ _ _=>none) (λ_ ih=>S λb f c H=>@Option.rec aZ (λ_=>Option (Value×ad)) none (λF=>xQ ((AN F).f ih b a c H)) (T f))
theorem mv{a b:Nat} (h:a≠b:=by omega):Nat.beq a b=false:=by rw[cC];simp[h]
theorem gR{α:Type}(x:α)(k:α->Out):bJ (some x) k=k x:=rfl
theorem lH(b:Bool)(x y:Out):dX b x y=bif b then x else y:=by cases b<;>rfl
theorem J4(f:Nat):kf (f+1) 0=[]:=rfl
theorem J3(f j:Nat):kf (f+1) (2*j+1)=true::kf f j:=by
 have a:Nat.beq (2*j+1) 0=false:=mv;have b:Nat.beq (Nat.mod (2*j+1) 2) 1=true:=by
  rw[show Nat.mod (2*j+1) 2=(2*j+1)%2 from rfl,show(2*j+1)%2=1 by omega];rfl
 have c:Nat.div (2*j+1) 2=j:=by rw[show Nat.div (2*j+1) 2=(2*j+1)/2 from rfl];omega
 simp only[kf,a,b,c,cond_true,cond_false]
theorem J2(f j:Nat):kf (f+1) (2*j+2)=false::kf f j:=by
 have c:Nat.beq (2*j+2) 0=false:=mv;have d:Nat.beq (Nat.mod (2*j+2) 2) 1=false:=by
  rw[show Nat.mod (2*j+2) 2=(2*j+2)%2 from rfl,show(2*j+2)%2=0 by omega];rfl
 have e:Nat.sub (Nat.div (2*j+2) 2) 1=j:=by rw[show Nat.div (2*j+2) 2=(2*j+2)/2 from rfl,show ∀a b,Nat.sub a b=a-b from λ_ _=>rfl];omega
 simp only[kf,c,d,e,cond_false]
theorem three(k:Nat):k=0∨(∃j,k=2*j+1)∨∃j,k=2*j+2:=by
 rcases uZ k with h | h
 ·exact .inl h
 ·rcases Nat.mod_two_eq_zero_or_one k with a | a
  ·exact .inr (.inr ⟨k/2-1,by omega⟩)
  ·exact .inr (.inl ⟨k/2,by omega⟩)
theorem xi{α:Type}(l r:bG α)(v:Option α)(j:Nat):(bG.an l v r).get (2*j+1)=l.get j:=by
 have a:Nat.beq (2*j+1) 0=false:=mv;have b:Nat.beq ((2*j+1)%2) 1=true:=by rw[show(2*j+1)%2=1 by omega];rfl
 simp only[bG.get,a,b,cond_true,cond_false,show(2*j+1)/2=j by omega]
theorem xg{α:Type}(l r:bG α)(v:Option α)(j:Nat):(bG.an l v r).get (2*j+2)=r.get j:=by
 have a:Nat.beq (2*j+2) 0=false:=mv;have b:Nat.beq ((2*j+2)%2) 1=false:=by rw[show(2*j+2)%2=0 by omega];rfl
 simp only[bG.get,a,b,cond_false,show(2*j+2)/2-1=j by omega]
theorem AU:∀(f k:Nat) (e:Env) (c:Value->Out),k<f->(HO (kf f k)).g e c=bJ (e.get k) c
 | 0,_,_,_,_=>by omega
 | f+1,k,e,c,_=>by
   rcases three k with rfl | ⟨j,rfl⟩ | ⟨j,rfl⟩
   ·rw[J4];cases e<;>rfl
   ·rw[J3]
    cases e with
    | ag=>rfl
    | an l _ _=>
      rw[xi];exact AU f j l c (by omega)
   ·rw[J2]
    cases e with
    | ag=>rfl
    | an _ _ r=>
      rw[xg];exact AU f j r c (by omega)
theorem Df(n:Nat)(e:Env)(c:Value->Out):(sX n).g e c=bJ (e.get n) c:=AU (n+1) n e c (nd n)
theorem SI{α:Type}(x:α)(l r:bG α)(v:Option α)(j:Nat):(bG.an l v r).set x (2*j+1)=.an (l.set x j) v r:=by
 have a:Nat.beq (2*j+1) 0=false:=mv;have b:Nat.beq ((2*j+1)%2) 1=true:=by rw[show(2*j+1)%2=1 by omega];rfl
 simp only[bG.set,a,b,cond_true,cond_false,show(2*j+1)/2=j by omega]
theorem SG{α:Type}(x:α)(l r:bG α)(v:Option α)(j:Nat):(bG.an l v r).set x (2*j+2)=.an l v (r.set x j):=by
 have a:Nat.beq (2*j+2) 0=false:=mv;have b:Nat.beq ((2*j+2)%2) 1=false:=by rw[show(2*j+2)%2=0 by omega];rfl
 simp only[bG.set,a,b,cond_false,show(2*j+2)/2-1=j by omega]
theorem xM{α:Type}(x:α):∀(f g k:Nat),k<f->k<g->bG.one x f k=bG.one x g k
 | 0,_,_,_,_=>by omega
 | _,0,_,_,_=>by omega
 | f+1,g+1,k,_,_=>by
   simp only[bG.one]
   cases a:Nat.beq k 0 with
   | true=>rfl
   | false=>
     have b:k≠0:=by rw[cC]at a;simpa using a
     simp only[cond_false];rw[xM x f g (k/2) (by omega) (by omega),xM x f g (k/2-1) (by omega) (by omega)]
theorem yw{α:Type}(x:α)(k:Nat):(bG.ag:bG α).set x k=bG.one x (k+1) k:=rfl
theorem Rz{α:Type}(x:α)(f j:Nat):bG.one x (f+1) (2*j+1)=.an (bG.one x f j) none .ag:=by
 have a:Nat.beq (2*j+1) 0=false:=mv;have b:Nat.beq ((2*j+1)%2) 1=true:=by rw[show(2*j+1)%2=1 by omega];rfl
 simp only[bG.one,a,b,cond_true,cond_false,show(2*j+1)/2=j by omega]
theorem Ry{α:Type}(x:α)(f j:Nat):bG.one x (f+1) (2*j+2)=.an .ag none (bG.one x f j):=by
 have a:Nat.beq (2*j+2) 0=false:=mv;have b:Nat.beq ((2*j+2)%2) 1=false:=by rw[show(2*j+2)%2=0 by omega];rfl
 simp only[bG.one,a,b,cond_false,show(2*j+2)/2-1=j by omega]
theorem vm:∀(f k:Nat) (x:Value) (e:Env),k<f->(K7 (kf f k)).s x e=e.set x k
 | 0,_,_,_,_=>by omega
 | f+1,k,x,e,_=>by
   rcases three k with rfl | ⟨j,rfl⟩ | ⟨j,rfl⟩
   ·rw[J4];cases e<;>rfl
   ·rw[J3]
    cases e with
    | ag=>
      rw[yw,Rz,xM x (2*j+1) (j+1) j (by omega) (by omega),<-yw];exact congrArg (λt=>bG.an t none bG.ag) (vm f j x .ag (by omega))
    | an l v r=>
      rw[SI];exact congrArg (λt=>bG.an t v r) (vm f j x l (by omega))
   ·rw[J2]
    cases e with
    | ag=>
      rw[yw,Ry,xM x (2*j+2) (j+1) j (by omega) (by omega),<-yw];exact congrArg (λt=>bG.an bG.ag none t) (vm f j x .ag (by omega))
    | an l v r=>
      rw[SG];exact congrArg (λt=>bG.an l v t) (vm f j x r (by omega))
theorem Lf(n:Nat)(x:Value)(e:Env):(yz n).s x e=e.set x n:=vm (n+1) n x e (nd n)
theorem hJ(r:bC)(e:Env)(c:Value->Out):(dc r).g e c=bJ (aO e r) c:=by
 cases r with
 | t n=>exact Df n e c
 | c _=>rfl
theorem RX(d:Option Nat)(v:Value)(e:Env):(Cr d).s v e=putDst e d v:=by
 cases d with
 | none=>rfl
 | some d=>exact Lf d v e
theorem Hy:∀(l:List bC) (e:Env) (c:List Value->Out),(w' l).f e c=bJ (dN e l) c
 | [],e,c=>rfl
 | r::l,e,c=>by
   show(dc r).g e (λv=>(w' l).f e λt=>c (v::t))=_;rw[hJ];simp only[dN]
   cases aO e r with
   | none=>rfl
   | some v=>
     simp only[gR];rw[Hy l];cases dN e l<;>rfl
theorem AT:∀(f b:Nat) (t:bG bk) (k:bk->Out),b<f->xf f b t k=bJ (t.get b) k
 | 0,_,_,_,_=>by omega
 | f+1,b,t,k,_=>by
   cases t with
   | ag=>rfl
   | an l v r=>
     show dX (Nat.beq b 0) (bJ v k) (dX (Nat.beq (Nat.mod b 2) 1) (xf f (Nat.div b 2) l k) (xf f (Nat.sub (Nat.div b 2) 1) r k))=_;have c:∀a,Nat.mod a 2=a%2:=λ_=>rfl;have d:∀a,Nat.div a 2=a/2:=λ_=>rfl;have e:∀a,Nat.sub a 1=a-1:=λ_=>rfl
     rcases three b with rfl | ⟨j,rfl⟩ | ⟨j,rfl⟩
     ·rfl
     ·rw[xi,c,d,show(2*j+1)%2=1 by omega,show(2*j+1)/2=j by omega];have a:Nat.beq (2*j+1) 0=false:=mv;rw[a];exact AT f j l k (by omega)
     ·rw[xg,c,d,e,show(2*j+2)%2=0 by omega,show(2*j+2)/2-1=j by omega];have a:Nat.beq (2*j+2) 0=false:=mv;rw[a];exact AT f j r k (by omega)
theorem GA(H:ad)(b:Nat)(k:bk->Out):rA H b k=bJ (H.get b) k:=AT (b+1) b H.t k (nd b)
theorem uI{α:Type}:∀(l:List α) (n:Nat) (k:α->Out),j9 l n k=bJ l[n]? k
 | [],n,k=>by simp[j9,bJ]
 | x::l,0,k=>rfl
 | x::l,n+1,k=>by
   rw[ou];exact uI l n k
theorem K6(x:Value):∀(l:List Value) (n:Nat) (k:List Value->Out),hX x l n k=bJ (setCells l n [x]) k
 | [],n,k=>by simp[hX,setCells,bJ,cg]
 | y::l,0,k=>by
   simp only[setCells,cg,gu,List.length_nil];rw[ix (by omega)];rfl
 | y::l,n+1,k=>by
   show hX x l n (λr=>k (y::r))=_;rw[K6 x l n];simp only[setCells,cg,gu,List.length_nil];by_cases h:n+(0+1)<=l.length
   ·rw[ix h,ix (by omega)];simp only[cond_true,gR,List.take_succ_cons];rw[show n+1+(0+1)=(n+(0+1))+1 by omega,R5];rfl
   ·rw[l0 h,l0 (by omega)];rfl
theorem xo(a b:IntKind):n5 a b=decide (a=b):=by cases a<;>cases b<;>rfl
theorem GD:∀(a b:List UInt8),tL a b=(a==b)
 | [],[]=>rfl
 | [],_::_=>rfl
 | _::_,[]=>rfl
 | a::x,b::y=>by
   have h:Nat.beq a.toNat b.toNat=(a==b):=by
    rw[cC];by_cases q:a=b
    ·subst q;simp
    ·rw[l0 (λe=>q (u3.1 e))];simp[q]
   simp only[tL,h,GD x y];show _=(a==b&&x==y);cases (a==b)<;>rfl
theorem Gl(d:BinOp)(f:Int->Int->Int)(g:∀k a b,fi d k a b=some (.int k (wr k (f a b))))(h:∀s t,pO d s t=none)(x y:Value)(k:Value->Out):zA f x y k=bJ (sr d x y) k:=by
 cases x<;>first | rfl | skip
 case int c a=>
  cases y<;>first | rfl | skip
  case int e b=>
   show dX (n5 c e) (k (.int c (wr c (f a b)))) none=bJ (if c=e then fi d c a b else none) k;rw[xo,lH,g];by_cases i:c=e<;>simp[i,bJ]
 case string s=>
  cases y<;>first | rfl | skip
  case string t=>
   show none=bJ (pO d s t) k;rw[h];rfl
theorem wH(c:BinOp)(f:Int->Int->Bool)(g:∀k a b,fi c k a b=some (.bool (f a b)))(x y:Value)(k:Value->Out):tW c f x y k=bJ (sr c x y) k:=by
 cases x<;>first | rfl | skip
 case int d a=>
  cases y<;>first | rfl | skip
  case int e b=>
   show dX (n5 d e) (k (.bool (f a b))) none=bJ (if d=e then fi c d a b else none) k;rw[xo,lH,g];by_cases h:d=e<;>simp[h,bJ]
 case string _=>
  cases y<;>rfl
theorem Ht(neg:Bool)(q:jo)(x y:Value)(k:Value->Out):(uf neg q).f x y k=bJ (match iC q x y with | some b=>some (.bool (xor neg b)) | none=>none) k:=by
 cases q with
 | bE=>
   cases x<;>first | rfl | skip
   case int a d=>
    cases y<;>first | rfl | skip
    case int c b=>
     show dX (n5 a c) (k (.bool (xor neg (fQ d b)))) none=bJ (match (if a=c then some (fQ d b) else none) with | some b=>some (.bool (xor neg b)) | none=>none) k;rw[xo,lH];by_cases h:a=c<;>simp[h,bJ]
   case string s=>
    cases y<;>first | rfl | skip
    case string t=>
     show k (.bool (xor neg (tL s.data.toList t.data.toList)))=bJ (match some (s.toList==t.toList) with | some b=>some (Value.bool (xor neg b)) | none=>none) k;rw[GD,Go.ByteArray.toList_eq,Go.ByteArray.toList_eq];rfl
 | bool=>
   cases x<;>first | rfl | skip
   cases y<;>rfl
 | nil n=>
   show bJ (h8 n x y) (λb=>k (.bool (xor neg b)))=bJ (match h8 n x y with | some b=>some (.bool (xor neg b)) | none=>none) k;cases h8 n x y<;>rfl
 | cells e=>
   show bJ (iC (.cells e) x y) (λb=>k (.bool (xor neg b)))=_;cases iC (.cells e) x y<;>rfl
theorem M8(b:BinOp)(q:jo)(x y:Value)(k:Value->Out):(zG b q).f x y k=bJ (binOp b q x y) k:=by
 cases b<;>first | rfl | skip
 case add=>
  cases x<;>first | rfl | skip
  case int a e=>
   cases y<;>first | rfl | skip
   case int c f=>
    show dX (n5 a c) (k (.int a (wr a (Int.add e f)))) none=bJ (if a=c then fi .add a e f else none) k;rw[xo,lH];by_cases h:a=c
    ·rw[ix h,aT h];rfl
    ·rw[l0 h,aC h];rfl
  case string _=>cases y<;>rfl
 case sub=>exact Gl .sub _ (λ_ _ _=>rfl) (λ_ _=>rfl) x y k
 case mul=>exact Gl .mul _ (λ_ _ _=>rfl) (λ_ _=>rfl) x y k
 case lss=>exact wH .lss _ (λ_ _ _=>rfl) x y k
 case leq=>exact wH .leq _ (λ_ _ _=>rfl) x y k
 case gtr=>exact wH .gtr _ (λ_ _ _=>rfl) x y k
 case geq=>exact wH .geq _ (λ_ _ _=>rfl) x y k
 case eql=>
  show(uf false q).f x y k=_;rw[Ht];show _=bJ (match iC q x y with | some d=>some (.bool d) | none=>none) k
  cases iC q x y with
  | none=>rfl
  | some d=>cases d<;>rfl
 case neq=>
  show(uf true q).f x y k=_;rw[Ht];show _=bJ (match iC q x y with | some d=>some (.bool (!d)) | none=>none) k
  cases iC q x y with
  | none=>rfl
  | some d=>cases d<;>rfl
theorem JM(v:Value):xL v=c6 v:=by cases v<;>rfl
theorem tC(o:aV)(K:bY)(ah:Perm)(e:Env)(H:ad)(k:Value->ad->Out):(tB o).f K ah e H k=bJ (o.run K ah e H) λp=>k p.1 p.2:=rfl
theorem qT{o:Option Value}{ah:Perm}{H:ad}{k:Value->ad->Out}:bJ ((eT o).run ah H) (λp=>k p.1 p.2)=bJ o λu=>k u H:=by cases o<;>rfl
theorem qY{o:Option Value}{f:Value->aQ}{ah:Perm}{H:ad}{k:Value×ad->Out}:bJ ((cS o f).run ah H) k=bJ o λv=>bJ ((f v).run ah H) k:=by cases o<;>rfl
theorem JO(o:aV)(K:bY)(ah:Perm)(e:Env)(H:ad)(k:Value->ad->Out):(xN o).f K ah e H k=bJ (o.run K ah e H) λp=>k p.1 p.2:=by
 cases o<;>try exact tC _ K ah e H k
 case cM x=>
  show(dc x).g e (λv=>k v H)=bJ ((eT (aO e x)).run ah H) λp=>k p.1 p.2;rw[hJ,qT]
 case pick g a b=>
  show(dc g).g e (λv=>rI v λt=>dX t ((dc a).g e λu=>k u H) ((dc b).g e λu=>k u H))=bJ ((aV.B e (.pick g a b)).run ah H) λp=>k p.1 p.2;simp only[aV.B,hJ,qY];congr 1;funext v;cases v<;>try rfl
  case bool t=>
   cases t
   ·exact qT.symm
   ·exact qT.symm
 case box t x=>
  show(dc x).g e (λv=>k (ptr (ah.pick H)) (ah.make H (.cells v.cells.toList (.t t))))=bJ ((aV.B e (.box t x)).run ah H) λp=>k p.1 p.2;simp only[aV.B,hJ,qY];rfl
 case load G n a=>
  cases G with
  | true=>exact tC _ K ah e H k
  | false=>
    show(dc a).g e (λv=>mz v λc=>rA H c.block λx=>z6 x λd=>j9 d c.off λu=>k u H)=bJ ((aV.B e (.load false n a)).run ah H) λp=>k p.1 p.2;simp only[aV.B,hJ]
    cases aO e a with
    | none=>rfl
    | some v=>
      simp only[gR];cases v<;>try rfl
      case pointer p=>
       cases p with
       | none=>rfl
       | some c=>
         show rA H c.block (λx=>z6 x λd=>j9 d c.off λu=>k u H)=_;rw[GA];simp only[jV,aQ.run]
         cases H.get c.block with
         | none=>rfl
         | some x=>
           simp only[gR];cases x<;>try rfl
           case cells d _=>
            show j9 d c.off (λu=>k u H)=bJ ((eT d[c.off]?).run ah H) λp=>k p.1 p.2;rw[uI,qT]
           case ro d=>
            show j9 d c.off (λu=>k u H)=bJ ((eT d[c.off]?).run ah H) λp=>k p.1 p.2;rw[uI,qT]
 case store n a x=>
  show(@Bool.rec (λ_=>oZ) (tB (.store n a x)) _ (Nat.beq n 1)).f K ah e H k=_
  cases j:Nat.beq n 1 with
  | false=>exact tC _ K ah e H k
  | true=>
    have m:n=1:=by rw[cC]at j;simpa using j
    subst m;show(dc a).g e (λv=>mz v λc=>(dc x).g e λu=>dX (xL u) (rA H c.block λy=>G9 y λd z=>hX u d c.off λd=>dX (ah.may c.block) (k bz (H.put c.block (.cells d z))) none) (bJ ((aV.store 1 a x).run (λ_ _ _ _=>none) ah e H) λp=>k p.1 p.2))=bJ ((aV.B e (.store 1 a x)).run ah H) λp=>k p.1 p.2;simp only[hJ]
    cases h:aO e a with
    | none=>simp[aV.B,h,kH,aQ.run,bJ]
    | some v=>
      simp only[gR];cases v<;>try (simp only[aV.B,h,kH];rfl)
      case pointer p=>
       cases p with
       | none=>simp only[aV.B,h,kH];rfl
       | some c=>
         show bJ (aO e x) _=_
         cases l:aO e x with
         | none=>simp only[aV.B,h,l,kH];rfl
         | some u=>
           simp only[gR];rw[lH]
           cases e:xL u with
           | false=>rfl
           | true=>
             have o:u.cells=#[u]:=by cases u<;>first | rfl | (exact absurd e (by rw[JM];simp[c6]))
             simp only[cond_true,aV.B,h,l,kH,o];show _=bJ ((putRow c [u] (.ret bz)).run ah H) λp=>k p.1 p.2;simp only[putRow,aQ.run];rw[GA]
             cases H.get c.block with
             | none=>rfl
             | some y=>
               simp only[gR];cases y<;>try rfl
               case cells d z=>
                show hX u d c.off (λd=>dX (ah.may c.block) (k bz (H.put c.block (.cells d z))) none)=_;have p:[u].all c6=true:=by simp[<-JM,e]
                simp only[p,cond_true];rw[K6];cases setCells d c.off [u]with
                | none=>rfl
                | some d=>
                  simp only[gR,aQ.run];rw[lH];cases ah.may c.block<;>rfl
 case nilCheck x=>
  show(dc x).g e (λv=>mz v λc=>k (.pointer (some c)) H)=bJ ((aV.B e (.nilCheck x)).run ah H) λp=>k p.1 p.2;simp only[aV.B,hJ,qY];congr 1;funext v;cases v<;>try rfl
  case pointer p=>cases p<;>rfl
 case bin A B x y=>
  show(dc x).g e (λa=>(dc y).g e λb=>(zG A B).f a b λv=>k v H)=bJ ((aV.B e (.bin A B x y)).run ah H) λp=>k p.1 p.2;simp only[aV.B,hJ,qY,M8,qT]
 case conv g x=>
  cases g<;>try exact tC _ K ah e H k
  case int r=>
   show(dc x).g e (λv=>o' v λ_ n=>k (.int r (wr r n)) H)=bJ ((aV.B e (.conv (.int r) x)).run ah H) λp=>k p.1 p.2;simp only[aV.B,hJ,qY];congr 1;funext v;cases v<;>rfl
 case fieldAddr C x=>
  show(dc x).g e (λv=>mz v λc=>k (.pointer (some ⟨c.block,Nat.add c.off C,none⟩)) H)=bJ ((aV.B e (.fieldAddr C x)).run ah H) λp=>k p.1 p.2;simp only[aV.B,hJ,qY];congr 1;funext v;cases v<;>try rfl
  case pointer p=>cases p<;>rfl
 case iW f x i=>
  show(dc x).g e (λv=>(dc i).g e λu=>wO v λo d _=>bJ o λc=>rJ u λj=>dX (Nat.ble (Nat.succ j) d) (k (.pointer (some ⟨c.block,Nat.add c.off (Nat.mul j f),none⟩)) H) none)=bJ ((aV.B e (.iW f x i)).run ah H) λp=>k p.1 p.2;simp only[aV.B,hJ]
  cases aO e x with
  | none=>rfl
  | some v=>
    cases aO e i with
    | none=>cases v<;>try rfl
            case slice b _ _=>cases b<;>rfl
    | some u=>
      simp only[gR];cases v<;>try rfl
      case slice b q _=>
       cases b with
       | none=>rfl
       | some c=>
         cases u<;>try rfl
         case int _ n=>
          cases n with
          | negSucc _=>rfl
          | ofNat j=>
            show dX (Nat.ble (Nat.succ j) q) _ none=bJ ((bif Nat.blt j q then aQ.ret (.pointer (some ⟨c.block,c.off+j*f,none⟩)) else .fail).run ah H) λp=>k p.1 p.2;rw[lH];show(bif Nat.blt j q then _ else _)=_;cases Nat.blt j q<;>rfl
 case qv n f x i=>
  show(dc x).g e (λv=>(dc i).g e λu=>mz v λc=>rJ u λj=>dX (Nat.ble (Nat.succ j) n) (k (.pointer (some ⟨c.block,Nat.add c.off (Nat.mul j f),none⟩)) H) none)=bJ ((aV.B e (.qv n f x i)).run ah H) λp=>k p.1 p.2;simp only[aV.B,hJ]
  cases aO e x with
  | none=>rfl
  | some v=>
    cases aO e i with
    | none=>cases v<;>try rfl
            case pointer b=>cases b<;>rfl
    | some u=>
      simp only[gR];cases v<;>try rfl
      case pointer b=>
       cases b with
       | none=>rfl
       | some c=>
         cases u<;>try rfl
         case int _ D=>
          cases D with
          | negSucc D=>rfl
          | ofNat j=>
            show dX (Nat.ble (Nat.succ j) n) _ none=bJ ((bif Nat.blt j n then aQ.ret (.pointer (some ⟨c.block,c.off+j*f,none⟩)) else .fail).run ah H) λp=>k p.1 p.2;rw[lH];show(bif Nat.blt j n then _ else _)=_;cases Nat.blt j n<;>rfl
 case j2 x i=>
  show(dc x).g e (λv=>(dc i).g e λu=>qb v λs=>rJ u λj=>j9 s.data.toList j λb=>k (.int .u8 (.ofNat b.toNat)) H)=bJ ((aV.B e (.j2 x i)).run ah H) λp=>k p.1 p.2;simp only[aV.B,hJ]
  cases aO e x with
  | none=>rfl
  | some v=>
    cases aO e i with
    | none=>cases v<;>rfl
    | some u=>
      simp only[gR];cases v<;>try rfl
      case string s=>
       cases u<;>try rfl
       case int _ E=>
        cases E with
        | negSucc E=>rfl
        | ofNat j=>
          show j9 s.data.toList j (λb=>k (.int .u8 (.ofNat b.toNat)) H)=bJ ((match s.data.toList[j]? with | some b=>aQ.ret (.int .u8 (b.toNat:Int)) | none=>.fail).run ah H) λp=>k p.1 p.2;rw[uI];cases s.data.toList[j]?<;>rfl
 case extract x i=>
  show(dc x).g e (λv=>G7 v (λ_=>none) (λc=>j9 c.toList i λu=>k u H))=bJ ((aV.B e (.extract x i)).run ah H) λp=>k p.1 p.2;simp only[aV.B,hJ,qY];congr 1;funext v;cases v<;>try rfl
  case tuple c=>
   show j9 c.toList i (λu=>k u H)=bJ ((eT c.toList[i]?).run ah H) λp=>k p.1 p.2;rw[uI,qT]
 case call F w=>
  show(w' w).f e (λl=>bJ (K ah F l H) λp=>k p.1 p.2)=bJ (match dN e w with | some l=>K ah F l H | none=>none) λp=>k p.1 p.2;rw[Hy];cases dN e w<;>rfl
 case len g x=>
  cases g
  case m=>exact tC _ K ah e H k
  case s=>
   show(dc x).g e (λv=>qb v λs=>k (.int .i64 (.ofNat s.size)) H)=bJ ((aV.B e (.len .s x)).run ah H) λp=>k p.1 p.2;simp only[aV.B,hJ]
   cases aO e x with
   | none=>rfl
   | some v=>cases v<;>rfl
  case l=>
   show(dc x).g e (λv=>wO v λ_ n _=>k (.int .i64 (.ofNat n)) H)=bJ ((aV.B e (.len .l x)).run ah H) λp=>k p.1 p.2;simp only[aV.B,hJ]
   cases aO e x with
   | none=>rfl
   | some v=>cases v<;>rfl
theorem RI(o:aw)(K:bY)(ah:Perm)(e:Env)(H:ad)(k:Value->ad->Out):(B1 o).f K ah e H k=bJ (o.run K ah e H) λp=>k p.1 p.2:=by
 obtain⟨_,g,a⟩:=o
 cases g with
 | none=>exact JO a K ah e H k
 | some p=>
   obtain⟨j,b⟩:=p;show(sX j).g e _=_;rw[Df];simp only[aw.run,aw.wanted]
   cases e.get j with
   | none=>rfl
   | some v=>
     simp only[gR];cases v<;>try rfl
     case bool c=>
      show dX (c==b) ((xN a).f K ah e H k) (k bz H)=bJ (match some (c==b) with | some true=>a.run K ah e H | some false=>some (bz,H) | none=>none) λp=>k p.1 p.2;rw[lH]
      cases (c==b) with
      | true=>exact JO a K ah e H k
      | false=>rfl
theorem JR:∀(l:List aw) (K:bY) (ah:Perm) (e:Env) (H:ad) (k:Env->ad->Out),(xP l).f K ah e H k=bJ (hK K ah l e H) λp=>k p.1 p.2
 | [],_,_,_,_,_=>rfl
 | o::l,K,ah,e,H,k=>by
   show(B1 o).f K ah e H (λv H=>(xP l).f K ah ((Cr o.dst).s v e) H k)=_;rw[RI];simp only[hK]
   cases o.run K ah e H with
   | none=>rfl
   | some p=>
     obtain⟨v,a⟩:=p;simp only[gR];rw[RX];exact JR l K ah _ a k
theorem H'(f:Env->ad->Out)(a:Env->ad->(dS->Env->ad->Out)->Out)(b:∀e H k,a e H k=bJ (f e H) λp=>k p.1 p.2.1 p.2.2)(k:dS->Env->ad->Out):∀(n:Nat) (e:Env) (H:ad),A8 a k n e H=bJ (iter f n e H) λp=>k p.1 p.2.1 p.2.2
 | 0,_,_=>rfl
 | n+1,e,H=>by
   show a e H (λx=>@dS.rec (λ_=>Env->ad->Out) (A8 a k n) (λi=>k (.exit i)) (k .ret) x)=_;rw[b];simp only[iter]
   cases f e H with
   | none=>rfl
   | some p=>
     obtain⟨x,c,d⟩:=p
     cases x with
     | normal=>exact H' f a b k n c d
     | exit i=>rfl
     | ret=>rfl
theorem Nx(K:bY)(ah:Perm)(a:Nat):∀(c:aM) (e:Env) (H:ad) (k:dS->Env->ad->Out),(nJ c).f K ah a e H k=bJ (eval K ah a c e H) λp=>k p.1 p.2.1 p.2.2:=by
 intro c
 induction c with
 | skip=>intro e H k;rfl
 | bj b=>
   intro e H k;show(xP b).f K ah e H (λe H=>k .normal e H)=_;rw[JR];simp only[eval];cases hK K ah b e H<;>rfl
 | draw b c=>
   intro e H k;show bJ (nZ K ah b c e H) (λp=>k .normal p.1 p.2)=_;simp only[eval];cases nZ K ah b c e H<;>rfl
 | seq b c d f=>
   intro e H k;show(nJ b).f K ah a e H (λx=>@dS.rec (λ_=>Env->ad->Out) (λe H=>(nJ c).f K ah a e H k) (λi=>k (.exit i)) (k .ret) x)=_;rw[d];simp only[eval]
   cases eval K ah a b e H with
   | none=>rfl
   | some p=>
     obtain⟨x,e,g⟩:=p
     cases x with
     | normal=>exact f e g k
     | exit i=>rfl
     | ret=>rfl
 | cond c b d f g=>
   intro e H k;show(dc c).g e (λv=>rI v λt=>dX t ((nJ b).f K ah a e H k) ((nJ d).f K ah a e H k))=_;rw[hJ];simp only[eval]
   cases aO e c with
   | none=>rfl
   | some v=>
     simp only[gR];cases v<;>try rfl
     case bool t=>
      cases t
      ·exact g e H k
      ·exact f e H k
 | block id b ih=>
   intro e H k;show(nJ b).f K ah a e H (λx=>@dS.rec (λ_=>Env->ad->Out) (k .normal) (λi e H=>dX (Nat.beq i id) (k .normal e H) (k (.exit i) e H)) (k .ret) x)=_;rw[ih];simp only[eval]
   cases eval K ah a b e H with
   | none=>rfl
   | some p=>
     obtain⟨x,c,d⟩:=p
     cases x with
     | normal=>rfl
     | exit i=>
       simp only[gR];show dX (Nat.beq i id) (k .normal c d) (k (.exit i) c d)=_;rw[lH];cases Nat.beq i id<;>rfl
     | ret=>rfl
 | loop b ih=>
   intro e H k;exact H' (eval K ah a b) ((nJ b).f K ah a) ih k a e H
 | exit id=>intro e H k;rfl
 | ret=>intro e H k;rfl
 | bad _=>intro e H k;rfl
theorem Hr:∀(l:List Value) (n:Nat) (e:Env),w9 l n e=mE l n e
 | [],_,_=>rfl
 | v::l,n,e=>by
   show w9 l (n+1) ((yz n).s v e)=_;rw[Lf];exact Hr l (n+1) _
theorem ym:∀(l:List ld) (e:Env) (H:ad) (k:List Value->Out),ve l e H k=bJ (ji e H l) k
 | [],_,_,_=>rfl
 | r::l,e,H,k=>by
   cases r with
   | slot t=>
     show(sX t).g e (λv=>ve l e H λl=>k (v::l))=_;rw[Df];simp only[ji]
     cases e.get t with
     | none=>rfl
     | some v=>
       simp only[gR];rw[ym l];cases ji e H l<;>rfl
   | cell t g n=>
     show bJ (dG H g n (e.get t)) (λv=>ve l e H λl=>k (v::l))=_;simp only[ji]
     cases dG H g n (e.get t) with
     | none=>rfl
     | some v=>
       simp only[gR];rw[ym l];cases ji e H l<;>rfl
theorem OA(F:aZ)(K:bY)(ah:Perm)(a:Nat)(args:List Value)(H:ad):xQ ((AN F).f K ah a args H)=rO K ah a F args H:=by
 show xQ (dX (Nat.ble args.length F.hN) ((nJ F.body).f K ah a (w9 args 0 .ag) H _) none)=_;rw[lH];unfold rO
 cases Nat.ble args.length F.hN with
 | false=>rfl
 | true=>
   simp only[cond_true,Bool.not_true,cond_false];rw[Nx,Hr]
   cases eval K ah a F.body (mE args 0 .ag) H with
   | none=>rfl
   | some p=>
     obtain⟨x,b,c⟩:=p
     cases x with
     | normal=>
       simp only[gR];rw[ym];cases ji b c F.res<;>rfl
     | exit _=>rfl
     | ret=>
       simp only[gR];rw[ym];cases ji b c F.res<;>rfl
theorem yn(T:Nat->Option aZ)(S:bY->bY)(a:Nat):∀n,vj T S a n=runK T S a n
 | 0=>rfl
 | n+1=>by
   show S _=S _;congr 1;funext ah f args H;show @Option.rec aZ (λ_=>Option (Value×ad)) none (λF=>xQ ((AN F).f (vj T S a n) ah a args H)) (T f)=_;rw[yn T S a n]
   cases T f with
   | none=>rfl
   | some F=>exact OA F _ ah a args H
def jh(σ:Nat->Option Nat):Value->Option Value
 | .pointer (some ⟨i,o,none⟩)=>(match σ i with | some b=>some (.pointer (some ⟨b,o,none⟩)) | none=>none)
 | .slice (some ⟨i,o,none⟩) n c=>(match σ i with | some b=>some (.slice (some ⟨b,o,none⟩) n c) | none=>none)
 | v=>bif plainCell v then some v else none
def iy(σ:Nat->Option Nat):List Value->Option (List Value)
 | []=>some []
 | v::l=>match jh σ v,iy σ l with
   | some a,some r=>some (a::r)
   | _,_=>none
def kn(σ:Nat->Option Nat):bk->Option bk
 | .cells a z=>(match iy σ a with | some l=>some (.cells l z) | none=>none)
 | .ro a=>(match iy σ a with | some l=>some (.ro l) | none=>none)
 | _=>none
def jG(σ:Nat->Option Nat):Value->Option Value
 | .agg a=>(match iy σ a.toList with | some l=>some (.agg l.toArray) | none=>none)
 | v=>jh σ v
def ko(σ:Nat->Option Nat):List Value->Option (List Value)
 | []=>some []
 | v::l=>match jG σ v,ko σ l with
   | some a,some r=>some (a::r)
   | _,_=>none
def CW(σ:Nat->Option Nat):Value->Option Value
 | .tuple a=>(match ko σ a.toList with | some l=>some (.tuple l.toArray) | none=>none)
 | v=>jG σ v
def idx(b:Nat):List Nat->Nat->Option Nat
 | [],_=>none
 | c::l,i=>bif Nat.beq c b then some i else idx b l (i+1)
def o7(b:Nat)(ρ:List Nat):Nat×List Nat:=match idx b ρ 0 with
 | some i=>(i,ρ)
 | none=>(ρ.length,ρ++[b])
def tM(v:Value)(ρ:List Nat):Option (Value×List Nat):=match v with
 | .pointer (some ⟨b,o,none⟩)=>some (.pointer (some ⟨(o7 b ρ).1,o,none⟩),(o7 b ρ).2)
 | .slice (some ⟨b,o,none⟩) n c=>some (.slice (some ⟨(o7 b ρ).1,o,none⟩) n c,(o7 b ρ).2)
 | v=>bif plainCell v then some (v,ρ) else none
def p':List Value->List Nat->Option (List Value×List Nat)
 | [],ρ=>some ([],ρ)
 | v::l,ρ=>match tM v ρ with
   | some (a,ρ)=>(match p' l ρ with | some (r,ρ)=>some (a::r,ρ) | none=>none)
   | none=>none
def zN(v:Value)(ρ:List Nat):Option (Value×List Nat):=match v with
 | .agg a=>(match p' a.toList ρ with | some (l,ρ)=>some (.agg l.toArray,ρ) | none=>none)
 | v=>tM v ρ
def tN:List Value->List Nat->Option (List Value×List Nat)
 | [],ρ=>some ([],ρ)
 | v::l,ρ=>match zN v ρ with
   | some (a,ρ)=>(match tN l ρ with | some (r,ρ)=>some (a::r,ρ) | none=>none)
   | none=>none
def zM(x:bk)(ρ:List Nat):Option (bk×List Nat):=match x with
 | .cells a z=>(match p' a ρ with | some (l,ρ)=>some (.cells l z,ρ) | none=>none)
 | .ro a=>(match p' a ρ with | some (l,ρ)=>some (.ro l,ρ) | none=>none)
 | _=>none
def wA(H:ad):Nat->Nat->List Nat->Option (List bk×List Nat)
 | 0,_,_=>none
 | f+1,i,ρ=>match ρ[i]? with
   | none=>some ([],ρ)
   | some b=>(match H.get b with
     | some x=>(match zM x ρ with
       | some (y,ρ)=>(match wA H f (i+1) ρ with | some (l,ρ)=>some (y::l,ρ) | none=>none)
       | none=>none)
     | none=>none)
def gg(ρ:List Nat)(i:Nat):Option Nat:=ρ[i]?
theorem H8{b:Nat}:∀{l:List Nat} {k i:Nat},idx b l k=some i->k<=i/\l[i-k]? = some b
 | [],_,_,h=>by cases h
 | c::l,k,i,h=>by
   unfold idx at h;rw[cC]at h;by_cases a:c=b
   ·simp only[a,decide_true,cond_true,ax]at h;subst h;simp[a]
   ·simp only[a,decide_false,cond_false]at h;obtain⟨_,a⟩:=H8 h;refine⟨by omega,?_⟩;rw[show i-k=(i-(k+1))+1 by omega,ou];exact a
theorem H7{b:Nat}:∀{l:List Nat} {k:Nat},idx b l k=none->b∉l
 | [],_,_=>by simp
 | c::l,k,h=>by
   unfold idx at h;rw[cC]at h;by_cases a:c=b
   ·simp only[a,decide_true,cond_true,reduceCtorEq]at h
   ·simp only[a,decide_false,cond_false]at h;have:=H7 h;simp only[hk,not_or];exact⟨λq=>a q.symm,this⟩
structure jM(ρ LP:List Nat):Prop where
 le:∀i b,gg ρ i=some b->gg LP i=some b
 an:ρ.Nodup->LP.Nodup
theorem jM.refl(ρ:List Nat):jM ρ ρ:=⟨λ_ _ h=>h,id⟩
theorem jM.trans{a b c:List Nat}(h:jM a b)(g:jM b c):jM a c:=⟨λi x e=>g.le i x (h.le i x e),λe=>g.an (h.an e)⟩
theorem GO(b:Nat)(ρ:List Nat):jM ρ (o7 b ρ).2/\gg (o7 b ρ).2 (o7 b ρ).1=some b:=by
 unfold o7
 cases h:idx b ρ 0 with
 | some _=>exact⟨.refl _,by simpa [gg]using(H8 h).2⟩
 | none=>
   refine⟨⟨λ_ _ e=>?_,λb=>?_⟩,by simp[gg]⟩
   ·unfold gg at*
    rw[hi (je.1 e).1];exact e
   ·rw[List.nodup_append];refine⟨b,by simp,λ_ c _ a e=>?_⟩;simp only[lY]at a;subst a;subst e;exact H7 h c
theorem CT{σ a:Nat->Option Nat}(AW:∀i b,σ i=some b->a i=some b){p v:Value}(h:jh σ p=some v):jh a p=some v:=by
 unfold jh at*
 split at h
 ·rename_i i _;split at h
  ·rename_i b c;simp only[AW i b c];exact h
  ·cases h
 ·rename_i i _ _ _;split at h
  ·rename_i b d;simp only[AW i b d];exact h
  ·cases h
 ·exact h
theorem yk{σ a:Nat->Option Nat}(AW:∀i b,σ i=some b->a i=some b):∀{l r:List Value},iy σ l=some r->iy a l=some r
 | [],r,h=>h
 | v::l,r,h=>by
   simp only[iy]at h|-;split at h
   ·rename_i _ _ c d;rw[CT AW c,yk AW d];exact h
   ·cases h
theorem R'{σ a:Nat->Option Nat}(AW:∀i b,σ i=some b->a i=some b){p x:bk}(h:kn σ p=some x):kn a p=some x:=by
 unfold kn at*
 split at h
 ·split at h
  ·rename_i c;simp only[yk AW c];exact h
  ·cases h
 ·split at h
  ·rename_i d;simp only[yk AW d];exact h
  ·cases h
 ·cases h
theorem GL{v p:Value}{ρ b:List Nat}(h:tM v ρ=some (p,b)):jM ρ b/\jh (gg b) p=some v:=by
 unfold tM at h;split at h
 ·rename_i c _;simp only[ax,bT]at h;obtain⟨rfl,rfl⟩:=h;obtain⟨a,d⟩:=GO c ρ;exact⟨a,by simp only[jh,d]⟩
 ·rename_i e _ _ _;simp only[ax,bT]at h;obtain⟨rfl,rfl⟩:=h;obtain⟨a,d⟩:=GO e ρ;exact⟨a,by simp only[jh,d]⟩
 ·cases a:plainCell v with
  | false=>rw[a]at h;cases h
  | true=>
    rw[a]at h;simp only[cond_true,ax,bT]at h;obtain⟨rfl,rfl⟩:=h;refine⟨.refl _,?_⟩;unfold jh;split
    ·simp[plainCell]at a
    ·simp[plainCell]at a
    ·rw[a];rfl
theorem wB:∀{l p:List Value} {ρ a:List Nat},p' l ρ=some (p,a)->jM ρ a/\iy (gg a) p=some l
 | [],p,ρ,a,h=>by
   simp only[p',ax,bT]at h;obtain⟨rfl,rfl⟩:=h;exact⟨.refl _,rfl⟩
 | v::l,p,ρ,a,h=>by
   simp only[p']at h;split at h
   ·rename_i _ _ c;split at h
    ·rename_i _ _ d;simp only[ax,bT]at h;obtain⟨rfl,rfl⟩:=h;obtain⟨e,f⟩:=GL c;obtain⟨b,g⟩:=wB d;exact⟨e.trans b,by simp only[iy,CT b.le f,g]⟩
    ·cases h
   ·cases h
theorem Kl{σ a:Nat->Option Nat}(AW:∀i b,σ i=some b->a i=some b){p v:Value}(h:jG σ p=some v):jG a p=some v:=by
 unfold jG at*
 split at h
 ·split at h
  ·rename_i c;simp only[yk AW c];exact h
  ·cases h
 ·exact CT AW h
theorem Kn{σ a:Nat->Option Nat}(AW:∀i b,σ i=some b->a i=some b):∀{l r:List Value},ko σ l=some r->ko a l=some r
 | [],r,h=>h
 | v::l,r,h=>by
   simp only[ko]at h|-;split at h
   ·rename_i _ _ c d;rw[Kl AW c,Kn AW d];exact h
   ·cases h
theorem Nk{v p:Value}{ρ a:List Nat}(h:zN v ρ=some (p,a)):jM ρ a/\jG (gg a) p=some v:=by
 unfold zN at h;split at h
 ·rename_i _;split at h
  ·rename_i _ _ c;simp only[ax,bT]at h;obtain⟨rfl,rfl⟩:=h;obtain⟨b,d⟩:=wB c;refine⟨b,?_⟩;simp only[jG,d]
  ·cases h
 ·rename_i e;obtain⟨d,f⟩:=GL h;refine⟨d,?_⟩;unfold jG;split
  ·unfold tM at h;split at h<;>try (simp only[ax,bT,reduceCtorEq,false_and]at h)
   rename_i _ _ _
   cases b:plainCell v with
   | false=>rw[b]at h;cases h
   | true=>
     rw[b]at h;simp only[cond_true,ax,bT]at h;exact absurd h.1 (e _)
  ·exact f
theorem GM:∀{l p:List Value} {ρ a:List Nat},tN l ρ=some (p,a)->jM ρ a/\ko (gg a) p=some l
 | [],p,ρ,a,h=>by
   simp only[tN,ax,bT]at h;obtain⟨rfl,rfl⟩:=h;exact⟨.refl _,rfl⟩
 | v::l,p,ρ,a,h=>by
   simp only[tN]at h;split at h
   ·rename_i _ _ c;split at h
    ·rename_i _ _ d;simp only[ax,bT]at h;obtain⟨rfl,rfl⟩:=h;obtain⟨e,f⟩:=Nk c;obtain⟨b,g⟩:=GM d;exact⟨e.trans b,by simp only[ko,Kl b.le f,g]⟩
    ·cases h
   ·cases h
theorem Nj{x p:bk}{ρ a:List Nat}(h:zM x ρ=some (p,a)):jM ρ a/\kn (gg a) p=some x:=by
 unfold zM at h;split at h
 ·split at h
  ·rename_i b;simp only[ax,bT]at h;obtain⟨rfl,rfl⟩:=h;obtain⟨c,d⟩:=wB b;exact⟨c,by simp only[kn,d]⟩
  ·cases h
 ·split at h
  ·rename_i e;simp only[ax,bT]at h;obtain⟨rfl,rfl⟩:=h;obtain⟨c,d⟩:=wB e;exact⟨c,by simp only[kn,d]⟩
  ·cases h
 ·cases h
theorem GN{H:ad}:∀{f i:Nat} {ρ a:List Nat} {l:List bk},wA H f i ρ=some (l,a)->i<=ρ.length->jM ρ a/\i+l.length=a.length/\∀j y,l[j]? = some y->∃b x,gg a (i+j)=some b/\H.get b=some x/\kn (gg a) y=some x
 | 0,_,_,_,_,h,_=>by cases h
 | f+1,i,ρ,a,l,h,_=>by
   simp only[wA]at h;split at h
   ·rename_i m;simp only[ax,bT]at h;obtain⟨rfl,rfl⟩:=h;have:ρ.length<=i:=by simpa using m
    exact⟨.refl _,by simp;omega,λj y h=>by simp at h⟩
   ·rename_i b e;split at h
    ·rename_i x n;split at h
     ·rename_i y g o;split at h
      ·rename_i _ _ p;simp only[ax,bT]at h;obtain⟨rfl,rfl⟩:=h;obtain⟨f,l⟩:=Nj o;have v:=(je.1 e).1;have k:=f.le i b e;have w:i<g.length:=(je.1 (show g[i]? = some b from k)).1;obtain⟨c,_,q⟩:=GN p (by omega);refine⟨f.trans c,by simp only[gu];omega,λj z d=>?_⟩
       cases j with
       | zero=>
         simp only[fI,ax]at d;subst d;exact⟨b,x,c.le i b k,n,R' c.le l⟩
       | succ j=>
         obtain⟨b,r,s,t,u⟩:=q j z (by simpa using d);exact⟨b,r,by rw[show i+(j+1)=i+1+j by omega];exact s,t,u⟩
      ·cases h
     ·cases h
    ·cases h
structure ch where
 args:List Value
 W:List bk
 res:Value
 news:List (Nat×List Value×cz)
def Ft:cz->cz->Bool
 | .n a,.n b=>Nat.beq a b
 | .t a,.t b=>Nat.beq a b
 | _,_=>false
def wx:bk->bk->Bool
 | .cells a z,.cells b y=>Ft z y&&rD a b
 | .ro a,.ro b=>rD a b
 | _,_=>false
def tJ:List bk->List bk->Bool
 | [],[]=>true
 | a::x,b::y=>wx a b&&tJ x y
 | _,_=>false
def qz(n:Nat):List (Nat×List Value×cz)->Nat->Option Nat
 | [],_=>none
 | x::l,b=>bif Nat.beq x.1 n then some b else qz n l (b+1)
def sig(ρ:List Nat)(a:List (Nat×List Value×cz))(aE:Nat)(i:Nat):Option Nat:=bif Nat.blt i ρ.length then ρ[i]? else qz i a aE
def tA(σ:Nat->Option Nat):List (Nat×List Value×cz)->ad->Option ad
 | [],H=>some H
 | x::l,H=>match iy σ x.2.1 with
   | some a=>tA σ l (H.new (.cells a x.2.2))
   | none=>none
def ch.out(E:ch)(ρ:List Nat)(H:ad):Option (Value×ad):=
 match CW (sig ρ E.news H.next) E.res,tA (sig ρ E.news H.next) E.news H with
 | some v,some a=>some (v,a)
 | _,_=>none
def s9:List Value->List Value->Bool
 | [],[]=>true
 | a::x,b::y=>ku a b&&s9 x y
 | _,_=>false
def xd(a:List Value)(b:List bk):List ch->Option ch
 | []=>none
 | E::l=>bif s9 E.args a&&tJ E.W b then some E else xd a b l
def ch.apply(a:List ch)(args:List Value)(H:ad):Option (Value×ad):=
 match tN args []with
 | some (b,ρ)=>(match wA H 40 0 ρ with
   | some (c,ρ)=>(match xd b c a with
     | some E=>E.out ρ H
     | none=>none)
   | none=>none)
 | none=>none
def rW:List bk->Nat->bG bk->bG bk
 | [],_,t=>t
 | x::l,i,t=>rW l (i+1) (t.set x i)
def ch.run(K:bY)(f:Nat)(E:ch):Option (Value×ad):=K ⟨E.W.length,[],none⟩ f E.args ⟨rW E.W 0 .ag,E.W.length⟩
def CZ:Value->Value->Bool
 | .tuple a,.tuple b=>s9 a.toList b.toList
 | a,b=>ku a b
def uF(H:ad)(k:Nat):List (Nat×List Value×cz)->Bool
 | []=>true
 | x::l=>Nat.ble k x.1&&((match H.get x.1 with | some y=>wx y (.cells x.2.1 x.2.2) | none=>false)&&((qz x.1 l 0).isNone&&uF H k l))
def ch.ok(K:bY)(f:Nat)(E:ch):Bool:=match E.run K f with
 | some (v,H)=>CZ v E.res&&uF H E.W.length E.news
 | none=>false
theorem Kc{γ:aL}{p aH:Value}(a:plainCell p=true)(h:aD γ p aH):aH=p:=by
 cases h<;>first | rfl | (simp[plainCell]at a)
theorem Kk{σ:Nat->Option Nat}{p v:Value}(h:jh σ p=some v):(plainCell p=true/\v=p)∨(∃i o b,p=.pointer (some ⟨i,o,none⟩)/\σ i=some b/\v=.pointer (some ⟨b,o,none⟩))∨∃i o n c b,p=.slice (some ⟨i,o,none⟩) n c/\σ i=some b/\v=.slice (some ⟨b,o,none⟩) n c:=by
 unfold jh at h;split at h
 ·rename_i i o;split at h
  ·rename_i b d;simp only[ax]at h;exact .inr (.inl ⟨i,o,b,rfl,d,h.symm⟩)
  ·cases h
 ·rename_i i o n c;split at h
  ·rename_i b e;simp only[ax]at h;exact .inr (.inr ⟨i,o,n,c,b,rfl,e,h.symm⟩)
  ·cases h
 ·cases a:plainCell p with
  | false=>rw[a]at h;cases h
  | true=>
    rw[a]at h;simp only[cond_true,ax]at h;exact .inl ⟨rfl,h.symm⟩
theorem yi{σ:Nat->Option Nat}{γ:aL}{p v aH:Value}(h:jh σ p=some v)(a:aD γ v aH):aD (λi=>(σ i).bind γ) p aH:=by
 rcases Kk h with⟨fF,rfl⟩ | ⟨i,o,b,rfl,n3,rfl⟩ | ⟨i,o,n,c,b,rfl,n3,rfl⟩
 ·rw[Kc fF a];exact aD.plainCell fF
 ·cases a with
  | ptr b=>exact .ptr (by simp[n3,b])
 ·cases a with
  | fb a b c d=>exact .fb (by simp[n3,a]) b c d
  | ks a=>exact .ks (L:=_) (by simp only[n3,fJ];exact a)
theorem CU{σ:Nat->Option Nat}{γ e:aL}{p v aH:Value}(h:jh σ p=some v)(a:∀i b L,σ i=some b->γ i=some L->e b=some L)(d:aD γ p aH):aD e v aH:=by
 rcases Kk h with⟨fF,rfl⟩ | ⟨i,o,b,rfl,n3,rfl⟩ | ⟨i,o,n,c,b,rfl,n3,rfl⟩
 ·rw[Kc fF d];exact aD.plainCell fF
 ·cases d with
  | ptr b=>exact .ptr (a _ _ _ n3 b)
 ·cases d with
  | fb b c d e=>exact .fb (a _ _ _ n3 b) c d e
  | ks b=>exact .ks (a _ _ _ n3 b)
theorem sM{σ:Nat->Option Nat}:∀{l r:List Value},iy σ l=some r->r.length=l.length/\(∀(i:Nat) (v:Value),r[i]? = some v->∃p,l[i]? = some p/\jh σ p=some v)/\∀(i:Nat) (p:Value),l[i]? = some p->∃v,r[i]? = some v/\jh σ p=some v
 | [],r,h=>by
   simp only[iy,ax]at h;subst h;exact⟨rfl,λi v h=>by simp at h,λi v h=>by simp at h⟩
 | x::l,r,h=>by
   simp only[iy]at h;split at h
   ·rename_i c _ b d;simp only[ax]at h;subst h;obtain⟨e,f,g⟩:=sM d;refine⟨by simp[e],λi v a=>?_,λi p a=>?_⟩
    ·cases i with
     | zero=>
       simp only[fI,ax]at a;exact⟨x,rfl,a▸b⟩
     | succ i=>simpa using f i v (by simpa using a)
    ·cases i with
     | zero=>
       simp only[fI,ax]at a;exact⟨c,rfl,a▸b⟩
     | succ i=>simpa using g i p (by simpa using a)
   ·cases h
theorem Se{σ:Nat->Option Nat}{γ:aL}{l r aN:List Value}(h:iy σ l=some r)(a:br γ r aN):br (λi=>(σ i).bind γ) l aN:=by
 obtain⟨c,_,d⟩:=sM h;refine br.oc (by rw[<-c];exact a.length) λi v _ c e=>?_;obtain⟨_,f,g⟩:=d i v c;obtain⟨_,b,j⟩:=a.get f;rw[e]at b;cases b;exact yi g j
theorem Sf{σ:Nat->Option Nat}{γ a:aL}{l r aN:List Value}(h:iy σ l=some r)(d:∀i b L,σ i=some b->γ i=some L->a b=some L)(c:br γ l aN):br a r aN:=by
 obtain⟨a,e,_⟩:=sM h;refine br.oc (by rw[a];exact c.length) λi v _ a f=>?_;obtain⟨_,g,j⟩:=e i v a;obtain⟨_,b,k⟩:=c.get g;rw[f]at b;cases b;exact CU j d k
theorem Sb{σ:Nat->Option Nat}{γ:aL}{p v aH:Value}(h:jG σ p=some v)(a:aD γ v aH):aD (λi=>(σ i).bind γ) p aH:=by
 unfold jG at h;split at h
 ·rename_i b;split at h
  ·rename_i l c;simp only[ax]at h;subst h;obtain⟨d,rfl,q⟩:=a.p6;exact .agg (l:=b.toList) (aN:=d.toList) (Se c q)
  ·cases h
 ·exact yi h a
theorem Km{σ:Nat->Option Nat}{γ a:aL}{p v aH:Value}(h:jG σ p=some v)(c:∀i b L,σ i=some b->γ i=some L->a b=some L)(d:aD γ p aH):aD a v aH:=by
 unfold jG at h;split at h
 ·rename_i _;split at h
  ·rename_i l e;simp only[ax]at h;subst h;obtain⟨b,rfl,q⟩:=d.p6;exact .agg (l:=l) (aN:=b.toList) (Sf e c q)
  ·cases h
 ·exact CU h c d
theorem CV{σ:Nat->Option Nat}:∀{l r:List Value},ko σ l=some r->r.length=l.length/\(∀(i:Nat) (v:Value),r[i]? = some v->∃p,l[i]? = some p/\jG σ p=some v)/\∀(i:Nat) (p:Value),l[i]? = some p->∃v,r[i]? = some v/\jG σ p=some v
 | [],r,h=>by
   simp only[ko,ax]at h;subst h;exact⟨rfl,λi v h=>by simp at h,λi v h=>by simp at h⟩
 | x::l,r,h=>by
   simp only[ko]at h;split at h
   ·rename_i c _ b d;simp only[ax]at h;subst h;obtain⟨e,f,g⟩:=CV d;refine⟨by simp[e],λi v a=>?_,λi p a=>?_⟩
    ·cases i with
     | zero=>
       simp only[fI,ax]at a;exact⟨x,rfl,a▸b⟩
     | succ i=>simpa using f i v (by simpa using a)
    ·cases i with
     | zero=>
       simp only[fI,ax]at a;exact⟨c,rfl,a▸b⟩
     | succ i=>simpa using g i p (by simpa using a)
   ·cases h
theorem Sc{σ:Nat->Option Nat}{γ:aL}{l r aN:List Value}(h:ko σ l=some r)(a:br γ r aN):br (λi=>(σ i).bind γ) l aN:=by
 obtain⟨c,_,d⟩:=CV h;refine br.oc (by rw[<-c];exact a.length) λi v _ c e=>?_;obtain⟨_,f,g⟩:=d i v c;obtain⟨_,b,j⟩:=a.get f;rw[e]at b;cases b;exact Sb g j
theorem Sd{σ:Nat->Option Nat}{γ a:aL}{l r aN:List Value}(h:ko σ l=some r)(d:∀i b L,σ i=some b->γ i=some L->a b=some L)(c:br γ l aN):br a r aN:=by
 obtain⟨a,e,_⟩:=CV h;refine br.oc (by rw[a];exact c.length) λi v _ a f=>?_;obtain⟨_,g,j⟩:=e i v a;obtain⟨_,b,k⟩:=c.get g;rw[f]at b;cases b;exact Km j d k
theorem Sg{σ:Nat->Option Nat}{γ a:aL}{p v aH:Value}(h:CW σ p=some v)(c:∀i b L,σ i=some b->γ i=some L->a b=some L)(d:aD γ p aH):aD a v aH:=by
 unfold CW at h;split at h
 ·rename_i _;split at h
  ·rename_i _ e;simp only[ax]at h;subst h;obtain⟨b,rfl,q⟩:=d.yK;have:=Sd e c q;exact .tuple (aN:=b.toList) this
  ·cases h
 ·exact Km h c d
theorem Sa{O:b0}{σ:Nat->Option Nat}{γ:aL}{N a:Nat->Prop}{w:World}{L:Loc}{p x:bk}(h:kn σ p=some x)(e:∀c,N c->a c)(b:jl O γ N w L x):jl O (λi=>(σ i).bind γ) a w L p:=by
 unfold kn at h;split at h
 ·rename_i _ _;split at h
  ·rename_i _ f;simp only[ax]at h;subst h;obtain⟨c,g,j,k,l,m,n,o,p⟩:=b;obtain⟨d,_,q⟩:=sM f;refine⟨c,g,j,k,l,by rw[<-d];exact m,n,by rw[<-d];exact o,λi v r=>?_⟩;obtain⟨u,s,t⟩:=q i v r;obtain⟨w,x,y⟩:=p i u s;exact⟨w,x,yi t y⟩
  ·cases h
 ·rename_i _;split at h
  ·rename_i _ z;simp only[ax]at h;subst h;obtain⟨d,c,g,j,k,l,m,n⟩:=b;obtain⟨o,_,p⟩:=sM z;refine⟨e _ d,c,g,j,k,l,by rw[<-o];exact m,λi v q=>?_⟩;obtain⟨u,r,s⟩:=p i v q;obtain⟨t,w,x⟩:=n i u r;exact⟨t,w,yi s x⟩
  ·cases h
 ·cases h
theorem yj{σ:Nat->Option Nat}{p x:bk}(h:kn σ p=some x):ev (some p)↔ev (some x):=by
 unfold kn at h;split at h
 ·split at h
  ·simp only[ax]at h;subst h;exact Iff.rfl
  ·cases h
 ·split at h
  ·simp only[ax]at h;subst h;exact Iff.rfl
  ·cases h
 ·cases h
theorem HX:∀(l:List bk) (i:Nat) (t:bG bk) (j:Nat),(rW l i t).get j=if i<=j/\j<i+l.length then l[j-i]? else t.get j
 | [],i,t,j=>by
   rw[aC (by simp only[List.length_nil];omega)];rfl
 | x::l,i,t,j=>by
   simp only[rW];rw[HX l (i+1),bG.jw];simp only[gu];by_cases a:j=i
   ·subst a;rw[aC (by omega),aT rfl,aT (by omega)];simp
   ·by_cases b:i<=j/\j<i+(l.length+1)
    ·rw[aT (by omega),aT b,show j-i=(j-(i+1))+1 by omega,ou]
    ·rw[aC (by omega),aC a,aC b]
theorem Gj{σ:Nat->Option Nat}:∀{l:List (Nat×List Value×cz)} {H aa:ad},tA σ l H=some aa->aa.next=H.next+l.length/\(∀b,b<H.next∨H.next+l.length<=b->aa.get b=H.get b)/\∀(j:Nat) (x:Nat×List Value×cz),l[j]? = some x->∃cs,iy σ x.2.1=some cs/\aa.get (H.next+j)=some (.cells cs x.2.2)
 | [],H,aa,h=>by
   simp only[tA,ax]at h;subst h;exact⟨rfl,λ_ _=>rfl,λj x h=>by simp at h⟩
 | y::l,H,aa,h=>by
   simp only[tA]at h;split at h
   ·rename_i cs e;obtain⟨f,a,d⟩:=Gj h;have g:(H.new (.cells cs y.2.2)).next=H.next+1:=rfl;rw[g]at f a d;refine⟨by simp only[gu];omega,λb i=>?_,λj x c=>?_⟩
    ·simp only[gu]at i;rw[a b (by omega),ad.jZ,aC (by omega)]
    ·cases j with
     | zero=>
       simp only[fI,ax]at c;subst c;refine⟨cs,e,?_⟩;rw[Nat.add_zero,a H.next (by omega),ad.jZ,aT rfl]
     | succ j=>
       obtain⟨b,k,l⟩:=d j x (by simpa using c);exact⟨b,k,by rw[show H.next+(j+1)=H.next+1+j by omega];exact l⟩
   ·cases h
theorem Jh{n:Nat}:∀{l:List (Nat×List Value×cz)} {aE b:Nat},qz n l aE=some b->∃(j:Nat) (x:Nat×List Value×cz),b=aE+j/\l[j]? = some x/\x.1=n
 | [],_,_,h=>by cases h
 | y::l,aE,b,h=>by
   simp only[qz,cC]at h;by_cases a:y.1=n
   ·simp only[a,decide_true,cond_true,ax]at h;exact⟨0,y,by omega,rfl,a⟩
   ·simp only[a,decide_false,cond_false]at h;obtain⟨j,x,_,a,b⟩:=Jh h;exact⟨j+1,x,by omega,by simpa using a,b⟩
theorem Jg{n:Nat}:∀{l:List (Nat×List Value×cz)} {aE:Nat},qz n l aE=none->∀(j:Nat) (x:Nat×List Value×cz),l[j]? = some x->x.1≠n
 | [],_,_,j,x,h=>by simp at h
 | y::l,aE,h,j,x,a=>by
   simp only[qz,cC]at h;by_cases b:y.1=n
   ·simp only[b,decide_true,cond_true,reduceCtorEq]at h
   ·simp only[b,decide_false,cond_false]at h
    cases j with
    | zero=>simp only[fI,ax]at a;subst a;exact b
    | succ j=>exact Jg h j x (by simpa using a)
theorem T8{a b:cz}(h:Ft a b=true):a=b:=by
 unfold Ft at h;split at h
 ·rw[cC]at h;rw[qP h]
 ·rw[cC]at h;rw[qP h]
 ·cases h
theorem Gz{a b:bk}(h:wx a b=true):a=b:=by
 unfold wx at h;split at h
 ·simp only[b3]at h;rw[T8 h.1,wF h.2]
 ·rw[wF h]
 ·cases h
theorem GB:∀{a b:List bk},tJ a b=true->a=b
 | [],[],_=>rfl
 | x::a,_::b,h=>by
   simp only[tJ,b3]at h;rw[Gz h.1,GB h.2]
 | [],_::_,h=>by cases h
 | _::_,[],h=>by cases h
theorem Dz:∀{l r:List Value},s9 l r=true->l=r
 | [],[],_=>rfl
 | a::_,_::_,h=>by
   simp only[s9,b3]at h;rw[Dy h.1,Dz h.2]
 | [],_::_,h=>by cases h
 | _::_,[],h=>by cases h
theorem Sl{a b:Value}(h:CZ a b=true):a=b:=by
 unfold CZ at h;split at h
 ·rw[k2.1 (Dz h)]
 ·exact Dy h
theorem Ji{H:ad}{k:Nat}:∀{l:List (Nat×List Value×cz)},uF H k l=true->(∀(j:Nat) (x:Nat×List Value×cz),l[j]? = some x->k<=x.1/\H.get x.1=some (.cells x.2.1 x.2.2))/\∀(i j:Nat) (x y:Nat×List Value×cz),l[i]? = some x->l[j]? = some y->x.1=y.1->i=j
 | [],_=>⟨λj x h=>by simp at h,λi j x y h=>by simp at h⟩
 | z::l,h=>by
   simp only[uF,b3,cg,df]at h;obtain⟨f,c,g,k⟩:=h;obtain⟨l,m⟩:=Ji k;have n:H.get z.1=some (.cells z.2.1 z.2.2):=by
    split at c
    ·rename_i y o;rw[o,Gz c]
    ·cases c
   have e:=Jg (Option.isNone_iff_eq_none.1 g);refine⟨λj x a=>?_,λi j x y b a d=>?_⟩
   ·cases j with
    | zero=>simp only[fI,ax]at a;subst a;exact⟨f,n⟩
    | succ j=>exact l j x (by simpa using a)
   ·cases i with
    | zero=>
      simp only[fI,ax]at b;subst b
      cases j with
      | zero=>rfl
      | succ j=>exact(e j y (by simpa using a) d.symm).elim
    | succ i=>
      cases j with
      | zero=>
        simp only[fI,ax]at a;subst a;exact(e i x (by simpa using b) d).elim
      | succ j=>rw[m i j x y (by simpa using b) (by simpa using a) d]
theorem HB{a:List Value}{c:List bk}:∀{d:List ch} {E:ch},xd a c d=some E->E∈d/\E.args=a/\E.W=c
 | [],_,h=>by cases h
 | F::d,E,h=>by
   simp only[xd]at h
   cases b:(s9 F.args a&&tJ F.W c) with
   | true=>
     rw[b]at h;simp only[cond_true,ax]at h;subst h;simp only[b3]at b;exact⟨.head _,Dz b.1,GB b.2⟩
   | false=>
     rw[b]at h;obtain⟨a,c⟩:=HB h;exact⟨.tail _ a,c⟩
section
variable{O:b0}{P:Program}{base:Nat}{pm:Perm}{G:Nat->Bool}{K:bY}
theorem ml.mono{f:FuncId}{args:Array Value}{w:World}{R a:Ending->World->Prop}(h:ml P f args w R)(b:∀e ao,R e ao->a e ao):ml P f args w a:=by
 rcases h with⟨bX,cv⟩ | ⟨v,ao,bX,cv⟩
 ·exact .inl ⟨bX,cv.mono b⟩
 ·exact .inr ⟨v,ao,bX,b _ _ cv⟩
theorem Qz(U:∀g,G g=false)(V:dK O P G K){f:FuncId}{E:ch}(t:E.ok K f=true){args:List Value}{H aa:ad}{v:Value}{ρ:List Nat}(W:ρ.Nodup)(au:E.W.length=ρ.length)
 (X:ko (gg ρ) E.args=some args) (Y:∀j y,E.W[j]? = some y->∃b x,gg ρ j=some b/\H.get b=some x/\kn (gg ρ) y=some x) (C:E.out ρ H=some (v,aa))
 {γ:aL} {w:World} {fm:Array Value} (k:Rel O base γ H w) (eA:br γ args fm.toList):
 ml P f fm w λcJ ao=>∃m aH,cJ=.returned aH/\aD m v aH/\Step O base pm γ H w m aa ao:=by
 obtain⟨s,Z,ab⟩:∃s,E.run K f=some (E.res,s)/\uF s E.W.length E.news=true:=by
  unfold ch.ok at t;split at t
  ·rename_i _ s h1;simp only[b3]at t;exact⟨s,by rw[h1,Sl t.1],t.2⟩
  ·cases t
 obtain⟨J,ae⟩:=Ji ab;let p:aL:=λi=>(gg ρ i).bind γ;let D:ad:=⟨rW E.W 0 .ag,E.W.length⟩;have z:∀i,D.get i=E.W[i]?:=λi=>by
  show(rW E.W 0 .ag).get i=_;rw[HX];by_cases a:i<E.W.length
  ·rw[aT (by omega),Nat.sub_zero]
  ·rw[aC (by omega),gr (by omega)];rfl
 have A:∀i L,p i=some L->∃b y x,gg ρ i=some b/\γ b=some L/\E.W[i]? = some y/\H.get b=some x/\kn (gg ρ) y=some x/\i<ρ.length:=by
  intro i L h;simp only[p]at h
  cases a:gg ρ i with
  | none=>rw[a]at h;cases h
  | some b=>
    rw[a]at h;have f:i<ρ.length:=(je.1 (show ρ[i]? = some b from a)).1;have c:E.W[i]? = some (E.W[i]'(by omega)):=eu (by omega);obtain⟨_,x,e,g,j⟩:=Y i _ c;rw[a]at e;cases e;exact⟨b,_,x,rfl,h,c,g,j,f⟩
 have af:∀d,fg γ H w d->fg p D w d:=λd o=>⟨o.1,λi L h r=>by
  obtain⟨b,y,x,_,a,c,e,f,_⟩:=A i L h;rw[z,c]at r;exact o.2 b L a (by rw[e];exact(yj f).1 r)⟩
 have F:Rel O base p D w:=by
  refine⟨λi L h=>?_,λi L h=>?_,λi f=>?_,λi j L a h g r c q=>?_,λi L h r=>?_,k.size⟩
  ·obtain⟨b,y,x,_,j,u,v,w,_⟩:=A i L h;obtain⟨B,e,E⟩:=k.aW b L j;rw[v]at e;cases e;exact⟨y,by rw[z,u],Sa w af E⟩
  ·obtain⟨b,y,x,_,_,_,_,_,_⟩:=A i L h;show i<E.W.length;omega
  ·rw[z];exact gr f
  ·obtain⟨b,y,x,e,u,v,w,E,H⟩:=A i L h;obtain⟨I,_,B,K,N,O,P,R,_⟩:=A j a g;rw[z,v]at r;rw[z,O]at c;have S:=k.inj b I L a u N (by rw[w];exact(yj E).1 r) (by rw[P];exact(yj R).1 c) q;subst S;have T:ρ[i]? = some b:=e;have h2:ρ[j]? = some b:=K;exact(List.getElem?_inj H W).1 (T.trans h2.symm)
  ·obtain⟨b,y,x,_,e,j,u,v,_⟩:=A i L h;rw[z,j]at r;exact k.low b L e (by rw[u];exact(yj v).1 r)
 have ag:=V ⟨E.W.length,[],none⟩ f E.args D E.res s rfl Z base p w fm F (λg n=>by rw[U g]at n;cases n) (Sc X eA);refine ag.mono λcJ M ⟨G,ah,he,ai,l⟩=>?_;unfold ch.out at C;split at C
 ·rename_i _ Q aj ak;simp only[ax,bT]at C;obtain⟨rfl,rfl⟩:=C;obtain⟨_,g,a3⟩:=Gj ak;let m:aL:=λb=>if b<H.next then γ b else(E.news[b-H.next]?).bind λx=>G x.1
  have K:∀b L,γ b=some L->m b=some L:=λb L h=>by
   have:=k.lt b L h;simp only[m,aT this];exact h
  have q:∀b L,m b=some L->(b<H.next/\γ b=some L)∨∃(j:Nat) (x:Nat×List Value×cz),b=H.next+j/\E.news[j]? = some x/\G x.1=some L:=by
   intro b L h;by_cases c:b<H.next
   ·simp only[m,aT c]at h;exact .inl ⟨c,h⟩
   ·simp only[m,aC c]at h
    cases j:E.news[b-H.next]? with
    | none=>rw[j]at h;cases h
    | some x=>
      rw[j]at h;exact .inr ⟨b-H.next,x,by omega,j,h⟩
  have R:∀i b L,sig ρ E.news H.next i=some b->G i=some L->m b=some L:=by
   intro i b L u v;unfold sig at u;rw[fG]at u;by_cases w:i<ρ.length
   ·simp only[w,decide_true,cond_true]at u;have n:∃j,p i=some j:=by
     cases n:p i with
     | some j=>exact⟨j,rfl⟩
     | none=>
       rcases l.known i L v n with b | b
       ·have:E.W.length<=i:=b;omega
       ·cases b
    obtain⟨j,n⟩:=n;have:=l.ext i j n;rw[v]at this;cases this;have x:γ b=some L:=by
     have y:gg ρ i=some b:=u;simp only[p,y,fJ]at n;exact n
    exact K b L x
   ·simp only[w,decide_false,cond_false]at u;obtain⟨j,x,rfl,a,e⟩:=Jh u;simp only[m,aC (show ¬H.next+j<H.next by omega),show H.next+j-H.next=j by omega,a,fJ,e];exact v
  have N:∀d,d<w.heap.size->M.heap[d]? = w.heap[d]?:=λd o=>l.u d o λb L c _ S=>by
   have j:=F.lt b L c;have u:b<E.W.length:=j;simp only[Perm.may,cg,l0 (Nat.not_le.2 u),cond_false]at S;exact absurd S (by simp)
  have I:∀(j:Nat) (x:Nat×List Value×cz) (L:Loc),E.news[j]? = some x->G x.1=some L->w.heap.size<=L.aW:=by
   intro j x L O v;have H:=(J j x O).1;have w:p x.1=none:=by
    cases n:p x.1 with
    | none=>rfl
    | some b=>
      have:x.1<E.W.length:=F.lt x.1 b n;omega
   rcases l.fresh x.1 L v w with y | ⟨u,b,f,_,e,_⟩
   ·exact y
   ·have j:u<E.W.length:=F.lt u b f;simp only[Perm.may,cg,l0 (Nat.not_le.2 j),cond_false]at e;exact absurd e (by simp)
  have aa:H.next<=Q.next:=by omega
  have P:∀(j:Nat) (x:Nat×List Value×cz),E.news[j]? = some x->ev (s.get x.1):=λj x O=>by rw[(J j x O).2];trivial
  have ad:∀d,fg γ H w d->fg m Q M d/\M.heap[d]? = w.heap[d]?:=λd o=>⟨⟨eC o.1 l.grow,λb L c r=>by
   rcases q b L c with⟨f,a⟩ | ⟨j,x,_,a,e⟩
   ·exact o.2 b L a (by rwa [g b (.inl f)]at r)
   ·have:=I j x L a e;have:=o.1;omega⟩,N d o.1⟩
  refine⟨m,ah,he,Sg aj R ai,?_⟩
  exact{
   rel:=by
    refine⟨λb L c=>?_,λb L c=>?_,λb c=>?_,λb u L v c al r w H=>?_,λb L c r=>?_,aY k.size l.grow⟩
    ·rcases q b L c with⟨f,a⟩ | ⟨j,x,rfl,a,e⟩
     ·obtain⟨y,x,j⟩:=k.aW b L a;exact⟨y,by rw[g b (.inl f),x],j.mono K ad λr=>N _ (j.lt r)⟩
     ·obtain⟨_,e1,e2⟩:=a3 j x a;refine⟨_,e2,?_⟩;obtain⟨y,b,e4⟩:=l.rel.aW x.1 L e;rw[(J j x a).2]at b;cases b;obtain⟨d,an,fz,ao,h2,h3,h4,h5,h6⟩:=e4;obtain⟨T,g2,_⟩:=sM e1;refine⟨d,an,fz,ao,h2,by rw[T];exact h3,h4,by rw[T];exact h5,λi aq hi=>?_⟩;obtain⟨ar,q4,q5⟩:=g2 i aq hi;obtain⟨u',q6,q7⟩:=h6 i ar q4;exact⟨u',q6,CU q5 R q7⟩
    ·rcases q b L c with⟨f,a⟩ | ⟨j,x,rfl,a,e⟩
     ·omega
     ·have:=(je.1 a).1;omega
    ·rw[g b (.inr (by omega))];exact k.new b (by omega)
    ·rcases q b L c with⟨f,a⟩ | ⟨j,x,rfl,a,e⟩<;>rcases q u v al with⟨c7,bl⟩ | ⟨A9,B,rfl,bl,cb⟩
     ·exact k.inj b u L v a bl (by rwa [g b (.inl f)]at r) (by rwa [g u (.inl c7)]at w) H
     ·exfalso;obtain⟨y,j,x⟩:=k.aW b L a;rw[g b (.inl f),j]at r;have:=x.lt r;have:=I A9 B v bl cb;omega
     ·exfalso;obtain⟨y,b,T⟩:=k.aW u v bl;rw[g u (.inl c7),b]at w;have:=T.lt w;have:=I j x L a e;omega
     ·have:=l.rel.inj x.1 B.1 L v e cb (P j x a) (P A9 B bl) H;rw[ae j A9 x B a bl this]
    ·rcases q b L c with⟨f,a⟩ | ⟨j,x,rfl,a,e⟩
     ·exact k.low b L a (by rwa [g b (.inl f)]at r)
     ·exact l.rel.low x.1 L e (P j x a)
   ext:=K
   fresh:=λb L c E=>by
    rcases q b L c with⟨f,a⟩ | ⟨j,x,rfl,a,e⟩
    ·rw[E]at a;cases a
    ·exact .inl (I j x L a e)
   grow:=l.grow
   u:=λd o _=>N d o
   next:=aa
   ib:=λb c _=>g b (.inl c)
   hW:=λb L c r=>by rwa [g b (.inl (k.lt b L c))]at r
   known:=λb L c E=>by
    rcases q b L c with⟨f,a⟩ | ⟨j,x,rfl,a,e⟩
    ·rw[E]at a;cases a
    ·exact .inl (e9 _ _)
   os:=l.os
   tape:=l.tape
   output:=l.output}
 ·cases C
theorem MW(i:∀g,G g=false)(j:dK O P G K){f:FuncId}{a:List ch}(k:∀E∈a,E.ok K f=true){args:List Value}{H aa:ad}{v:Value}(h:ch.apply a args H=some (v,aa))
 {γ:aL} {w:World} {fm:Array Value} (g:Rel O base γ H w) (eA:br γ args fm.toList):
 ml P f fm w λcJ ao=>∃b aH,cJ=.returned aH/\aD b v aH/\Step O base pm γ H w b aa ao:=by
 unfold ch.apply at h;split at h
 ·rename_i _ _ l;split at h
  ·rename_i _ _ m;split at h
   ·rename_i E n;obtain⟨f,o,c⟩:=HB n;obtain⟨p,q⟩:=GM l;obtain⟨d,_,r⟩:=GN m (Nat.zero_le _);refine Qz i j (k E f) (d.an (p.an List.nodup_nil)) (by rw[c];omega) (o▸Kn d.le q) (λs y t=>?_) h g eA;obtain⟨u,x,e,v,w⟩:=r s y (c▸t);exact⟨u,x,by rw[Nat.zero_add]at e;exact e,v,w⟩
   ·cases h
  ·cases h
 ·cases h
end
end Go.Dam
namespace Go.Dam
open Go Go.RowKit
def eh(O:b0)(P:Program)(G:Nat->Bool)(f:FuncId)(g:Perm->List Value->ad->Option (Value×ad)):Prop:=
 ∀(a:Perm) (b:List Value) (H:ad) (v:Value) (c:ad),a.num=none->g a b H=some (v,c)->∀(d:Nat) (γ:aL) (w:World) (e:Array Value),Rel O d γ H w->eF G γ->br γ b e.toList->
  ml P f e w λg h=>∃b e,g=.returned e/\aD b v e/\Step O d a γ H w b c h
section
variable{O:b0}{P:Program}{base:Nat}{pm:Perm}{γ:aL}{H:ad}{w ao:World}
theorem Step.below(d:Rel O base γ H w)(a:Below w.heap.size w ao):Step O base pm γ H w γ H ao where
 rel:=by
  have h:∀c,c<w.heap.size->ao.heap[c]? = w.heap[c]?:=a.block;have i:∀c,fg γ H w c->fg γ H ao c/\ao.heap[c]? = w.heap[c]?:=λc f=>⟨⟨eC f.1 a.size,f.2⟩,h c f.1⟩;exact⟨λg L j=>by
   obtain⟨x,b,e⟩:=d.aW g L j;exact⟨x,b,e.mono (.refl γ) i λr=>h _ (e.lt r)⟩,d.lt,d.new,d.inj,d.low,aY d.size a.size⟩
 ext:=.refl γ
 fresh:=λg L b e=>by rw[e]at b;cases b
 grow:=a.size
 u:=λc f _=>a.block c f
 next:=bg _
 ib:=λ_ _ _=>rfl
 hW:=λ_ _ _ k=>k
 known:=λg L b e=>by rw[e]at b;cases b
 os:=a.os
 tape:=a.tape
 output:=a.output
end
def iU(c:Nat):List UInt8->Nat->Int
 | [],_=>-1
 | b::l,n=>bif Nat.beq b.toNat c then .ofNat n else iU c l (Nat.succ n)
theorem H4(c:Nat)(d:c<256):∀(l:List UInt8) (n:Nat),iU c l n=if Lib.indexByte l c.toUInt8=-1 then -1 else(n:Int)+Lib.indexByte l c.toUInt8
 | [],n=>by simp[iU,Lib.indexByte]
 | b::l,n=>by
   have a:Nat.beq b.toNat c=(b==c.toUInt8):=by
    rw[cC];by_cases h:b=c.toUInt8
    ·subst h;have b:c.toUInt8.toNat=c:=by simp[Nat.toUInt8];omega
     rw[b];simp
    ·rw[l0]
     ·simp[h]
     ·intro e;apply h;apply u3.1;have b:c.toUInt8.toNat=c:=by simp[Nat.toUInt8];omega
      rw[b];exact e
   have e:=Lib.indexByte_ge l c.toUInt8;simp only[iU,Lib.indexByte,a];by_cases a:(b==c.toUInt8)=true
   ·simp[a]
   ·have a:(b==c.toUInt8)=false:=by simpa using a
    simp only[a,cond_false,kj,if_false];rw[H4 c d l (n+1)];by_cases a:Lib.indexByte l c.toUInt8=-1
    ·simp[a]
    ·have b:(Lib.indexByte l c.toUInt8==-1)=false:=by simpa using a
     rw[aC a,b];simp only[kj,if_false];rw[aC (by omega)];push_cast;omega
def vr:List Value->Option (List ByteArray)
 | []=>some []
 | .string s::l=>(match vr l with | some r=>some (s::r) | none=>none)
 | _=>none
theorem Dk:∀{l:List Value} {r:List ByteArray},vr l=some r->l=r.map .string
 | [],r,h=>by simp only[vr,ax]at h;subst h;rfl
 | v::l,r,h=>by
   cases v<;>simp only[vr,reduceCtorEq]at h;split at h
   ·rename_i _ a;simp only[ax]at h;subst h;rw[Dk a];rfl
   ·cases h
end Go.Dam
