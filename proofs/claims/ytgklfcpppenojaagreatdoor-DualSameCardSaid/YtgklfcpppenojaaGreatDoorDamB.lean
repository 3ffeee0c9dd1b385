/- An abstract memory, and that the program does there what it does. -/
import Derived.Test.YtgklfcpppenojaaGreatDoorDamA
import Derived.Below
import Derived.Lib.Bytealg
namespace Go.Dam
open Go
theorem Vi(S T:Nat->Prop):∀N,(∀k k',k<k'->k'<N->S k->S k'->T k'->T k)->∃i,i<=N/\∀k,k<N->S k->(k<i↔T k)
 | 0,_=>⟨0,Nat.le_refl _,λk h=>by omega⟩
 | N+1,h=>by
   obtain⟨i,U,aa⟩:=Vi S T N λk k' a b=>h k k' a (by omega);by_cases af:S N/\T N
   ·refine⟨N+1,Nat.le_refl _,λk ag fk=>⟨λ_=>?_,λ_=>ag⟩⟩;by_cases q:k=N
    ·exact q▸af.2
    ·exact h k N (by omega) (by omega) fk af.1 af.2
   ·refine⟨i,by omega,λk ag fk=>?_⟩;by_cases q:k=N
    ·subst q;exact⟨λq=>by omega,λq=>(af ⟨fk,q⟩).elim⟩
    ·exact aa k (by omega) fk
theorem atm{pm:Perm}{J:ah}{agg:Bool}{m:Nat}{x:Option Value}{v:Value}(h:ik J agg m x=some v):(pX agg m x).run pm J=some (v,J):=by
 unfold ik at h;split at h
 ·rename_i a;split at h
  ·rename_i y bu;split at h
   ·rename_i cs af;simp only[pX,bF.run,bu,af,h,hU]
   ·cases h
  ·cases h
 ·cases h
theorem atn{J H:ah}{agg:Bool}{m:Nat}{a:Addr}(h:J.get a.block=H.get a.block):ik J agg m (some (.pointer (some a)))=ik H agg m (some (.pointer (some a))):=by
 simp only[ik,h]
namespace gf
variable{O:da}{P:Program}{base:Nat}{pm:Perm}{n:Nat}{G:Nat->Bool}{K:c8}{ops:Array Oper}
variable{s:gf P G n ops K pm}{T:Nat->Prop}{γ0 γ:bo}{H0 J:ah}{w0 w:World}{e:Env}{a:Act}{j:Nat}
theorem Inv.same(ei:∀q,q<s.N->s.Fact q)(aD:∀b,s.b0<=b->(s.cE 0).get b=none)(dw:Inv O base s T γ0 H0 w0 e J γ a w)(h:s.Ready T j)(hw:(s.D j).wanted (s.E j)=some true)(d':(s.D j).op.dL=false)
 (e7:((s.D j).op.cA (s.E j)).runT ⟨pm.lo,pm.ok,some (s.b0+j)⟩ (s.cE j)=some (s.V j,s.cE (j+1),s.F j,s.M j)) (m2:Option Nat) (oj:s.b0+j∈s.M j->m2=some (s.b0+j)):
 ∃J',((s.D j).op.cA (s.E j)).run ⟨pm.lo,pm.ok,m2⟩ J=some (s.V j,J')/\J'.next=J.next/\∀b,J'.get b=if b∈s.M j then(s.cE (j+1)).get b else J.get b:=by
 by_cases gz:s.Mi j
 ·obtain⟨u,hu,_⟩:=gz 0 (Nat.zero_le _);unfold aE.again at hu;rw[hw]at hu;split at hu
  ·rename_i agg m x _ heq;have ato:=U3 (U5 (e:=s.E j) (o:=(s.D j).op) (by rw[heq];rfl) (by rw[heq];rfl)) e7;have vx:∀i,(s.D j).again (s.E j) (s.cE i)=ik (s.cE i) agg m (bB (s.E j) x):=λi=>by
    unfold aE.again;rw[hw,heq]
   have aw:∀i,i<=s.N->ik (s.cE i) agg m (bB (s.E j) x)=some (s.V j):=λi ad=>by
    obtain⟨u,U,aa⟩:=gz i ad;rw[vx]at U;rw[U,Ma aa]
   have Ml:ik J agg m (bB (s.E j) x)=some (s.V j):=by
    have bl:=aw 0 (Nat.zero_le _)
    cases az:bB (s.E j) x with
    | none=>rw[az]at bl;cases bl
    | some y=>
      rw[az]at bl aw;cases y<;>try (cases bl;done)
      rename_i p
      cases p with
      | none=>cases bl
      | some dk=>
        have ai:dk.block<s.b0:=by
         apply Nat.lt_of_not_le;intro hle;simp only[ik,aD _ hle]at bl;cases bl
        obtain⟨i,ad,Mn⟩:=Vi (λk=>s.q9 k dk.block) T s.N λk k' cx a2 a3 a4 a5=>by
         apply Classical.byContradiction;intro bK;have jt:¬s.bf k k':=λq=>bK (h.closed k k' (by omega) a2 q a5);exact s.Vc ei cx a2 jt a3 a4
        rw[atn (dw.gK dk.block i ad (λp _ q=>by omega) Mn)];exact aw i ad
   refine⟨J,?_,rfl,λb=>by rw[ato.1];simp⟩;rw[heq];exact atm Ml
  ·cases hu
 ·have tA:¬s.iW j:=λq=>by rw[q.1]at d';cases d'
  refine HE (pm:=⟨pm.lo,pm.ok,some (s.b0+j)⟩) rfl _ e7 (.inl (s.own j h.lt)) (λb ai dr=>?_) oj;refine dw.gK b j (Nat.le_of_lt h.lt) (λp aC atp=>?_) λk ag mg=>⟨λmf=>?_,λbK=>?_⟩
  ·subst atp;obtain⟨U,aa⟩:=s.made j h.lt p aC ai (by omega);refine⟨?_,aa⟩;apply Classical.byContradiction;intro bK;exact gz (s.Vd U h.lt (h.early aC bK) (.inl aa) ai)
  ·apply Classical.byContradiction;intro bK;exact gz (s.Vd mf h.lt (h.early ag bK) mg ai)
  ·apply Classical.byContradiction;intro mf;have:k≠j:=λq=>h.lL (q▸bK);exact gz (s.atl ei (by omega) ag (h.late ag bK) ai mg)
theorem Inv.oper(ei:∀q,q<s.N->s.Fact q)(ai:s.b0=H0.next)(ey:pm.lo<=s.b0)(aD:∀b,s.b0<=b->(s.cE 0).get b=none)(mS:s.b0<=(s.cE 0).next)(db:fT O P G K)(dS:pm.num=none)(bA:hH G γ0)
 (dw:Inv O base s T γ0 H0 w0 e J γ a w) (h:s.Ready T j) {next:Act->World->Prop} {Q:Exit->Act->World->Prop}
 (aF:∀bw J' bk a' w',Inv O base s (λk=>T k∨k=j) γ0 H0 w0 bw J' bk a' w'->next a' w'):
 if Region.wanted (s.e6 j) (yielded ops a.tmps) then(s.e6 j).wp P a w next Q∨((s.e6 j).asks P a w/\LetsOut Q) else next (a.put (s.e6 j).dst undef) w:=by
 have Mo:=dw.looks h;have dM:=s.ok h.lt;have gx:=s.U8 h.lt;have y8:∀t,(s.D j).dst=some t->t<n:=λt aS=>HK dM t (gx.2▸aS);have Mq:(s.D j).wanted e=(s.D j).wanted (s.E j):=atc Mo;have Vj:=bA.mono dw.step.ext
 rcases s.cases h.lt with⟨U,aa,aq,a8,cg⟩ | ⟨U,aa,aq⟩ | ⟨U,aa,aq⟩
 ·rw[Eg dw.re dM (Mq.trans U)];have Eb:¬s.iW j:=λq=>by rw[q.2]at U;cases U
  refine aF _ J γ _ w (dw.other ei ai h Eb (J':=J) (m:=none) rfl (λb=>by rw[cg];simp) ?_ (Step.refl dw.step.rel) λb q=>by cases q);rw[aa,gx.2];exact dw.re.Mc λt aS=>y8 t (gx.2▸aS)
 ·rw[Eg dw.re dM (Mq.trans U),if_pos rfl];have Eb:¬s.iW j:=λq=>by rw[q.1]at aa;cases aa
  by_cases xw:s.b0+j∈s.M j
  all_goals
   obtain⟨m2,oj⟩:∃m2:Option Nat,(s.b0+j∈s.M j->m2=some (s.b0+j))/\∀b,m2=some b->b=s.b0+j/\b∈s.M j:=by
    first
     | exact⟨some (s.b0+j),λ_=>rfl,λb q=>by cases q;exact⟨rfl,xw⟩⟩
     | exact⟨none,λq=>(xw q).elim,λb q=>by cases q⟩
   obtain⟨J',ao,e2,bd⟩:=dw.same ei aD h U aa aq m2 oj.1
   rw[<-UR (US Mo),gx.1]at ao
   have e8:Perm.gV ⟨pm.lo,pm.ok,m2⟩ γ J:=by
    intro b q;obtain⟨rfl,dW⟩:=oj.2 b q;have:=dw.eF;have:=h.lt;refine⟨by omega,?_,?_⟩
    ·cases aK:γ (s.b0+j) with
     | none=>rfl
     | some L=>exact(h.lL (dw.known j h.lt L aK).1).elim
    ·simp only[Perm.may,dA];rw[decide_eq_true (show pm.lo<=s.b0+j by omega)];rfl
   refine .inl ((HL dw.step.rel e8 dw.re Vj (s.e6 j) ao).done next Q λbk v' w' bn bh=>?_)
   refine aF _ J' bk _ w' (dw.other ei ai h Eb e2 bd ?_ bh oj.2)
   rw[gx.2]
   exact(dw.re.mono bh.ext).put (λt aS=>y8 t (gx.2▸aS)) bn
 ·rw[Eg dw.re dM (Mq.trans U.2),if_pos rfl];obtain⟨Ed,hq⟩:=dw.swap ei (λb ec=>aD b (by omega)) h U ai;have key:∀pm':Perm,pm'.num=none->(∀b,b<(s.cE j).next->pm'.may b=true->pm.may b=true)->(s.D j).op.run K pm' (s.E j) (s.cE j)=some (s.V j,s.cE (j+1))->(s.e6 j).wp P a w next Q:=by
   intro pm' q' eO e7;rw[<-atd (US Mo),gx.1]at e7;refine Me db Ed.rel q' dw.re Vj (s.e6 j) (Mf dM) e7 next Q λbk v' w' bn bh=>?_
   have cu:=bh.weaken Ed.rel eO λb e=>by rw[q']at e;cases e
   refine aF _ _ bk _ w' (dw.call ei h U hq Ed ?_ cu dS);rw[gx.2];exact(dw.re.mono bh.ext).put (λt aS=>y8 t (gx.2▸aS)) bn
  rcases aq with⟨a8,cg,dj⟩ | ⟨a8,cg,dj⟩
  ·exact .inl (key ⟨pm.lo,pm.ok,none⟩ rfl (λb _ h=>h) dj)
  ·refine .inl (key ⟨(s.cE j).next,s.M j,none⟩ rfl (λb ec hm=>?_) dj);simp only[Perm.may,dA,decide_eq_false (Nat.not_le.2 ec),cond_false]at hm;have hm:b∈s.M j:=by simpa using hm
   rw[cg]at hm;have:=U9 hm;exact this
end gf
def p2:List Bool->Nat
 | []=>0
 | true::l=>p2 l
 | false::l=>p2 l+1
theorem Vk:∀{l:List Bool} {i:Nat},l[i]? = some false->p2 (l.set i true)+1=p2 l
 | [],i,h=>by simp at h
 | b::l,0,h=>by
   simp only[bZn,a6]at h;subst h;rfl
 | b::l,i+1,h=>by
   have:=Vk (l:=l) (i:=i) (by simpa using h);cases b<;>simp only[List.set_cons_succ,p2]<;>omega
theorem Vl:∀{l:List Bool} {i:Nat},p2 l=0->l[i]? = some false->False
 | [],i,_,h=>by simp at h
 | b::l,0,aD,h=>by
   simp only[bZn,a6]at h;subst h;simp[p2]at aD
 | b::l,i+1,aD,h=>by
   cases b
   ·simp[p2]at aD
   ·exact Vl (l:=l) (i:=i) (by simpa [p2]using aD) (by simpa using h)
theorem Vm:∀N,p2 (List.replicate N false)=N
 | 0=>rfl
 | N+1=>by simp[List.replicate_succ,p2,Vm N]
theorem Vn{ops:Array Oper}(aB:vv ops=true){j:Nat}{o:Oper}(au:ops[j]? = some o){e:Edge}(he:e∈o.after)(ai:Region.binds .any e=true):e.on<j:=by
 simp only[vv,hz]at aB;have:=aB (o,j) (by rw[bWG];simpa using au);simp only[bWF,nE,mN,eh]at this;exact(this e he).resolve_left (by simp[ai])
theorem atq{ds:List aE}{ord:List Nat}{x:Nat×aE}(h:x∈dt ds ord):ds[x.1]? = some x.2/\x.1∈ord:=by
 unfold dt at h;obtain⟨i,ad,h⟩:=List.mem_filterMap.1 h
 cases aB:ds[i]? with
 | none=>rw[aB]at h;cases h
 | some o=>
   rw[aB]at h;simp only[bZs,a6]at h;subst h;exact⟨aB,ad⟩
theorem atr{ds:List aE}{ord:List Nat}(h:ord.Nodup):(dt ds ord).Pairwise λx y=>x.1≠y.1:=by
 unfold dt;rw[List.pairwise_filterMap];refine List.Pairwise.imp ?_ h;intro i j tz x az y bu
 cases ad:ds[i]? with
 | none=>rw[ad]at az;cases az
 | some o=>
   cases aH:ds[j]? with
   | none=>rw[aH]at bu;cases bu
   | some aFX=>
     rw[ad]at az;rw[aH]at bu;simp only[bZs,a6]at az bu;subst az;subst bu;exact tz
theorem Vo{bf:Nat->Nat->Bool}{all:List (Nat×aE)}:∀(dz:List (Nat×aE)) (j p:Nat) (y:Nat×aE),dz[p]? = some y->(Bk bf all dz j).getD p false=true->Bl bf y.1 (j+p) all 0=true
 | [],j,p,y,h,_=>by simp at h
 | tv::dz,j,0,y,h,aa=>by
   simp only[bZn,a6]at h;subst h;simpa [Bk]using aa
 | tv::dz,j,p+1,y,h,aa=>by
   have:=Vo (bf:=bf) (all:=all) dz (j+1) p y (by simpa using h) (by simpa [Bk]using aa);rwa [show j+1+p=j+(p+1) by omega]at this
theorem Vp{bf:Nat->Nat->Bool}{oo j:Nat}:∀(xs:List (Nat×aE)) (i q:Nat) (x:Nat×aE),xs[q]? = some x->Bl bf oo j xs i=true->i+q≠j->D' x.2=true->(i+q<j->bf x.1 oo=true)/\(j<i+q->bf oo x.1=true)
 | [],i,q,x,h,_,_,_=>by simp at h
 | sc::xs,i,0,x,h,aa,dr,aS=>by
   simp only[bZn,a6]at h;subst h;simp only[Bl,cG,nE,Nat.beq_eq,mN,aS,js]at aa;have aa:=aa.1.resolve_left (λq=>q.elim (λq=>dr (by omega)) (λq=>by cases q));rw[Nat.add_zero]at*
   refine⟨λq=>?_,λq=>?_⟩
   ·simpa [q]using aa
   ·simpa [show ¬i<j by omega]using aa
 | sc::xs,i,q+1,x,h,aa,dr,aS=>by
   simp only[Bl,cG]at aa;have:=Vp xs (i+1) q x (by simpa using h) aa.2 (by omega) aS;rwa [show i+1+q=i+(q+1) by omega]at this
theorem Vq{l:List Rec}{b0:Nat}:∀(rs:List Rec) (i q:Nat) (r:Rec),rs[q]? = some r->dm l b0 rs i=true->∀p,p<l.length->b0+p∈r.xz->p≠i+q->p<i+q/\∃x,l[p]? = some x/\b0+p∈x.se
 | [],i,q,r,h,_,_,_,_,_=>by simp at h
 | fw::rs,i,0,r,h,aa,p,aC,bc,dr=>by
   simp only[bZn,a6]at h;subst h;simp only[dm,cG,hz]at aa;have:=aa.1 (b0+p) bc;simp only[nE,js,dA,ed,eh,cG]at this
   rcases this with((q | q) | q) | ⟨q,kv⟩
   ·omega
   ·omega
   ·omega
   ·refine⟨by omega,?_⟩;rw[show b0+p-b0=p by omega]at kv;split at kv
    ·rename_i x az;exact⟨x,az,by simpa using kv⟩
    ·cases kv
 | fw::rs,i,q+1,r,h,aa,p,aC,bc,dr=>by
   simp only[dm,cG]at aa;have:=Vq rs (i+1) q r (by simpa using h) aa.2 p aC bc (by omega);rwa [show i+1+q=i+(q+1) by omega]at this
theorem Vr{again:ah->Option Value}{v:Value}{H:ah}(h:xA again v H=true):∃u,again H=some u/\p1 u v=true:=by
 unfold xA at h;split at h
 ·rename_i u hu;exact⟨u,hu,h⟩
 ·cases h
section
variable{O:da}{P:Program}{base:Nat}{pm:Perm}{n:Nat}{G:Nat->Bool}{K:c8}
def ats:Oper:=⟨none,.move (.tmp 0),0,"",#[],none⟩
def Bm(ops:Array Oper)(i j:Nat):Bool:=((Region.before ops).getD j 0).testBit i
structure Vs(ops:Array Oper)(ds:List aE)(c:pc):Prop where
 down:vv ops=true
 aP:c.ord.Nodup
 cover:∀i,i<ds.length->i∈c.ord
 len:(dt ds c.ord).length=ds.length
 oq:D8 (Bm ops) (dt ds c.ord) (dt ds c.ord) 0=some c.oq
 fixed:c.fixed=Bk (Bm ops) (dt ds c.ord) (dt ds c.ord) 0
theorem att{ops:Array Oper}{ds:List aE}{c:pc}(h:HP ops ds=some c):Vs ops ds c:=by
 unfold HP at h;simp only at h;split at h
 ·rename_i af;simp only[cG,eh,hz,bXe,bYd]at af;split at h
  ·rename_i l aO;simp only[a6]at h;subst h;exact⟨af.1.1.1,af.1.1.2,λi ad=>by simpa using af.1.2 i ad,af.2,aO,rfl⟩
  ·cases h
 ·cases h
def Eh{α:Type}(l:List α)(d:α)(i:Nat):α:=(l[i]?).getD d
theorem atu{ops:List aE}{rf:Option pc}{e e2:Env}{H aJ:ah}(h:vy K pm ops rf e H=some (e2,aJ)):
 ∃c eS,rf=some c/\pm.lo<=H.next/\me K pm ((dt ops c.ord).map (·.2)) H.next c.fixed e ⟨H.t,H.next+ops.length⟩=some (e2,aJ,eS)/\dx eS aJ c.oq=true/\dm eS H.next eS 0=true:=by
 unfold vy at h;split at h
 ·rename_i c;rw[dA]at h;by_cases ey:pm.lo<=H.next
  ·simp only[ey,decide_true,cond_true]at h;split at h
   ·rename_i bw H' l aO
    cases af:(dx l H' c.oq&&dm l H.next l 0) with
    | false=>rw[af]at h;cases h
    | true=>
      rw[af]at h;simp only[cond_true,a6,c2]at h;obtain⟨rfl,rfl⟩:=h;simp only[cG]at af;exact⟨c,l,rfl,ey,aO,af.1,af.2⟩
   ·cases h
  ·simp only[ey,decide_false,cond_false]at h;cases h
 ·cases h
theorem atv{eS:List Rec}{aJ:ah}{c:List (Nat×Nat)}(h:dx eS aJ c=true){i j:Nat}(hm:(i,j)∈c):∃x y,eS[i]? = some x/\eS[j]? = some y/\(∀b∈x.se,b∉y.se)/\((∀b∈x.se,b∉y.xz)∨
 ((∀r∈eS,∃u,y.again r.heap=some u/\p1 u y.val=true)/\∃u,y.again aJ=some u/\p1 u y.val=true)):=by
 simp only[dx,hz]at h;have:=h (i,j) hm;simp only at this;split at this
 ·rename_i x y az bu;simp only[cG,nE]at this;refine⟨x,y,az,bu,U6 this.1,this.2.imp (λq=>U6 q) λq=>?_⟩;simp only[HQ,cG,hz]at q;exact⟨λr an=>Vr (q.1 r an),Vr q.2⟩
 ·cases this
theorem atw{ops:Array Oper}{c:pc}(af:Vs ops (nL P G n ops) c){e e2:Env}{H aJ:ah}{eS:List Rec}
 (h:me K pm ((dt (nL P G n ops) c.ord).map (·.2)) H.next c.fixed e ⟨H.t,H.next+(nL P G n ops).length⟩=some (e2,aJ,eS)) (Mr:dx eS aJ c.oq=true) (Ms:dm eS H.next eS 0=true):
 ∃s:gf P G n ops K pm,s.N=ops.size/\s.b0=H.next/\s.E 0=e/\s.cE 0=⟨H.t,H.next+s.N⟩/\s.E s.N=e2/\s.cE s.N=aJ/\(∀p q,s.bf p q->Bm ops (s.bj p) (s.bj q)=true)/\(∀p,p<s.N->ops[s.bj p]? = some (s.e6 p))/\
  (∀p q,p<s.N->q<s.N->s.bj p=s.bj q->p=q)/\(∀i,i<ops.size->∃p,p<s.N/\s.bj p=i):=by
 obtain⟨E,cE,V,F,M,dD⟩:=UZ h;generalize ot:dt (nL P G n ops) c.ord=rs at*
 have rh:(nL P G n ops).length=ops.size:=by simp[nL]
 have hlen:rs.length=ops.size:=by have:=af.len;rw[ot]at this;omega
 have aFY:eS.length=ops.size:=by have:=dD.len;simpa [hlen]using this
 let bj:Nat->Nat:=λp=>(Eh rs (0,⟨none,none,.bad ""⟩) p).1;let e6:Nat->Oper:=λp=>(ops[bj p]?).getD ats;have Bn:∀p,p<ops.size->rs[p]? = some (bj p,gq P G n ops (e6 p))/\ops[bj p]? = some (e6 p):=by
  intro p aC;have ri:p<rs.length:=by omega
  have U:rs[p]? = some rs[p]:=hG ri;have aa:rs[p]∈dt (nL P G n ops) c.ord:=by rw[ot];exact bXH ri
  obtain⟨aq,a8⟩:=atq aa;have tB:bj p=rs[p].1:=by simp only[bj,Eh,U,bZy]
  rw[<-tB]at aq;simp only[nL,bZE,bZD]at aq
  cases au:ops[bj p]? with
  | none=>rw[au]at aq;cases aq
  | some o=>
    have Bo:e6 p=o:=by simp only[e6,au,bZy]
    rw[au]at aq;simp only[bZs,a6]at aq;rw[Bo,U];refine⟨?_,rfl⟩;rw[aq,tB]
 have lM:∀p,p<ops.size->_:=λp aC=>dD.step p (gq P G n ops (e6 p)) (by rw[bZE,(Bn p aC).1];rfl);have Mt:∀p q,p<q->q<ops.size->¬Bm ops (bj p) (bj q)=true->∃l,Bg p q (gq P G n ops (e6 p)) (gq P G n ops (e6 q))=some l/\∀z∈l,z∈c.oq:=by
  intro p q hh aV ai;have:=U0 rs 0 c.oq (ot▸af.oq) q _ (Bn q aV).1 p _ (Bn p (by omega)).1 (by omega) (by simpa using ai);rwa [Nat.zero_add]at this
 have HR:∀i,i<=ops.size->i=ops.size∨∃r∈eS,r.heap=cE i:=by
  intro i ad;by_cases q:i=ops.size
  ·exact .inl q
  ·obtain⟨_,_,_,a8⟩:=lM i (by omega);exact .inr ⟨_,fR a8,rfl⟩
 have gd:cE ops.size=aJ:=by have:=dD.gd;simpa [hlen]using this
 have atx:E ops.size=e2:=by have:=dD.UY;simpa [hlen]using this
 have pd:∀p q,p<ops.size->q<ops.size->(p,q)∈c.oq->(∀b∈M p,b∉M q)/\((∀b∈M p,b∉F q)∨∀i,i<=ops.size->∃u,(gq P G n ops (e6 q)).again (E q) (cE i)=some u/\p1 u (V q)=true):=by
  intro p q aC aV hm;obtain⟨x,y,az,bu,U,aa⟩:=atv Mr hm;obtain⟨_,_,_,a8⟩:=lM p aC;obtain⟨_,_,_,cg⟩:=lM q aV;rw[a8]at az;rw[cg]at bu;cases az;cases bu;refine⟨U,aa.imp id λ⟨bn,bh⟩ i ad=>?_⟩
  rcases HR i ad with r | ⟨r,an,c9⟩
  ·rw[r,gd];exact bh
  ·rw[<-c9];exact bn r an
 refine⟨{N:=ops.size,b0:=H.next,bj:=bj,e6:=e6,fx:=λp=>c.fixed.getD p false,bf:=λp q=>Bm ops (bj p) (bj q)=true,E:=E,cE:=cE,V:=V,F:=F,M:=M,run:=?_,put:=?_,own:=?_,apart:=?_,wr:=?_,Mb:=?_,fixed:=?_,made:=?_},rfl,rfl,dD.cY,?_,atx,gd,λp q h=>h,λp aC=>(Bn p aC).2,λp q aC aV hh=>?_,λi ad=>?_⟩
 ·intro p aC;exact(lM p aC).2.1
 ·intro p aC;exact(lM p aC).2.2.1
 ·intro p aC;exact(lM p aC).1
 ·intro p q hh aV ai;obtain⟨l,U,_⟩:=Mt p q hh aV ai;exact(L9 U).1
 ·intro p q hh aV ai f1 f2;obtain⟨l,U,aa⟩:=Mt p q hh aV ai;exact pd p q (by omega) aV (aa _ ((L9 U).2.1 (by rw[f1,f2];rfl)))
 ·intro p q hh aV ai f1 f2;obtain⟨l,U,aa⟩:=Mt p q hh aV ai;exact pd q p aV (by omega) (aa _ ((L9 U).2.2 (by rw[f1,f2];rfl)))
 ·intro p aC bc q aV dr aS;rw[af.fixed,ot]at bc;have:=Vo rs 0 p _ (Bn p aC).1 bc;rw[Nat.zero_add]at this;have:=Vp rs 0 q _ (Bn q aV).1 this (by omega) aS;rwa [Nat.zero_add]at this
 ·intro q aV p aC bc dr;obtain⟨_,_,_,a8⟩:=lM q aV;have:=Vq eS 0 q _ a8 Ms p (by omega) bc (by omega);rw[Nat.zero_add]at this;obtain⟨cg,x,dj,j4⟩:=this;obtain⟨_,_,_,Ei⟩:=lM p aC;rw[Ei]at dj;cases dj;exact⟨cg,j4⟩
 ·show cE 0=⟨H.t,H.next+ops.size⟩;rw[dD.aD,rh]
 ·have Ej:=atr (ds:=nL P G n ops) af.aP;rw[ot,List.pairwise_iff_getElem]at Ej;apply oa;intro dr;have ri:p<rs.length:=by simp only at aC;omega
  have ju:q<rs.length:=by simp only at aV;omega
  have ao:bj p=rs[p].1:=by simp only[bj,Eh,hG ri,bZy]
  have e2:bj q=rs[q].1:=by simp only[bj,Eh,hG ju,bZy]
  simp only[ao,e2]at hh
  rcases Nat.lt_or_gt_of_ne dr with r | r
  ·exact Ej p q ri ju r hh
  ·exact Ej q p ju ri r hh.symm
 ·have U:=af.cover i (by omega);obtain⟨o,au⟩:∃o,(nL P G n ops)[i]? = some o:=⟨_,hG (by omega)⟩;have az:(i,o)∈rs:=by
   rw[<-ot];unfold dt;rw[List.mem_filterMap];exact⟨i,U,by rw[au];rfl⟩
  obtain⟨p,aC,aty⟩:=bWh az;refine⟨p,by simp only;omega,?_⟩;simp only[bj,Eh,hG aC,bZy,aty]
theorem gf.facts{ops:Array Oper}(s:gf P G n ops K pm)(db:fT O P G K)(dS:pm.num=none){γ:bo}{H:ah}{w:World}{a:Act}(ai:s.b0=H.next)(ey:pm.lo<=s.b0)(vw:s.cE 0=⟨H.t,H.next+s.N⟩)(an:Rel O base γ H w)(bz:eY γ n (s.E 0) a)(bA:hH G γ):∀q,q<s.N->s.Fact q:=
 (s.chain db dS ai ey vw an bz bA s.N (bR _)).2
theorem atz{listed:Array Bool}{i j:Nat}(ad:i<listed.size):(listed.setIfInBounds i true).getD j true=true↔listed.getD j true=true∨j=i:=by
 simp only[bZN];by_cases h:i=j
 ·subst h;simp[ad]
 ·rw[A7 h];exact⟨.inl,λq=>q.resolve_right (λq=>h q.symm)⟩
theorem eY.congr{γ:bo}{e bw:Env}{a:Act}(h:eY γ n e a)(aK:∀t,bw.get t=e.get t):eY γ n bw a:=⟨h.size,h.ej,h.defers,λt v q=>h.get t v (by rw[<-aK t];exact q)⟩
theorem atA{ops:Array Oper}{s:gf P G n ops K pm}{γ0:bo}{H0:ah}{w0:World}{Q:Exit->Act->World->Prop}(Bp:vv ops=true)(gb:s.N=ops.size)(jt:∀p q,s.bf p q->Bm ops (s.bj p) (s.bj q)=true)(Bo:∀p,p<s.N->ops[s.bj p]? = some (s.e6 p))
 (Vt:∀p q,p<s.N->q<s.N->s.bj p=s.bj q->p=q) (atB:∀i,i<ops.size->∃p,p<s.N/\s.bj p=i)
 (ei:∀q,q<s.N->s.Fact q) (ai:s.b0=H0.next) (ey:pm.lo<=s.b0) (aD:∀b,s.b0<=b->(s.cE 0).get b=none) (mS:s.b0<=(s.cE 0).next) (db:fT O P G K) (dS:pm.num=none) (bA:hH G γ0)
 (bU:∀dQ a2 bL,eY dQ n (s.E s.N) a2->Step O base pm γ0 H0 w0 dQ (s.cE s.N) bL->Q .normal a2 bL):
 ∀(d:Nat) (listed:Array Bool) (e:Env) (J:ah) (γ:bo) (a:Act) (w:World),listed.size=ops.size->p2 listed.toList<=d->
  (∀j o,listed.getD j true=true->ops[j]? = some o->∀e∈o.after,Region.binds .any e=true->listed.getD e.on true=true)->
  gf.Inv O base s (λp=>listed.getD (s.bj p) true=true) γ0 H0 w0 e J γ a w->wpAny P .any ops Q d listed a w:=by
 intro d;have tB:∀p,p<s.N->s.bj p<ops.size:=λp aC=>(ic.1 (Bo p aC)).1;have tC:∀(listed:Array Bool) (e:Env) (J:ah) (γ:bo) (a:Act) (w:World),(∀i,i<ops.size->listed.getD i true=true)->gf.Inv O base s (λp=>listed.getD (s.bj p) true=true) γ0 H0 w0 e J γ a w->Q .normal a w:=by
  intro listed e J γ a w mc dw;have bK:∀p,p<s.N->(p<s.N↔listed.getD (s.bj p) true=true):=λp aC=>⟨λ_=>mc _ (tB p aC),λ_=>aC⟩;have hq:=dw.next s.N (bR _) λk ag _=>bK k ag;refine bU γ a w (dw.re.congr λt=>(dw.hp t s.N (bR _) λk ag _=>bK k ag).symm) ?_;refine dw.step.congr (λb L bC=>(dw.gK b s.N (bR _) (λp aC q=>?_) λk ag _=>bK k ag).symm) (Nat.le_of_eq hq) (λb ec=>?_) λb ec hm=>?_
  ·subst q;exact dw.known p aC L bC
  ·cases aG:s.N with
   | zero=>
     rw[aG]at ec;exact aD b (by omega)
   | succ k=>
     rw[aG]at ec;exact(ei k (by omega)).new b ec
  ·rw[<-dw.gK b s.N (bR _) (λp aC q=>by omega) λk ag _=>bK k ag];exact dw.step.k4 b ec hm
 have mc:∀(listed:Array Bool),listed.size=ops.size->Region.ready .any ops listed=[]->∀m i,i<m->i<ops.size->listed.getD i true=true:=by
  intro listed tD an m
  induction m with
  | zero=>intro i h;omega
  | succ m ih=>
    intro i ad atC
    cases aO:listed.getD i true with
    | true=>rfl
    | false=>
      have au:ops[i]? = some ops[i]:=pU atC;have:i∈Region.ready .any ops listed:=mem_ready.2 ⟨aO,_,au,λe he ec=>by
       have bO:=Vn Bp au he ec;have:=ih e.on (by omega) (by omega);rw[bZN,pU (by omega)]at this|-;exact this⟩
      rw[an]at this;cases this
 have hzero:∀(listed:Array Bool),listed.size=ops.size->p2 listed.toList=0->∀i,i<ops.size->listed.getD i true=true:=by
  intro listed tD bl i ad
  cases aO:listed.getD i true with
  | true=>rfl
  | false=>
    rw[bZN,pU (by omega)]at aO;refine(Vl (i:=i) bl ?_).elim;rw[bZD,pU (by omega)];exact congrArg some aO
 induction d with
 | zero=>
   intro listed e J γ a w tD atD d' dw;have bl:=hzero listed tD (by omega);refine⟨?_,tC listed e J γ a w bl dw⟩
   cases an:Region.ready .any ops listed with
   | nil=>rfl
   | cons x xs=>
     have az:x∈Region.ready .any ops listed:=by rw[an];exact .head _
     obtain⟨U,o,aa,_⟩:=mem_ready.1 az;rw[bl x (ic.1 aa).1]at U;cases U
 | succ d ih=>
   intro listed e J γ a w tD atD d' dw;refine⟨λan=>tC listed e J γ a w (λi ad=>mc listed tD an (i+1) i (by omega) ad) dw,λi ad=>?_⟩;obtain⟨Mu,o,au,atE⟩:=mem_ready.1 ad;have atF:=(ic.1 au).1;obtain⟨j,aH,tz⟩:=atB i atF;have atG:o=s.e6 j:=by
    have:=Bo j aH;rw[tz,au]at this;exact bZI this
   have Vu:∀e∈o.after,Region.binds .any e=true->listed.getD e.on true=true:=λe he ec=>by
    have:=atE e he ec;have bO:=Vn Bp au he ec;rw[bZN,pU (by omega)]at this|-;exact this
   have dD:s.Ready (λp=>listed.getD (s.bj p) true=true) j:=by
    refine⟨aH,by rw[tz,Mu];simp,λp q aC aV ec bK=>?_,λp aC ec=>?_⟩
    ·have:=jt p q ec;exact L5 (T:=λi=>listed.getD i true=true) Bp d' _ (s.bj q) (s.bj p) _ (bYn _) (Bo q aV) (d' _ _ bK (Bo q aV)) this
    ·have:=jt p j ec;rw[tz]at this;exact L5 (T:=λi=>listed.getD i true=true) Bp d' _ i (s.bj p) o (bYn _) au Vu this
   have lN:∀k,(listed.setIfInBounds i true).getD k true=true↔listed.getD k true=true∨k=i:=λk=>atz (by omega);have Ek:listed[i]? = some false:=by
    rw[bZN,pU (by omega)]at Mu;rw[pU (by omega)];exact congrArg some Mu
   unfold wpOp;rw[au];simp only;rw[atG];refine dw.oper ei ai ey aD mS db dS bA dD λbw J' bk a' w' xB=>?_;refine ih (listed.setIfInBounds i true) bw J' bk a' w' (by simpa using tD) ?_ ?_ ?_
   ·have:=Vk (l:=listed.toList) (i:=i) (by simpa using Ek);rw[Array.toList_setIfInBounds];omega
   ·intro k ok ag dM Vv he ec;rw[lN]at ag|-
    rcases ag with ag | ag
    ·exact .inl (d' k ok ag dM Vv he ec)
    ·subst ag;rw[au]at dM;cases dM;exact .inl (Vu Vv he ec)
   ·have aFZ:(λp=>(listed.getD (s.bj p) true=true)∨p=j)=λp=>p<s.N/\(listed.setIfInBounds i true).getD (s.bj p) true=true∨¬p<s.N/\((listed.getD (s.bj p) true=true)∨p=j):=by
     funext p;by_cases aC:p<s.N
     ·simp only[aC,true_and,not_true_eq_false,false_and,or_false,lN,eq_iff_iff];refine or_congr Iff.rfl ⟨λq=>q▸tz,λq=>Vt p j aC aH (q.trans tz.symm)⟩
     ·simp[aC]
    have El:∀p,p<s.N->(((listed.getD (s.bj p) true=true)∨p=j)↔(listed.setIfInBounds i true).getD (s.bj p) true=true):=λp aC=>by
     rw[lN];exact or_congr Iff.rfl ⟨λq=>q▸tz,λq=>Vt p j aC aH (q.trans tz.symm)⟩
    exact⟨xB.re,xB.step,xB.eF,λt i ad ag=>xB.hp t i ad λk fI aB=>(ag k fI aB).trans (El k fI).symm,
     λb i ad Mv ag=>xB.gK b i ad (λp aC q=>⟨(El p aC).2 (Mv p aC q).1,(Mv p aC q).2⟩) λk fI hw=>(ag k fI hw).trans (El k fI).symm,
     λi ad ag=>xB.next i ad λk fI hw=>(ag k fI hw).trans (El k fI).symm,
     λp aC L bC=>⟨(El p aC).1 (xB.known p aC L bC).1,(xB.known p aC L bC).2⟩⟩
theorem Em(atH:P.follows .mixedOrders=true):HS O P G:=by
 intro K db pm dS n id ops Q base e e2 a γ H aJ w h an bz bA bU;obtain⟨c,eS,U,ey,aq,a8,cg⟩:=atu h;have af:=att U;obtain⟨s,ao,gW,bd,b1,cK,il,nM,mh,pe,Mw⟩:=atw af aq a8 cg;have atI:eY γ n (s.E 0) a:=bd▸bz;have ei:=s.facts db dS gW (by omega) b1 an atI bA;have aD:∀b,s.b0<=b->(s.cE 0).get b=none:=λb ai=>by rw[b1];exact an.new b (by omega)
 refine wp_region_any atH ?_;refine atA (γ0:=γ) (H0:=H) (w0:=w) af.down ao nM mh pe Mw ei gW (by omega) aD (by rw[b1,gW];exact hS _ _) db dS bA (λdQ a2 bL bn bh=>bU dQ a2 bL (cK▸bn) (il▸bh)) ops.size (Array.replicate ops.size false) e ⟨H.t,H.next+s.N⟩ γ a _ (by simp) (by simp[Vm]) ?_ ?_
 ·intro j o aH au;exfalso;have:=(ic.1 au).1;rw[bZN]at aH;simp[this]at aH
 ·have Mx:∀p,p<s.N->¬((Array.replicate ops.size false).getD (s.bj p) true=true):=λp aC=>by
   have:=(ic.1 (mh p aC)).1;rw[bZN];simp[this]
  have bl:∀i,i<=s.N->∀d,d=i->True:=λ_ _ _ _=>trivial;refine⟨bz,Step.UX an s.N _,by rw[gW];exact bR _,λt i ad ag=>?_,λb i ad Mv ag=>?_,λi ad ag=>?_,λp aC L bC=>?_⟩
  ·have:=s.Mh (t:=t) 0 i (by omega) λk _ vz aB=>Mx k (by omega) ((ag k (by omega) aB).1 (by omega));rw[Nat.zero_add]at this;rw[this,bd]
  ·have:=s.Ec ei (b:=b) 0 i (by omega) λk _ vz hw=>Mx k (by omega) ((ag k (by omega) hw).1 (by omega));rw[Nat.zero_add]at this;rw[this,b1]
  ·have:=s.Mg ei 0 i (by omega) λk _ vz hw=>Mx k (by omega) ((ag k (by omega) hw).1 (by omega));rw[Nat.zero_add]at this;rw[this,b1]
  ·have:=an.lt _ _ bC;omega
end
def p3:Nat->Nat->List Bool
 | 0,_=>[]
 | f+1,k=>bif Nat.beq k 0 then[] else bif Nat.beq (Nat.mod k 2) 1 then true::p3 f (Nat.div k 2) else false::p3 f (Nat.sub (Nat.div k 2) 1)
structure Bq where
 g:Env->(Value->Out)->Out
structure Br where
 s:Value->Env->Env
structure xC where
 f:c8->Perm->Env->ah->(Value->ah->Out)->Out
structure Vw where
 f:c8->Perm->Env->ah->(Env->ah->Out)->Out
structure Vx where
 f:c8->Perm->Nat->Env->ah->(gr->Env->ah->Out)->Out
structure My where
 f:Value->Value->(Value->Out)->Out
structure Vy where
 f:Env->(List Value->Out)->Out
noncomputable def cN{α:Type}(o:Option α)(k:α->Out):Out:=@Option.rec α (λ_=>Out) none k o
noncomputable def Vz:List Bool->Bq:=@List.rec Bool (λ_=>Bq) ⟨λe k=>@cI.rec Value (λ_=>Out) none (λ_ v _ _ _=>@Option.rec Value (λ_=>Out) none k v) e⟩
 (λb _ ih=>@Bool.rec (λ_=>Bq) ⟨λe k=>@cI.rec Value (λ_=>Out) none (λ_ _ r _ _=>ih.g r k) e⟩ ⟨λe k=>@cI.rec Value (λ_=>Out) none (λl _ _ _ _=>ih.g l k) e⟩ b)
noncomputable def VA:List Bool->Br:=@List.rec Bool (λ_=>Br) ⟨λx=>@cI.rec Value (λ_=>Env) (.aP .ak (some x) .ak) (λl _ r _ _=>.aP l (some x) r)⟩
 (λb _ ih=>@Bool.rec (λ_=>Br) ⟨λx=>@cI.rec Value (λ_=>Env) (.aP .ak none (ih.s x .ak)) (λl v r _ _=>.aP l v (ih.s x r))⟩ ⟨λx=>@cI.rec Value (λ_=>Env) (.aP (ih.s x .ak) none .ak) (λl v r _ _=>.aP (ih.s x l) v r)⟩ b)
noncomputable def Bs(n:Nat):Bq:=Vz (p3 (n+1) n)
noncomputable def HT(n:Nat):Br:=VA (p3 (n+1) n)
noncomputable def fl:cD->Bq:=@cD.rec (λ_=>Bq) Bs (λv=>⟨λ_ k=>k v⟩)
noncomputable def Mz:Option Nat->Br:=@Option.rec Nat (λ_=>Br) ⟨λ_ e=>e⟩ HT
noncomputable def HU:List cD->Vy:=@List.rec cD (λ_=>Vy) ⟨λ_ k=>k []⟩ (λr _ ih=>⟨λe k=>(fl r).g e λv=>ih.f e λl=>k (v::l)⟩)
noncomputable def En(v:Value)(Bt:IntKind->Int->Out)(ks:ByteArray->Out):Out:=
 @Value.rec (λ_=>Out) (λ_=>PUnit) (λ_=>PUnit) (λ_=>none) Bt (λ_ _=>none) (λ_ _ _=>none) ks (λ_=>none) (λ_ _ _=>none) (λ_=>none) (λ_=>none) (λ_ _ _ _ _=>none) none (λ_ _ _=>none) none (λ_ _=>none) (λ_ _=>none) (λ_ _=>⟨⟩) ⟨⟩ (λ_ _ _ _=>⟨⟩) v
noncomputable def xD(v:Value)(Bt:IntKind->Int->Out):Out:=En v Bt λ_=>none
noncomputable def y9(v:Value)(ks:ByteArray->Out):Out:=En v (λ_ _=>none) ks
noncomputable def Bu(v:Value)(iX:Bool->Out):Out:=
 @Value.rec (λ_=>Out) (λ_=>PUnit) (λ_=>PUnit) iX (λ_ _=>none) (λ_ _=>none) (λ_ _ _=>none) (λ_=>none) (λ_=>none) (λ_ _ _=>none) (λ_=>none) (λ_=>none) (λ_ _ _ _ _=>none) none (λ_ _ _=>none) none (λ_ _=>none) (λ_ _=>none) (λ_ _=>⟨⟩) ⟨⟩ (λ_ _ _ _=>⟨⟩) v
noncomputable def VB(v:Value)(atJ:Option Addr->Out)(atK:Option Addr->Nat->Nat->Out):Out:=
 @Value.rec (λ_=>Out) (λ_=>PUnit) (λ_=>PUnit) (λ_=>none) (λ_ _=>none) (λ_ _=>none) (λ_ _ _=>none) (λ_=>none) atJ atK (λ_=>none) (λ_=>none) (λ_ _ _ _ _=>none) none (λ_ _ _=>none) none (λ_ _=>none) (λ_ _=>none) (λ_ _=>⟨⟩) ⟨⟩ (λ_ _ _ _=>⟨⟩) v
noncomputable def tE(v:Value)(k:Addr->Out):Out:=VB v (λo=>cN o k) (λ_ _ _=>none)
noncomputable def HV(v:Value)(k:Option Addr->Nat->Nat->Out):Out:=VB v (λ_=>none) k
noncomputable def VC(v:Value)(k:Array Value->Out)(hg:Array Value->Out):Out:=
 @Value.rec (λ_=>Out) (λ_=>PUnit) (λ_=>PUnit) (λ_=>none) (λ_ _=>none) (λ_ _=>none) (λ_ _ _=>none) (λ_=>none) (λ_=>none) (λ_ _ _=>none) (λ_=>none) (λ_=>none) (λ_ _ _ _ _=>none) none (λ_ _ _=>none) none (λa _=>k a) (λa _=>hg a) (λ_ _=>⟨⟩) ⟨⟩ (λ_ _ _ _=>⟨⟩) v
noncomputable def Bv(v:Value)(k:Nat->Out):Out:=xD v λ_ n=>@Int.rec (λ_=>Out) k (λ_=>none) n
noncomputable def gA(b:Bool)(x y:Out):Out:=@Bool.rec (λ_=>Out) y x b
noncomputable def VD:IntKind->Nat:=@IntKind.rec (λ_=>Nat) 0 1 2 3 4 5 6 7
noncomputable def vA(a b:IntKind):Bool:=Nat.beq (VD a) (VD b)
noncomputable def p4{α:Type}(l:List α):Nat->(α->Out)->Out:=@List.rec α (λ_=>Nat->(α->Out)->Out) (λ_ _=>none) (λv _ ih n k=>@Nat.rec (λ_=>Out) (k v) (λm _=>ih m k) n) l
noncomputable def mT(x:Value)(l:List Value):Nat->(List Value->Out)->Out:=@List.rec Value (λ_=>Nat->(List Value->Out)->Out) (λ_ _=>none) (λv t ih n k=>@Nat.rec (λ_=>Out) (k (x::t)) (λm _=>ih m λr=>k (v::r)) n) l
noncomputable def MA(f:Int->Int->Int):Value->Value->(Value->Out)->Out:=λx y k=>xD x λgL a=>xD y λiX b=>gA (vA gL iX) (k (.int gL (wr gL (f a b)))) none
noncomputable def Eo(op:BinOp)(f:Int->Int->Bool):Value->Value->(Value->Out)->Out:=λx y k=>En x (λgL a=>xD y λiX b=>gA (vA gL iX) (k (.bool (f a b))) none) λs=>y9 y λt=>cN (xr op s t) k
def Ep:List UInt8->List UInt8->Bool
 | [],[]=>true
 | a::x,b::y=>bif Nat.beq a.toNat b.toNat then Ep x y else false
 | _,_=>false
noncomputable def Er(neg:Bool):pa->My:=@pa.rec (λ_=>My)
 ⟨λx y k=>En x (λgL a=>xD y λiX b=>gA (vA gL iX) (k (.bool (xor neg (jO a b)))) none) λs=>y9 y λt=>k (.bool (xor neg (Ep s.data.toList t.data.toList)))⟩
 ⟨λx y k=>Bu x λa=>Bu y λb=>k (.bool (xor neg (a==b)))⟩
 (λn=>⟨λx y k=>cN (nI n x y) λb=>k (.bool (xor neg b))⟩)
 (λks=>⟨λx y k=>cN (nJ (.cells ks) x y) λb=>k (.bool (xor neg b))⟩)
noncomputable def MB:BinOp->pa->My
 | .add=>λ_=>⟨λx y k=>En x (λgL a=>xD y λiX b=>gA (vA gL iX) (k (.int gL (wr gL (Int.add a b)))) none) λs=>y9 y λt=>cN (xr .add s t) k⟩
 | .sub=>λ_=>⟨MA Int.sub⟩
 | .mul=>λ_=>⟨MA Int.mul⟩
 | .lss=>λ_=>⟨Eo .lss lG⟩
 | .leq=>λ_=>⟨Eo .leq λa b=>!lG b a⟩
 | .gtr=>λ_=>⟨Eo .gtr λa b=>lG b a⟩
 | .geq=>λ_=>⟨Eo .geq λa b=>!lG a b⟩
 | .eql=>λq=>Er false q
 | .neq=>λq=>Er true q
 | op=>λq=>⟨λx y k=>cN (binOp op q x y) k⟩
noncomputable def HW:Nat->Nat->cI cj->(cj->Out)->Out:=
 @Nat.rec (λ_=>Nat->cI cj->(cj->Out)->Out) (λ_ _ _=>none) (λ_ ih b t k=>@cI.rec cj (λ_=>Out) none (λl v r _ _=>
  gA (Nat.beq b 0) (cN v k) (gA (Nat.beq (Nat.mod b 2) 1) (ih (Nat.div b 2) l k) (ih (Nat.sub (Nat.div b 2) 1) r k))) t)
noncomputable def Bw(H:ah)(b:Nat)(k:cj->Out):Out:=HW (Nat.succ b) b H.t k
noncomputable def MC(x:cj)(k:List Value->Out):Out:=@cj.rec (λ_=>Out) (λcs _=>k cs) k (λ_ _=>none) (λ_ _=>none) (λ_=>none) none (λ_ _=>none) x
noncomputable def VE(x:cj)(k:List Value->dI->Out):Out:=@cj.rec (λ_=>Out) k (λ_=>none) (λ_ _=>none) (λ_ _=>none) (λ_=>none) none (λ_ _=>none) x
noncomputable def Es(o:bM):xC:=⟨λK lo e H k=>cN (o.run K lo e H) λp=>k p.1 p.2⟩
noncomputable def HX:Value->Bool:=@Value.rec (λ_=>Bool) (λ_=>PUnit) (λ_=>PUnit) (λ_=>true) (λ_ _=>true) (λ_ _=>true) (λ_ _ _=>true) (λ_=>true) (λ_=>true) (λ_ _ _=>true) (λ_=>true) (λ_=>true) (λ_ _ _ _ _=>true) true (λ_ _ _=>true) true (λ_ _=>false) (λ_ _=>false) (λ_ _=>⟨⟩) ⟨⟩ (λ_ _ _ _=>⟨⟩)
noncomputable def Bx(x:cD)(f:Value->(Value->Out)->Out):xC:=⟨λ_ _ e H k=>(fl x).g e λv=>f v λu=>k u H⟩
noncomputable def HY:bM->xC
 | .aM x=>⟨λ_ _ e H k=>(fl x).g e λv=>k v H⟩
 | .bin op q x y=>⟨λ_ _ e H k=>(fl x).g e λa=>(fl y).g e λb=>(MB op q).f a b λv=>k v H⟩
 | .call f args=>⟨λK lo e H k=>(HU args).f e λl=>cN (K lo f l H) λp=>k p.1 p.2⟩
 | .len .l x=>Bx x λv k=>HV v λ_ n _=>k (.int .i64 (.ofNat n))
 | .len .s x=>Bx x λv k=>y9 v λs=>k (.int .i64 (.ofNat s.size))
 | .load agg n a=>@Bool.rec (λ_=>xC) ⟨λ_ _ e H k=>(fl a).g e λv=>tE v λdk=>Bw H dk.block λx=>MC x λcs=>p4 cs dk.off λu=>k u H⟩ (Es (.load agg n a)) agg
 | .store n a x=>@Bool.rec (λ_=>xC) (Es (.store n a x)) ⟨λ_ lo e H k=>(fl a).g e λv=>tE v λdk=>(fl x).g e λu=>gA (HX u) (Bw H dk.block λy=>VE y λcs z=>mT u cs dk.off λcs=>gA (lo.may dk.block) (k zWb (H.put dk.block (.cells cs z))) none) (cN ((bM.store n a x).run (λ_ _ _ _=>none) lo e H) λp=>k p.1 p.2)⟩ (Nat.beq n 1)
 | .pick c a b=>⟨λ_ _ e H k=>(fl c).g e λv=>Bu v λt=>gA t ((fl a).g e λu=>k u H) ((fl b).g e λu=>k u H)⟩
 | .ho esz x i=>⟨λ_ _ e H k=>(fl x).g e λv=>(fl i).g e λu=>HV v λo len _=>cN o λdk=>Bv u λj=>gA (Nat.ble (Nat.succ j) len) (k (.pointer (some ⟨dk.block,Nat.add dk.off (Nat.mul j esz),none⟩)) H) none⟩
 | .y3 n esz x i=>⟨λ_ _ e H k=>(fl x).g e λv=>(fl i).g e λu=>tE v λdk=>Bv u λj=>gA (Nat.ble (Nat.succ j) n) (k (.pointer (some ⟨dk.block,Nat.add dk.off (Nat.mul j esz),none⟩)) H) none⟩
 | .pV x i=>⟨λ_ _ e H k=>(fl x).g e λv=>(fl i).g e λu=>y9 v λs=>Bv u λj=>p4 s.data.toList j λb=>k (.int .u8 (.ofNat b.toNat)) H⟩
 | .extract x i=>Bx x λv k=>VC v (λ_=>none) λvs=>p4 vs.toList i k
 | .fieldAddr off x=>Bx x λv k=>tE v λdk=>k (.pointer (some ⟨dk.block,Nat.add dk.off off,none⟩))
 | .nilCheck x=>Bx x λv k=>tE v λdk=>k (.pointer (some dk))
 | .conv (.int p5) x=>Bx x λv k=>xD v λ_ n=>k (.int p5 (wr p5 n))
 | .box t x=>⟨λ_ lo e H k=>(fl x).g e λv=>k (ptr (lo.pick H)) (lo.make H (.cells v.cells.toList (.t t)))⟩
 | o=>Es o
noncomputable def MD(o:aE):xC:=@Option.rec (Nat×Bool) (λ_=>xC) (HY o.op) (λp=>⟨λK lo e H k=>(Bs p.1).g e λv=>cN (@Value.rec (λ_=>Option Bool) (λ_=>PUnit) (λ_=>PUnit) (λb=>some (b==p.2)) (λ_ _=>some false) (λ_ _=>some false) (λ_ _ _=>some false) (λ_=>some false) (λ_=>some false) (λ_ _ _=>some false) (λ_=>some false) (λ_=>some false) (λ_ _ _ _ _=>some false) (some false) (λ_ _ _=>some false) (some false) (λ_ _=>some false) (λ_ _=>some false) (λ_ _=>⟨⟩) ⟨⟩ (λ_ _ _ _=>⟨⟩) v) λw=>gA w ((HY o.op).f K lo e H k) (k zWb H)⟩) o.guard
noncomputable def HZ:List aE->Vw:=@List.rec aE (λ_=>Vw) ⟨λ_ _ e H k=>k e H⟩ (λo _ ih=>⟨λK lo e H k=>(MD o).f K lo e H λv H=>ih.f K lo ((Mz o.dst).s v e) H k⟩)
noncomputable def ME(f:Env->ah->(gr->Env->ah->Out)->Out)(k:gr->Env->ah->Out):Nat->Env->ah->Out:=
 @Nat.rec (λ_=>Env->ah->Out) (λ_ _=>none) (λ_ ih e H=>f e H λx=>@gr.rec (λ_=>Env->ah->Out) ih (λi=>k (.exit i)) (k .ret) x)
noncomputable def vB:ae->Vx:=
 @ae.rec (λ_=>Vx)
  ⟨λ_ _ _ e H k=>k .normal e H⟩
  (λops=>⟨λK lo _ e H k=>(HZ ops).f K lo e H λe H=>k .normal e H⟩)
  (λops rf=>⟨λK lo _ e H k=>cN (vy K lo ops rf e H) λp=>k .normal p.1 p.2⟩)
  (λ_ _ Et vC=>⟨λK lo fuel e H k=>Et.f K lo fuel e H λx=>@gr.rec (λ_=>Env->ah->Out) (λe H=>vC.f K lo fuel e H k) (λi=>k (.exit i)) (k .ret) x⟩)
  (λc _ _ Et vC=>⟨λK lo fuel e H k=>(fl c).g e λv=>Bu v λb=>gA b (Et.f K lo fuel e H k) (vC.f K lo fuel e H k)⟩)
  (λid _ vC=>⟨λK lo fuel e H k=>vC.f K lo fuel e H λx=>@gr.rec (λ_=>Env->ah->Out) (k .normal) (λi e H=>gA (Nat.beq i id) (k .normal e H) (k (.exit i) e H)) (k .ret) x⟩)
  (λ_ vC=>⟨λK lo fuel e H k=>ME (vC.f K lo fuel) k fuel e H⟩)
  (λid=>⟨λ_ _ _ e H k=>k (.exit id) e H⟩)
  ⟨λ_ _ _ e H k=>k .ret e H⟩
  (λ_=>⟨λ_ _ _ _ _ _=>none⟩)
structure atL where
 f:c8->Perm->Nat->List Value->ah->Out
noncomputable def H2:List Value->Nat->Env->Env:=@List.rec Value (λ_=>Nat->Env->Env) (λ_ e=>e) (λv _ ih n e=>ih (Nat.succ n) ((HT n).s v e))
noncomputable def Eu:List r9->Env->ah->(List Value->Out)->Out:=@List.rec r9 (λ_=>Env->ah->(List Value->Out)->Out) (λ_ _ k=>k [])
 (λr _ ih e H k=>@r9.rec (λ_=>Out) (λt=>(Bs t).g e λv=>ih e H λl=>k (v::l)) (λt g n=>cN (ik H g n (e.get t)) λv=>ih e H λl=>k (v::l)) r)
noncomputable def MF(F:b2):atL:=⟨λK lo fuel args H=>gA (Nat.ble args.length F.lL) ((vB F.body).f K lo fuel (H2 args 0 .ak) H λx e H=>@gr.rec (λ_=>Out) (Eu F.res e H λl=>some (.normal,.aP .ak (some (j5 l)) .ak,H)) (λ_=>none) (Eu F.res e H λl=>some (.normal,.aP .ak (some (j5 l)) .ak,H)) x) none⟩
noncomputable def H3(o:Out):Option (Value×ah):=@Option.rec (gr×Env×ah) (λ_=>Option (Value×ah)) none (λp=>@cI.rec Value (λ_=>Option (Value×ah)) none (λ_ v _ _ _=>@Option.rec Value (λ_=>Option (Value×ah)) none (λv=>some (v,p.2.2)) v) p.2.1) o
noncomputable def Ev(T:Nat->Option b2)(S:c8->c8)(fuel:Nat):Nat->c8:=
 @Nat.rec (λ_=>c8) (λ_ _ _ _=>none) (λ_ ih=>S λlo f args H=>@Option.rec b2 (λ_=>Option (Value×ah)) none (λF=>H3 ((MF F).f ih lo fuel args H)) (T f))
theorem tF{a b:Nat}(h:a≠b):Nat.beq a b=false:=by rw[ed];simp[h]
theorem lO{α:Type}(x:α)(k:α->Out):cN (some x) k=k x:=rfl
theorem sf(b:Bool)(x y:Out):gA b x y=bif b then x else y:=by cases b<;>rfl
theorem VF(f:Nat):p3 (f+1) 0=[]:=rfl
theorem VG(f j:Nat):p3 (f+1) (2*j+1)=true::p3 f j:=by
 have U:Nat.beq (2*j+1) 0=false:=tF (by omega);have aa:Nat.beq (Nat.mod (2*j+1) 2) 1=true:=by
  rw[show Nat.mod (2*j+1) 2=(2*j+1)%2 from rfl,show(2*j+1)%2=1 by omega];rfl
 have aq:Nat.div (2*j+1) 2=j:=by rw[show Nat.div (2*j+1) 2=(2*j+1)/2 from rfl];omega
 simp only[p3,U,aa,aq,cond_true,cond_false]
theorem VH(f j:Nat):p3 (f+1) (2*j+2)=false::p3 f j:=by
 have U:Nat.beq (2*j+2) 0=false:=tF (by omega);have aa:Nat.beq (Nat.mod (2*j+2) 2) 1=false:=by
  rw[show Nat.mod (2*j+2) 2=(2*j+2)%2 from rfl,show(2*j+2)%2=0 by omega];rfl
 have aq:Nat.sub (Nat.div (2*j+2) 2) 1=j:=by rw[show Nat.div (2*j+2) 2=(2*j+2)/2 from rfl,show ∀a b,Nat.sub a b=a-b from λ_ _=>rfl];omega
 simp only[p3,U,aa,aq,cond_false]
theorem three(k:Nat):k=0∨(∃j,k=2*j+1)∨∃j,k=2*j+2:=by
 rcases bXD k with h | h
 ·exact .inl h
 ·rcases Nat.mod_two_eq_zero_or_one k with aa | aa
  ·exact .inr (.inr ⟨k/2-1,by omega⟩)
  ·exact .inr (.inl ⟨k/2,by omega⟩)
theorem H4{α:Type}(l r:cI α)(v:Option α)(j:Nat):(cI.aP l v r).get (2*j+1)=l.get j:=by
 have U:Nat.beq (2*j+1) 0=false:=tF (by omega);have aa:Nat.beq ((2*j+1)%2) 1=true:=by rw[show(2*j+1)%2=1 by omega];rfl
 simp only[cI.get,U,aa,cond_true,cond_false,show(2*j+1)/2=j by omega]
theorem H5{α:Type}(l r:cI α)(v:Option α)(j:Nat):(cI.aP l v r).get (2*j+2)=r.get j:=by
 have U:Nat.beq (2*j+2) 0=false:=tF (by omega);have aa:Nat.beq ((2*j+2)%2) 1=false:=by rw[show(2*j+2)%2=0 by omega];rfl
 simp only[cI.get,U,aa,cond_false,show(2*j+2)/2-1=j by omega]
theorem MG:∀(f k:Nat) (e:Env) (c:Value->Out),k<f->(Vz (p3 f k)).g e c=cN (e.get k) c
 | 0,_,_,_,h=>by omega
 | f+1,k,e,c,h=>by
   rcases three k with rfl | ⟨j,rfl⟩ | ⟨j,rfl⟩
   ·rw[VF];cases e<;>rfl
   ·rw[VG]
    cases e with
    | ak=>rfl
    | aP l v r=>
      rw[H4];exact MG f j l c (by omega)
   ·rw[VH]
    cases e with
    | ak=>rfl
    | aP l v r=>
      rw[H5];exact MG f j r c (by omega)
theorem MH(n:Nat)(e:Env)(c:Value->Out):(Bs n).g e c=cN (e.get n) c:=MG (n+1) n e c (bYn n)
theorem atM{α:Type}(x:α)(l r:cI α)(v:Option α)(j:Nat):(cI.aP l v r).set x (2*j+1)=.aP (l.set x j) v r:=by
 have U:Nat.beq (2*j+1) 0=false:=tF (by omega);have aa:Nat.beq ((2*j+1)%2) 1=true:=by rw[show(2*j+1)%2=1 by omega];rfl
 simp only[cI.set,U,aa,cond_true,cond_false,show(2*j+1)/2=j by omega]
theorem atN{α:Type}(x:α)(l r:cI α)(v:Option α)(j:Nat):(cI.aP l v r).set x (2*j+2)=.aP l v (r.set x j):=by
 have U:Nat.beq (2*j+2) 0=false:=tF (by omega);have aa:Nat.beq ((2*j+2)%2) 1=false:=by rw[show(2*j+2)%2=0 by omega];rfl
 simp only[cI.set,U,aa,cond_false,show(2*j+2)/2-1=j by omega]
theorem H6{α:Type}(x:α):∀(f g k:Nat),k<f->k<g->cI.one x f k=cI.one x g k
 | 0,_,_,h,_=>by omega
 | _,0,_,_,h=>by omega
 | f+1,g+1,k,U,aa=>by
   simp only[cI.one]
   cases ai:Nat.beq k 0 with
   | true=>rfl
   | false=>
     have ag:k≠0:=by rw[ed]at ai;simpa using ai
     simp only[cond_false];rw[H6 x f g (k/2) (by omega) (by omega),H6 x f g (k/2-1) (by omega) (by omega)]
theorem H7{α:Type}(x:α)(k:Nat):(cI.ak:cI α).set x k=cI.one x (k+1) k:=rfl
theorem atO{α:Type}(x:α)(f j:Nat):cI.one x (f+1) (2*j+1)=.aP (cI.one x f j) none .ak:=by
 have U:Nat.beq (2*j+1) 0=false:=tF (by omega);have aa:Nat.beq ((2*j+1)%2) 1=true:=by rw[show(2*j+1)%2=1 by omega];rfl
 simp only[cI.one,U,aa,cond_true,cond_false,show(2*j+1)/2=j by omega]
theorem atP{α:Type}(x:α)(f j:Nat):cI.one x (f+1) (2*j+2)=.aP .ak none (cI.one x f j):=by
 have U:Nat.beq (2*j+2) 0=false:=tF (by omega);have aa:Nat.beq ((2*j+2)%2) 1=false:=by rw[show(2*j+2)%2=0 by omega];rfl
 simp only[cI.one,U,aa,cond_false,show(2*j+2)/2-1=j by omega]
theorem Ew:∀(f k:Nat) (x:Value) (e:Env),k<f->(VA (p3 f k)).s x e=e.set x k
 | 0,_,_,_,h=>by omega
 | f+1,k,x,e,h=>by
   rcases three k with rfl | ⟨j,rfl⟩ | ⟨j,rfl⟩
   ·rw[VF];cases e<;>rfl
   ·rw[VG]
    cases e with
    | ak=>
      rw[H7,atO,H6 x (2*j+1) (j+1) j (by omega) (by omega),<-H7];exact congrArg (λt=>cI.aP t none cI.ak) (Ew f j x .ak (by omega))
    | aP l v r=>
      rw[atM];exact congrArg (λt=>cI.aP t v r) (Ew f j x l (by omega))
   ·rw[VH]
    cases e with
    | ak=>
      rw[H7,atP,H6 x (2*j+2) (j+1) j (by omega) (by omega),<-H7];exact congrArg (λt=>cI.aP cI.ak none t) (Ew f j x .ak (by omega))
    | aP l v r=>
      rw[atN];exact congrArg (λt=>cI.aP l v t) (Ew f j x r (by omega))
theorem VI(n:Nat)(x:Value)(e:Env):(HT n).s x e=e.set x n:=Ew (n+1) n x e (bYn n)
theorem mU(r:cD)(e:Env)(c:Value->Out):(fl r).g e c=cN (bB e r) c:=by
 cases r with
 | t n=>exact MH n e c
 | c v=>rfl
theorem atQ(d:Option Nat)(v:Value)(e:Env):(Mz d).s v e=putDst e d v:=by
 cases d with
 | none=>rfl
 | some d=>exact VI d v e
theorem VJ:∀(l:List cD) (e:Env) (c:List Value->Out),(HU l).f e c=cN (fD e l) c
 | [],e,c=>rfl
 | r::l,e,c=>by
   show(fl r).g e (λv=>(HU l).f e λt=>c (v::t))=_;rw[mU];simp only[fD]
   cases bB e r with
   | none=>rfl
   | some v=>
     simp only[lO];rw[VJ l];cases fD e l<;>rfl
theorem MI:∀(f b:Nat) (t:cI cj) (k:cj->Out),b<f->HW f b t k=cN (t.get b) k
 | 0,_,_,_,h=>by omega
 | f+1,b,t,k,h=>by
   cases t with
   | ak=>rfl
   | aP l v r=>
     show gA (Nat.beq b 0) (cN v k) (gA (Nat.beq (Nat.mod b 2) 1) (HW f (Nat.div b 2) l k) (HW f (Nat.sub (Nat.div b 2) 1) r k))=_;have hm:∀a,Nat.mod a 2=a%2:=λ_=>rfl;have aB:∀a,Nat.div a 2=a/2:=λ_=>rfl;have aG:∀a,Nat.sub a 1=a-1:=λ_=>rfl
     rcases three b with rfl | ⟨j,rfl⟩ | ⟨j,rfl⟩
     ·rfl
     ·rw[H4,hm,aB,show(2*j+1)%2=1 by omega,show(2*j+1)/2=j by omega];have U:Nat.beq (2*j+1) 0=false:=tF (by omega);rw[U];exact MI f j l k (by omega)
     ·rw[H5,hm,aB,aG,show(2*j+2)%2=0 by omega,show(2*j+2)/2-1=j by omega];have U:Nat.beq (2*j+2) 0=false:=tF (by omega);rw[U];exact MI f j r k (by omega)
theorem VK(H:ah)(b:Nat)(k:cj->Out):Bw H b k=cN (H.get b) k:=MI (b+1) b H.t k (bYn b)
theorem Ex{α:Type}:∀(l:List α) (n:Nat) (k:α->Out),p4 l n k=cN l[n]? k
 | [],n,k=>by simp[p4,cN]
 | x::l,0,k=>rfl
 | x::l,n+1,k=>by
   rw[bZZ];exact Ex l n k
theorem VL(x:Value):∀(l:List Value) (n:Nat) (k:List Value->Out),mT x l n k=cN (setCells l n [x]) k
 | [],n,k=>by simp[mT,setCells,cN,dA]
 | y::l,0,k=>by
   simp only[setCells,dA,bZt,List.length_nil];rw[bZF (by omega)];rfl
 | y::l,n+1,k=>by
   show mT x l n (λr=>k (y::r))=_;rw[VL x l n];simp only[setCells,dA,bZt,List.length_nil];by_cases h:n+(0+1)<=l.length
   ·rw[bZF h,bZF (by omega)];simp only[cond_true,lO,List.take_succ_cons];rw[show n+1+(0+1)=(n+(0+1))+1 by omega,cZd];rfl
   ·rw[bZS h,bZS (by omega)];rfl
theorem H8(a b:IntKind):vA a b=decide (a=b):=by cases a<;>cases b<;>rfl
theorem VM:∀(a b:List UInt8),Ep a b=(a==b)
 | [],[]=>rfl
 | [],_::_=>rfl
 | _::_,[]=>rfl
 | a::x,b::y=>by
   have h:Nat.beq a.toNat b.toNat=(a==b):=by
    rw[ed];by_cases q:a=b
    ·subst q;simp
    ·rw[bZS (λe=>q (bXI.1 e))];simp[q]
   simp only[Ep,h,VM x y];show _=(a==b&&x==y);cases (a==b)<;>rfl
theorem VN(op:BinOp)(f:Int->Int->Int)(bc:∀k a b,iI op k a b=some (.int k (wr k (f a b))))(aG:∀s t,xr op s t=none)(x y:Value)(k:Value->Out):MA f x y k=cN (Bc op x y) k:=by
 cases x<;>first | rfl | skip
 case int gL a=>
  cases y<;>first | rfl | skip
  case int iX b=>
   show gA (vA gL iX) (k (.int gL (wr gL (f a b)))) none=cN (if gL=iX then iI op gL a b else none) k;rw[H8,sf,bc];by_cases h:gL=iX<;>simp[h,cN]
 case string s=>
  cases y<;>first | rfl | skip
  case string t=>
   show none=cN (xr op s t) k;rw[aG];rfl
theorem H9(op:BinOp)(f:Int->Int->Bool)(bc:∀k a b,iI op k a b=some (.bool (f a b)))(x y:Value)(k:Value->Out):Eo op f x y k=cN (Bc op x y) k:=by
 cases x<;>first | rfl | skip
 case int gL a=>
  cases y<;>first | rfl | skip
  case int iX b=>
   show gA (vA gL iX) (k (.bool (f a b))) none=cN (if gL=iX then iI op gL a b else none) k;rw[H8,sf,bc];by_cases h:gL=iX<;>simp[h,cN]
 case string s=>
  cases y<;>rfl
theorem VO(neg:Bool)(q:pa)(x y:Value)(k:Value->Out):(Er neg q).f x y k=cN (match nJ q x y with | some b=>some (.bool (xor neg b)) | none=>none) k:=by
 cases q with
 | aZ=>
   cases x<;>first | rfl | skip
   case int gL a=>
    cases y<;>first | rfl | skip
    case int iX b=>
     show gA (vA gL iX) (k (.bool (xor neg (jO a b)))) none=cN (match (if gL=iX then some (jO a b) else none) with | some b=>some (.bool (xor neg b)) | none=>none) k;rw[H8,sf];by_cases h:gL=iX<;>simp[h,cN]
   case string s=>
    cases y<;>first | rfl | skip
    case string t=>
     show k (.bool (xor neg (Ep s.data.toList t.data.toList)))=cN (match some (s.toList==t.toList) with | some b=>some (Value.bool (xor neg b)) | none=>none) k;rw[VM,Go.ByteArray.toList_eq,Go.ByteArray.toList_eq];rfl
 | bool=>
   cases x<;>first | rfl | skip
   cases y<;>rfl
 | nil n=>
   show cN (nI n x y) (λb=>k (.bool (xor neg b)))=cN (match nI n x y with | some b=>some (.bool (xor neg b)) | none=>none) k;cases nI n x y<;>rfl
 | cells ks=>
   show cN (nJ (.cells ks) x y) (λb=>k (.bool (xor neg b)))=_;cases nJ (.cells ks) x y<;>rfl
theorem atS(op:BinOp)(q:pa)(x y:Value)(k:Value->Out):(MB op q).f x y k=cN (binOp op q x y) k:=by
 cases op<;>first | rfl | skip
 case add=>
  cases x<;>first | rfl | skip
  case int gL a=>
   cases y<;>first | rfl | skip
   case int iX b=>
    show gA (vA gL iX) (k (.int gL (wr gL (Int.add a b)))) none=cN (if gL=iX then iI .add gL a b else none) k;rw[H8,sf];by_cases h:gL=iX
    ·rw[bZF h,bm h];rfl
    ·rw[bZS h,aU h];rfl
  case string s=>cases y<;>rfl
 case sub=>exact VN .sub _ (λ_ _ _=>rfl) (λ_ _=>rfl) x y k
 case mul=>exact VN .mul _ (λ_ _ _=>rfl) (λ_ _=>rfl) x y k
 case lss=>exact H9 .lss _ (λ_ _ _=>rfl) x y k
 case leq=>exact H9 .leq _ (λ_ _ _=>rfl) x y k
 case gtr=>exact H9 .gtr _ (λ_ _ _=>rfl) x y k
 case geq=>exact H9 .geq _ (λ_ _ _=>rfl) x y k
 case eql=>
  show(Er false q).f x y k=_;rw[VO];show _=cN (match nJ q x y with | some b=>some (.bool b) | none=>none) k
  cases nJ q x y with
  | none=>rfl
  | some b=>cases b<;>rfl
 case neq=>
  show(Er true q).f x y k=_;rw[VO];show _=cN (match nJ q x y with | some b=>some (.bool (!b)) | none=>none) k
  cases nJ q x y with
  | none=>rfl
  | some b=>cases b<;>rfl
theorem VP(v:Value):HX v=fG v:=by cases v<;>rfl
theorem Ey(o:bM)(K:c8)(lo:Perm)(e:Env)(H:ah)(k:Value->ah->Out):(Es o).f K lo e H k=cN (o.run K lo e H) λp=>k p.1 p.2:=rfl
theorem y'{o:Option Value}{lo:Perm}{H:ah}{k:Value->ah->Out}:cN ((hU o).run lo H) (λp=>k p.1 p.2)=cN o λu=>k u H:=by cases o<;>rfl
theorem za{o:Option Value}{f:Value->bF}{lo:Perm}{H:ah}{k:Value×ah->Out}:cN ((eN o f).run lo H) k=cN o λv=>cN ((f v).run lo H) k:=by cases o<;>rfl
theorem VQ(o:bM)(K:c8)(lo:Perm)(e:Env)(H:ah)(k:Value->ah->Out):(HY o).f K lo e H k=cN (o.run K lo e H) λp=>k p.1 p.2:=by
 cases o<;>try exact Ey _ K lo e H k
 case aM x=>
  show(fl x).g e (λv=>k v H)=cN ((hU (bB e x)).run lo H) λp=>k p.1 p.2;rw[mU,y']
 case pick c a b=>
  show(fl c).g e (λv=>Bu v λt=>gA t ((fl a).g e λu=>k u H) ((fl b).g e λu=>k u H))=cN ((bM.cA e (.pick c a b)).run lo H) λp=>k p.1 p.2;simp only[bM.cA,mU,za];congr 1;funext v;cases v<;>try rfl
  case bool t=>
   cases t
   ·exact y'.symm
   ·exact y'.symm
 case box t x=>
  show(fl x).g e (λv=>k (ptr (lo.pick H)) (lo.make H (.cells v.cells.toList (.t t))))=cN ((bM.cA e (.box t x)).run lo H) λp=>k p.1 p.2;simp only[bM.cA,mU,za];rfl
 case load agg n a=>
  cases agg with
  | true=>exact Ey _ K lo e H k
  | false=>
    show(fl a).g e (λv=>tE v λdk=>Bw H dk.block λx=>MC x λcs=>p4 cs dk.off λu=>k u H)=cN ((bM.cA e (.load false n a)).run lo H) λp=>k p.1 p.2;simp only[bM.cA,mU]
    cases bB e a with
    | none=>rfl
    | some v=>
      simp only[lO];cases v<;>try rfl
      case pointer p=>
       cases p with
       | none=>rfl
       | some dk=>
         show Bw H dk.block (λx=>MC x λcs=>p4 cs dk.off λu=>k u H)=_;rw[VK];simp only[pX,bF.run]
         cases H.get dk.block with
         | none=>rfl
         | some x=>
           simp only[lO];cases x<;>try rfl
           case cells cs z=>
            show p4 cs dk.off (λu=>k u H)=cN ((hU cs[dk.off]?).run lo H) λp=>k p.1 p.2;rw[Ex,y']
           case ro cs=>
            show p4 cs dk.off (λu=>k u H)=cN ((hU cs[dk.off]?).run lo H) λp=>k p.1 p.2;rw[Ex,y']
 case store n a x=>
  show(@Bool.rec (λ_=>xC) (Es (.store n a x)) _ (Nat.beq n 1)).f K lo e H k=_
  cases aF:Nat.beq n 1 with
  | false=>exact Ey _ K lo e H k
  | true=>
    have j6:n=1:=by rw[ed]at aF;simpa using aF
    subst j6;show(fl a).g e (λv=>tE v λdk=>(fl x).g e λu=>gA (HX u) (Bw H dk.block λy=>VE y λcs z=>mT u cs dk.off λcs=>gA (lo.may dk.block) (k zWb (H.put dk.block (.cells cs z))) none) (cN ((bM.store 1 a x).run (λ_ _ _ _=>none) lo e H) λp=>k p.1 p.2))=cN ((bM.cA e (.store 1 a x)).run lo H) λp=>k p.1 p.2;simp only[mU]
    cases aN:bB e a with
    | none=>simp[bM.cA,aN,q6,bF.run,cN]
    | some v=>
      simp only[lO];cases v<;>try (simp only[bM.cA,aN,q6];rfl)
      case pointer p=>
       cases p with
       | none=>simp only[bM.cA,aN,q6];rfl
       | some dk=>
         show cN (bB e x) _=_
         cases az:bB e x with
         | none=>simp only[bM.cA,aN,az,q6];rfl
         | some u=>
           simp only[lO];rw[sf]
           cases U:HX u with
           | false=>rfl
           | true=>
             have hW:u.cells=#[u]:=by cases u<;>first | rfl | (exact absurd U (by rw[VP];simp[fG]))
             simp only[cond_true,bM.cA,aN,az,q6,hW];show _=cN ((putRow dk [u] (.ret zWb)).run lo H) λp=>k p.1 p.2;simp only[putRow,bF.run];rw[VK]
             cases H.get dk.block with
             | none=>rfl
             | some y=>
               simp only[lO];cases y<;>try rfl
               case cells cs z=>
                show mT u cs dk.off (λcs=>gA (lo.may dk.block) (k zWb (H.put dk.block (.cells cs z))) none)=_;have mc:[u].all fG=true:=by simp[<-VP,U]
                simp only[mc,cond_true];rw[VL];cases setCells cs dk.off [u]with
                | none=>rfl
                | some cs=>
                  simp only[lO,bF.run];rw[sf];cases lo.may dk.block<;>rfl
 case nilCheck x=>
  show(fl x).g e (λv=>tE v λdk=>k (.pointer (some dk)) H)=cN ((bM.cA e (.nilCheck x)).run lo H) λp=>k p.1 p.2;simp only[bM.cA,mU,za];congr 1;funext v;cases v<;>try rfl
  case pointer p=>cases p<;>rfl
 case bin op q x y=>
  show(fl x).g e (λa=>(fl y).g e λb=>(MB op q).f a b λv=>k v H)=cN ((bM.cA e (.bin op q x y)).run lo H) λp=>k p.1 p.2;simp only[bM.cA,mU,za,atS,y']
 case conv c x=>
  cases c<;>try exact Ey _ K lo e H k
  case int p5=>
   show(fl x).g e (λv=>xD v λ_ n=>k (.int p5 (wr p5 n)) H)=cN ((bM.cA e (.conv (.int p5) x)).run lo H) λp=>k p.1 p.2;simp only[bM.cA,mU,za];congr 1;funext v;cases v<;>rfl
 case fieldAddr off x=>
  show(fl x).g e (λv=>tE v λdk=>k (.pointer (some ⟨dk.block,Nat.add dk.off off,none⟩)) H)=cN ((bM.cA e (.fieldAddr off x)).run lo H) λp=>k p.1 p.2;simp only[bM.cA,mU,za];congr 1;funext v;cases v<;>try rfl
  case pointer p=>cases p<;>rfl
 case ho esz x i=>
  show(fl x).g e (λv=>(fl i).g e λu=>HV v λo len _=>cN o λdk=>Bv u λj=>gA (Nat.ble (Nat.succ j) len) (k (.pointer (some ⟨dk.block,Nat.add dk.off (Nat.mul j esz),none⟩)) H) none)=cN ((bM.cA e (.ho esz x i)).run lo H) λp=>k p.1 p.2;simp only[bM.cA,mU]
  cases bB e x with
  | none=>rfl
  | some v=>
    cases bB e i with
    | none=>cases v<;>try rfl
            case slice b _ _=>cases b<;>rfl
    | some u=>
      simp only[lO];cases v<;>try rfl
      case slice b ln fH=>
       cases b with
       | none=>rfl
       | some dk=>
         cases u<;>try rfl
         case int Bt n=>
          cases n with
          | negSucc m=>rfl
          | ofNat j=>
            show gA (Nat.ble (Nat.succ j) ln) _ none=cN ((bif Nat.blt j ln then bF.ret (.pointer (some ⟨dk.block,dk.off+j*esz,none⟩)) else .fail).run lo H) λp=>k p.1 p.2;rw[sf];show(bif Nat.blt j ln then _ else _)=_;cases Nat.blt j ln<;>rfl
 case y3 n esz x i=>
  show(fl x).g e (λv=>(fl i).g e λu=>tE v λdk=>Bv u λj=>gA (Nat.ble (Nat.succ j) n) (k (.pointer (some ⟨dk.block,Nat.add dk.off (Nat.mul j esz),none⟩)) H) none)=cN ((bM.cA e (.y3 n esz x i)).run lo H) λp=>k p.1 p.2;simp only[bM.cA,mU]
  cases bB e x with
  | none=>rfl
  | some v=>
    cases bB e i with
    | none=>cases v<;>try rfl
            case pointer b=>cases b<;>rfl
    | some u=>
      simp only[lO];cases v<;>try rfl
      case pointer b=>
       cases b with
       | none=>rfl
       | some dk=>
         cases u<;>try rfl
         case int Bt m=>
          cases m with
          | negSucc m=>rfl
          | ofNat j=>
            show gA (Nat.ble (Nat.succ j) n) _ none=cN ((bif Nat.blt j n then bF.ret (.pointer (some ⟨dk.block,dk.off+j*esz,none⟩)) else .fail).run lo H) λp=>k p.1 p.2;rw[sf];show(bif Nat.blt j n then _ else _)=_;cases Nat.blt j n<;>rfl
 case pV x i=>
  show(fl x).g e (λv=>(fl i).g e λu=>y9 v λs=>Bv u λj=>p4 s.data.toList j λb=>k (.int .u8 (.ofNat b.toNat)) H)=cN ((bM.cA e (.pV x i)).run lo H) λp=>k p.1 p.2;simp only[bM.cA,mU]
  cases bB e x with
  | none=>rfl
  | some v=>
    cases bB e i with
    | none=>cases v<;>rfl
    | some u=>
      simp only[lO];cases v<;>try rfl
      case string s=>
       cases u<;>try rfl
       case int Bt m=>
        cases m with
        | negSucc m=>rfl
        | ofNat j=>
          show p4 s.data.toList j (λb=>k (.int .u8 (.ofNat b.toNat)) H)=cN ((match s.data.toList[j]? with | some b=>bF.ret (.int .u8 (b.toNat:Int)) | none=>.fail).run lo H) λp=>k p.1 p.2;rw[Ex];cases s.data.toList[j]?<;>rfl
 case extract x i=>
  show(fl x).g e (λv=>VC v (λ_=>none) (λvs=>p4 vs.toList i λu=>k u H))=cN ((bM.cA e (.extract x i)).run lo H) λp=>k p.1 p.2;simp only[bM.cA,mU,za];congr 1;funext v;cases v<;>try rfl
  case tuple vs=>
   show p4 vs.toList i (λu=>k u H)=cN ((hU vs.toList[i]?).run lo H) λp=>k p.1 p.2;rw[Ex,y']
 case call f args=>
  show(HU args).f e (λl=>cN (K lo f l H) λp=>k p.1 p.2)=cN (match fD e args with | some l=>K lo f l H | none=>none) λp=>k p.1 p.2;rw[VJ];cases fD e args<;>rfl
 case len c x=>
  cases c
  case m=>exact Ey _ K lo e H k
  case s=>
   show(fl x).g e (λv=>y9 v λs=>k (.int .i64 (.ofNat s.size)) H)=cN ((bM.cA e (.len .s x)).run lo H) λp=>k p.1 p.2;simp only[bM.cA,mU]
   cases bB e x with
   | none=>rfl
   | some v=>cases v<;>rfl
  case l=>
   show(fl x).g e (λv=>HV v λ_ n _=>k (.int .i64 (.ofNat n)) H)=cN ((bM.cA e (.len .l x)).run lo H) λp=>k p.1 p.2;simp only[bM.cA,mU]
   cases bB e x with
   | none=>rfl
   | some v=>cases v<;>rfl
theorem atT(o:aE)(K:c8)(lo:Perm)(e:Env)(H:ah)(k:Value->ah->Out):(MD o).f K lo e H k=cN (o.run K lo e H) λp=>k p.1 p.2:=by
 obtain⟨d,g,op⟩:=o
 cases g with
 | none=>exact VQ op K lo e H k
 | some p=>
   obtain⟨j,want⟩:=p;show(Bs j).g e _=_;rw[MH];simp only[aE.run,aE.wanted]
   cases e.get j with
   | none=>rfl
   | some v=>
     simp only[lO];cases v<;>try rfl
     case bool b=>
      show gA (b==want) ((HY op).f K lo e H k) (k zWb H)=cN (match some (b==want) with | some true=>op.run K lo e H | some false=>some (zWb,H) | none=>none) λp=>k p.1 p.2;rw[sf]
      cases (b==want) with
      | true=>exact VQ op K lo e H k
      | false=>rfl
theorem VR:∀(l:List aE) (K:c8) (lo:Perm) (e:Env) (H:ah) (k:Env->ah->Out),(HZ l).f K lo e H k=cN (mQ K lo l e H) λp=>k p.1 p.2
 | [],_,_,_,_,_=>rfl
 | o::l,K,lo,e,H,k=>by
   show(MD o).f K lo e H (λv H=>(HZ l).f K lo ((Mz o.dst).s v e) H k)=_;rw[atT];simp only[mQ]
   cases o.run K lo e H with
   | none=>rfl
   | some p=>
     obtain⟨v,H1⟩:=p;simp only[lO];rw[atQ];exact VR l K lo _ H1 k
theorem VS(f:Env->ah->Out)(gM:Env->ah->(gr->Env->ah->Out)->Out)(bc:∀e H k,gM e H k=cN (f e H) λp=>k p.1 p.2.1 p.2.2)(k:gr->Env->ah->Out):∀(n:Nat) (e:Env) (H:ah),ME gM k n e H=cN (iter f n e H) λp=>k p.1 p.2.1 p.2.2
 | 0,_,_=>rfl
 | n+1,e,H=>by
   show gM e H (λx=>@gr.rec (λ_=>Env->ah->Out) (ME gM k n) (λi=>k (.exit i)) (k .ret) x)=_;rw[bc];simp only[iter]
   cases f e H with
   | none=>rfl
   | some p=>
     obtain⟨x,ao,H1⟩:=p
     cases x with
     | normal=>exact VS f gM bc k n ao H1
     | exit i=>rfl
     | ret=>rfl
theorem atU(K:c8)(lo:Perm)(fuel:Nat):∀(c:ae) (e:Env) (H:ah) (k:gr->Env->ah->Out),(vB c).f K lo fuel e H k=cN (eval K lo fuel c e H) λp=>k p.1 p.2.1 p.2.2:=by
 intro c
 induction c with
 | skip=>intro e H k;rfl
 | aT ops=>
   intro e H k;show(HZ ops).f K lo e H (λe H=>k .normal e H)=_;rw[VR];simp only[eval];cases mQ K lo ops e H<;>rfl
 | draw ops rf=>
   intro e H k;show cN (vy K lo ops rf e H) (λp=>k .normal p.1 p.2)=_;simp only[eval];cases vy K lo ops rf e H<;>rfl
 | seq a b MJ MK=>
   intro e H k;show(vB a).f K lo fuel e H (λx=>@gr.rec (λ_=>Env->ah->Out) (λe H=>(vB b).f K lo fuel e H k) (λi=>k (.exit i)) (k .ret) x)=_;rw[MJ];simp only[eval]
   cases eval K lo fuel a e H with
   | none=>rfl
   | some p=>
     obtain⟨x,ao,H1⟩:=p
     cases x with
     | normal=>exact MK ao H1 k
     | exit i=>rfl
     | ret=>rfl
 | cond c a b MJ MK=>
   intro e H k;show(fl c).g e (λv=>Bu v λt=>gA t ((vB a).f K lo fuel e H k) ((vB b).f K lo fuel e H k))=_;rw[mU];simp only[eval]
   cases bB e c with
   | none=>rfl
   | some v=>
     simp only[lO];cases v<;>try rfl
     case bool t=>
      cases t
      ·exact MK e H k
      ·exact MJ e H k
 | block id b ih=>
   intro e H k;show(vB b).f K lo fuel e H (λx=>@gr.rec (λ_=>Env->ah->Out) (k .normal) (λi e H=>gA (Nat.beq i id) (k .normal e H) (k (.exit i) e H)) (k .ret) x)=_;rw[ih];simp only[eval]
   cases eval K lo fuel b e H with
   | none=>rfl
   | some p=>
     obtain⟨x,ao,H1⟩:=p
     cases x with
     | normal=>rfl
     | exit i=>
       simp only[lO];show gA (Nat.beq i id) (k .normal ao H1) (k (.exit i) ao H1)=_;rw[sf];cases Nat.beq i id<;>rfl
     | ret=>rfl
 | loop b ih=>
   intro e H k;exact VS (eval K lo fuel b) ((vB b).f K lo fuel) ih k fuel e H
 | exit id=>intro e H k;rfl
 | ret=>intro e H k;rfl
 | bad w=>intro e H k;rfl
theorem VT:∀(l:List Value) (n:Nat) (e:Env),H2 l n e=tG l n e
 | [],_,_=>rfl
 | v::l,n,e=>by
   show H2 l (n+1) ((HT n).s v e)=_;rw[VI];exact VT l (n+1) _
theorem Ia:∀(l:List r9) (e:Env) (H:ah) (k:List Value->Out),Eu l e H k=cN (ou e H l) k
 | [],_,_,_=>rfl
 | r::l,e,H,k=>by
   cases r with
   | slot t=>
     show(Bs t).g e (λv=>Eu l e H λl=>k (v::l))=_;rw[MH];simp only[ou]
     cases e.get t with
     | none=>rfl
     | some v=>
       simp only[lO];rw[Ia l];cases ou e H l<;>rfl
   | cell t g n=>
     show cN (ik H g n (e.get t)) (λv=>Eu l e H λl=>k (v::l))=_;simp only[ou]
     cases ik H g n (e.get t) with
     | none=>rfl
     | some v=>
       simp only[lO];rw[Ia l];cases ou e H l<;>rfl
theorem atV(F:b2)(K:c8)(lo:Perm)(fuel:Nat)(args:List Value)(H:ah):H3 ((MF F).f K lo fuel args H)=By K lo fuel F args H:=by
 show H3 (gA (Nat.ble args.length F.lL) ((vB F.body).f K lo fuel (H2 args 0 .ak) H _) none)=_;rw[sf];unfold By
 cases Nat.ble args.length F.lL with
 | false=>rfl
 | true=>
   simp only[cond_true,Bool.not_true,cond_false];rw[atU,VT]
   cases eval K lo fuel F.body (tG args 0 .ak) H with
   | none=>rfl
   | some p=>
     obtain⟨x,ao,H1⟩:=p
     cases x with
     | normal=>
       simp only[lO];rw[Ia];cases ou ao H1 F.res<;>rfl
     | exit i=>rfl
     | ret=>
       simp only[lO];rw[Ia];cases ou ao H1 F.res<;>rfl
theorem Ib(T:Nat->Option b2)(S:c8->c8)(fuel:Nat):∀n,Ev T S fuel n=runK T S fuel n
 | 0=>rfl
 | n+1=>by
   show S _=S _;congr 1;funext lo f args H;show @Option.rec b2 (λ_=>Option (Value×ah)) none (λF=>H3 ((MF F).f (Ev T S fuel n) lo fuel args H)) (T f)=_;rw[Ib T S fuel n]
   cases T f with
   | none=>rfl
   | some F=>exact atV F _ lo fuel args H
def ow(σ:Nat->Option Nat):Value->Option Value
 | .pointer (some ⟨i,o,none⟩)=>(match σ i with | some b=>some (.pointer (some ⟨b,o,none⟩)) | none=>none)
 | .slice (some ⟨i,o,none⟩) n c=>(match σ i with | some b=>some (.slice (some ⟨b,o,none⟩) n c) | none=>none)
 | v=>bif plainCell v then some v else none
def nN(σ:Nat->Option Nat):List Value->Option (List Value)
 | []=>some []
 | v::l=>match ow σ v,nN σ l with
   | some a,some r=>some (a::r)
   | _,_=>none
def p6(σ:Nat->Option Nat):cj->Option cj
 | .cells cs z=>(match nN σ cs with | some l=>some (.cells l z) | none=>none)
 | .ro cs=>(match nN σ cs with | some l=>some (.ro l) | none=>none)
 | _=>none
def pf(σ:Nat->Option Nat):Value->Option Value
 | .agg cs=>(match nN σ cs.toList with | some l=>some (.agg l.toArray) | none=>none)
 | v=>ow σ v
def p7(σ:Nat->Option Nat):List Value->Option (List Value)
 | []=>some []
 | v::l=>match pf σ v,p7 σ l with
   | some a,some r=>some (a::r)
   | _,_=>none
def ML(σ:Nat->Option Nat):Value->Option Value
 | .tuple vs=>(match p7 σ vs.toList with | some l=>some (.tuple l.toArray) | none=>none)
 | v=>pf σ v
def idx(b:Nat):List Nat->Nat->Option Nat
 | [],_=>none
 | c::l,i=>bif Nat.beq c b then some i else idx b l (i+1)
def xE(b:Nat)(ρ:List Nat):Nat×List Nat:=match idx b ρ 0 with
 | some i=>(i,ρ)
 | none=>(ρ.length,ρ++[b])
def Ez(v:Value)(ρ:List Nat):Option (Value×List Nat):=match v with
 | .pointer (some ⟨b,o,none⟩)=>some (.pointer (some ⟨(xE b ρ).1,o,none⟩),(xE b ρ).2)
 | .slice (some ⟨b,o,none⟩) n c=>some (.slice (some ⟨(xE b ρ).1,o,none⟩) n c,(xE b ρ).2)
 | v=>bif plainCell v then some (v,ρ) else none
def mV:List Value->List Nat->Option (List Value×List Nat)
 | [],ρ=>some ([],ρ)
 | v::l,ρ=>match Ez v ρ with
   | some (a,ρ)=>(match mV l ρ with | some (r,ρ)=>some (a::r,ρ) | none=>none)
   | none=>none
def MM(v:Value)(ρ:List Nat):Option (Value×List Nat):=match v with
 | .agg cs=>(match mV cs.toList ρ with | some (l,ρ)=>some (.agg l.toArray,ρ) | none=>none)
 | v=>Ez v ρ
def EA:List Value->List Nat->Option (List Value×List Nat)
 | [],ρ=>some ([],ρ)
 | v::l,ρ=>match MM v ρ with
   | some (a,ρ)=>(match EA l ρ with | some (r,ρ)=>some (a::r,ρ) | none=>none)
   | none=>none
def MN(x:cj)(ρ:List Nat):Option (cj×List Nat):=match x with
 | .cells cs z=>(match mV cs ρ with | some (l,ρ)=>some (.cells l z,ρ) | none=>none)
 | .ro cs=>(match mV cs ρ with | some (l,ρ)=>some (.ro l,ρ) | none=>none)
 | _=>none
def Ic(H:ah):Nat->Nat->List Nat->Option (List cj×List Nat)
 | 0,_,_=>none
 | f+1,i,ρ=>match ρ[i]? with
   | none=>some ([],ρ)
   | some b=>(match H.get b with
     | some x=>(match MN x ρ with
       | some (y,ρ)=>(match Ic H f (i+1) ρ with | some (l,ρ)=>some (y::l,ρ) | none=>none)
       | none=>none)
     | none=>none)
def kx(ρ:List Nat)(i:Nat):Option Nat:=ρ[i]?
theorem VU{b:Nat}:∀{l:List Nat} {k i:Nat},idx b l k=some i->k<=i/\l[i-k]? = some b
 | [],_,_,h=>by cases h
 | c::l,k,i,h=>by
   unfold idx at h;rw[ed]at h;by_cases af:c=b
   ·simp only[af,decide_true,cond_true,a6]at h;subst h;simp[af]
   ·simp only[af,decide_false,cond_false]at h;obtain⟨U,aa⟩:=VU h;refine⟨by omega,?_⟩;rw[show i-k=(i-(k+1))+1 by omega,bZZ];exact aa
theorem VV{b:Nat}:∀{l:List Nat} {k:Nat},idx b l k=none->b∉l
 | [],_,_=>by simp
 | c::l,k,h=>by
   unfold idx at h;rw[ed]at h;by_cases af:c=b
   ·simp only[af,decide_true,cond_true,reduceCtorEq]at h
   ·simp only[af,decide_false,cond_false]at h;have:=VV h;simp only[lD,not_or];exact⟨λq=>af q.symm,this⟩
structure p8(ρ gX:List Nat):Prop where
 le:∀i b,kx ρ i=some b->kx gX i=some b
 aP:ρ.Nodup->gX.Nodup
theorem p8.refl(ρ:List Nat):p8 ρ ρ:=⟨λ_ _ h=>h,id⟩
theorem p8.trans{a b c:List Nat}(h:p8 a b)(g:p8 b c):p8 a c:=⟨λi x e=>g.le i x (h.le i x e),λe=>g.aP (h.aP e)⟩
theorem VW(b:Nat)(ρ:List Nat):p8 ρ (xE b ρ).2/\kx (xE b ρ).2 (xE b ρ).1=some b:=by
 unfold xE
 cases h:idx b ρ 0 with
 | some i=>exact⟨.refl _,by simpa [kx]using(VU h).2⟩
 | none=>
   refine⟨⟨λi x e=>?_,λaF=>?_⟩,by simp[kx]⟩
   ·unfold kx at*
    rw[lB (nD.1 e).1];exact e
   ·rw[List.nodup_append];refine⟨aF,by simp,λa aN c af e=>?_⟩;simp only[DZ]at af;subst af;subst e;exact VV h aN
theorem MO{σ pg:Nat->Option Nat}(aK:∀i b,σ i=some b->pg i=some b){p v:Value}(h:ow σ p=some v):ow pg p=some v:=by
 unfold ow at*
 split at h
 ·rename_i i o;split at h
  ·rename_i b ai;simp only[aK i b ai];exact h
  ·cases h
 ·rename_i i o n c;split at h
  ·rename_i b ai;simp only[aK i b ai];exact h
  ·cases h
 ·exact h
theorem Ie{σ pg:Nat->Option Nat}(aK:∀i b,σ i=some b->pg i=some b):∀{l r:List Value},nN σ l=some r->nN pg l=some r
 | [],r,h=>h
 | v::l,r,h=>by
   simp only[nN]at h|-;split at h
   ·rename_i a t U aa;rw[MO aK U,Ie aK aa];exact h
   ·cases h
theorem atW{σ pg:Nat->Option Nat}(aK:∀i b,σ i=some b->pg i=some b){p x:cj}(h:p6 σ p=some x):p6 pg p=some x:=by
 unfold p6 at*
 split at h
 ·split at h
  ·rename_i aO;simp only[Ie aK aO];exact h
  ·cases h
 ·split at h
  ·rename_i aO;simp only[Ie aK aO];exact h
  ·cases h
 ·cases h
theorem VX{v p:Value}{ρ gX:List Nat}(h:Ez v ρ=some (p,gX)):p8 ρ gX/\ow (kx gX) p=some v:=by
 unfold Ez at h;split at h
 ·rename_i b o;simp only[a6,c2]at h;obtain⟨rfl,rfl⟩:=h;obtain⟨U,aa⟩:=VW b ρ;exact⟨U,by simp only[ow,aa]⟩
 ·rename_i b o n c;simp only[a6,c2]at h;obtain⟨rfl,rfl⟩:=h;obtain⟨U,aa⟩:=VW b ρ;exact⟨U,by simp only[ow,aa]⟩
 ·cases aC:plainCell v with
  | false=>rw[aC]at h;cases h
  | true=>
    rw[aC]at h;simp only[cond_true,a6,c2]at h;obtain⟨rfl,rfl⟩:=h;refine⟨.refl _,?_⟩;unfold ow;split
    ·simp[plainCell]at aC
    ·simp[plainCell]at aC
    ·rw[aC];rfl
theorem Ig:∀{l p:List Value} {ρ gX:List Nat},mV l ρ=some (p,gX)->p8 ρ gX/\nN (kx gX) p=some l
 | [],p,ρ,gX,h=>by
   simp only[mV,a6,c2]at h;obtain⟨rfl,rfl⟩:=h;exact⟨.refl _,rfl⟩
 | v::l,p,ρ,gX,h=>by
   simp only[mV]at h;split at h
   ·rename_i a Bz U;split at h
    ·rename_i r VY aa;simp only[a6,c2]at h;obtain⟨rfl,rfl⟩:=h;obtain⟨g1,ao⟩:=VX U;obtain⟨g2,e2⟩:=Ig aa;exact⟨g1.trans g2,by simp only[nN,MO g2.le ao,e2]⟩
    ·cases h
   ·cases h
theorem VZ{σ pg:Nat->Option Nat}(aK:∀i b,σ i=some b->pg i=some b){p v:Value}(h:pf σ p=some v):pf pg p=some v:=by
 unfold pf at*
 split at h
 ·split at h
  ·rename_i aO;simp only[Ie aK aO];exact h
  ·cases h
 ·exact MO aK h
theorem V0{σ pg:Nat->Option Nat}(aK:∀i b,σ i=some b->pg i=some b):∀{l r:List Value},p7 σ l=some r->p7 pg l=some r
 | [],r,h=>h
 | v::l,r,h=>by
   simp only[p7]at h|-;split at h
   ·rename_i a t U aa;rw[VZ aK U,V0 aK aa];exact h
   ·cases h
theorem atX{v p:Value}{ρ gX:List Nat}(h:MM v ρ=some (p,gX)):p8 ρ gX/\pf (kx gX) p=some v:=by
 unfold MM at h;split at h
 ·rename_i cs;split at h
  ·rename_i l Bz U;simp only[a6,c2]at h;obtain⟨rfl,rfl⟩:=h;obtain⟨g1,ao⟩:=Ig U;refine⟨g1,?_⟩;simp only[pf,ao]
  ·cases h
 ·rename_i hX;obtain⟨g1,ao⟩:=VX h;refine⟨g1,?_⟩;unfold pf;split
  ·unfold Ez at h;split at h<;>try (simp only[a6,c2,reduceCtorEq,false_and]at h)
   rename_i aV _ _
   cases aC:plainCell v with
   | false=>rw[aC]at h;cases h
   | true=>
     rw[aC]at h;simp only[cond_true,a6,c2]at h;exact absurd h.1 (hX _)
  ·exact ao
theorem V1:∀{l p:List Value} {ρ gX:List Nat},EA l ρ=some (p,gX)->p8 ρ gX/\p7 (kx gX) p=some l
 | [],p,ρ,gX,h=>by
   simp only[EA,a6,c2]at h;obtain⟨rfl,rfl⟩:=h;exact⟨.refl _,rfl⟩
 | v::l,p,ρ,gX,h=>by
   simp only[EA]at h;split at h
   ·rename_i a Bz U;split at h
    ·rename_i r VY aa;simp only[a6,c2]at h;obtain⟨rfl,rfl⟩:=h;obtain⟨g1,ao⟩:=atX U;obtain⟨g2,e2⟩:=V1 aa;exact⟨g1.trans g2,by simp only[p7,VZ g2.le ao,e2]⟩
    ·cases h
   ·cases h
theorem atY{x p:cj}{ρ gX:List Nat}(h:MN x ρ=some (p,gX)):p8 ρ gX/\p6 (kx gX) p=some x:=by
 unfold MN at h;split at h
 ·split at h
  ·rename_i U;simp only[a6,c2]at h;obtain⟨rfl,rfl⟩:=h;obtain⟨g1,ao⟩:=Ig U;exact⟨g1,by simp only[p6,ao]⟩
  ·cases h
 ·split at h
  ·rename_i U;simp only[a6,c2]at h;obtain⟨rfl,rfl⟩:=h;obtain⟨g1,ao⟩:=Ig U;exact⟨g1,by simp only[p6,ao]⟩
  ·cases h
 ·cases h
theorem V2{H:ah}:∀{f i:Nat} {ρ gX:List Nat} {l:List cj},Ic H f i ρ=some (l,gX)->i<=ρ.length->p8 ρ gX/\i+l.length=gX.length/\∀j y,l[j]? = some y->∃b x,kx gX (i+j)=some b/\H.get b=some x/\p6 (kx gX) y=some x
 | 0,_,_,_,_,h,_=>by cases h
 | f+1,i,ρ,gX,l,h,ad=>by
   simp only[Ic]at h;split at h
   ·rename_i aF;simp only[a6,c2]at h;obtain⟨rfl,rfl⟩:=h;have:ρ.length<=i:=by simpa using aF
    exact⟨.refl _,by simp;omega,λj y h=>by simp at h⟩
   ·rename_i b ai;split at h
    ·rename_i x az;split at h
     ·rename_i y Bz U;split at h
      ·rename_i cJ VY aa;simp only[a6,c2]at h;obtain⟨rfl,rfl⟩:=h;obtain⟨g1,ao⟩:=atY U;have bO:=(nD.1 ai).1;have gN:=g1.le i b ai;have aF0:i<Bz.length:=(nD.1 (show Bz[i]? = some b from gN)).1;obtain⟨g2,e2,bd⟩:=V2 aa (by omega);refine⟨g1.trans g2,by simp only[bZt];omega,λj z bl=>?_⟩
       cases j with
       | zero=>
         simp only[bZn,a6]at bl;subst bl;exact⟨b,x,g2.le i b gN,az,atW g2.le ao⟩
       | succ j=>
         obtain⟨b',cZ,bn,bh,cu⟩:=bd j z (by simpa using bl);exact⟨b',cZ,by rw[show i+(j+1)=i+1+j by omega];exact bn,bh,cu⟩
      ·cases h
     ·cases h
    ·cases h
structure dF where
 args:List Value
 gK:List cj
 res:Value
 news:List (Nat×List Value×dI)
def MP:dI->dI->Bool
 | .n a,.n b=>Nat.beq a b
 | .t a,.t b=>Nat.beq a b
 | _,_=>false
def Ih:cj->cj->Bool
 | .cells a z,.cells b y=>MP z y&&Bi a b
 | .ro a,.ro b=>Bi a b
 | _,_=>false
def EB:List cj->List cj->Bool
 | [],[]=>true
 | a::x,b::y=>Ih a b&&EB x y
 | _,_=>false
def zb(n:Nat):List (Nat×List Value×dI)->Nat->Option Nat
 | [],_=>none
 | x::l,b=>bif Nat.beq x.1 n then some b else zb n l (b+1)
def sig(ρ:List Nat)(news:List (Nat×List Value×dI))(b0:Nat)(i:Nat):Option Nat:=bif Nat.blt i ρ.length then ρ[i]? else zb i news b0
def EC(σ:Nat->Option Nat):List (Nat×List Value×dI)->ah->Option ah
 | [],H=>some H
 | x::l,H=>match nN σ x.2.1 with
   | some cs=>EC σ l (H.new (.cells cs x.2.2))
   | none=>none
def dF.out(E:dF)(ρ:List Nat)(H:ah):Option (Value×ah):=
 match ML (sig ρ E.news H.next) E.res,EC (sig ρ E.news H.next) E.news H with
 | some v,some H'=>some (v,H')
 | _,_=>none
def BA:List Value->List Value->Bool
 | [],[]=>true
 | a::x,b::y=>p1 a b&&BA x y
 | _,_=>false
def Ii(a:List Value)(aA:List cj):List dF->Option dF
 | []=>none
 | E::l=>bif BA E.args a&&EB E.gK aA then some E else Ii a aA l
def dF.apply(es:List dF)(args:List Value)(H:ah):Option (Value×ah):=
 match EA args []with
 | some (a,ρ)=>(match Ic H 40 0 ρ with
   | some (aA,ρ)=>(match Ii a aA es with
     | some E=>E.out ρ H
     | none=>none)
   | none=>none)
 | none=>none
def BB:List cj->Nat->cI cj->cI cj
 | [],_,t=>t
 | x::l,i,t=>BB l (i+1) (t.set x i)
def dF.run(K:c8)(f:Nat)(E:dF):Option (Value×ah):=K ⟨E.gK.length,[],none⟩ f E.args ⟨BB E.gK 0 .ak,E.gK.length⟩
def MQ:Value->Value->Bool
 | .tuple a,.tuple b=>BA a.toList b.toList
 | a,b=>p1 a b
def ED(H:ah)(k:Nat):List (Nat×List Value×dI)->Bool
 | []=>true
 | x::l=>Nat.ble k x.1&&((match H.get x.1 with | some y=>Ih y (.cells x.2.1 x.2.2) | none=>false)&&((zb x.1 l 0).isNone&&ED H k l))
def dF.ok(K:c8)(f:Nat)(E:dF):Bool:=match E.run K f with
 | some (v,H)=>MQ v E.res&&ED H E.gK.length E.news
 | none=>false
theorem V3{γ:bo}{p v':Value}(aC:plainCell p=true)(h:bg γ p v'):v'=p:=by
 cases h<;>first | rfl | (simp[plainCell]at aC)
theorem V4{σ:Nat->Option Nat}{p v:Value}(h:ow σ p=some v):(plainCell p=true/\v=p)∨(∃i o b,p=.pointer (some ⟨i,o,none⟩)/\σ i=some b/\v=.pointer (some ⟨b,o,none⟩))∨∃i o n c b,p=.slice (some ⟨i,o,none⟩) n c/\σ i=some b/\v=.slice (some ⟨b,o,none⟩) n c:=by
 unfold ow at h;split at h
 ·rename_i i o;split at h
  ·rename_i b ai;simp only[a6]at h;exact .inr (.inl ⟨i,o,b,rfl,ai,h.symm⟩)
  ·cases h
 ·rename_i i o n c;split at h
  ·rename_i b ai;simp only[a6]at h;exact .inr (.inr ⟨i,o,n,c,b,rfl,ai,h.symm⟩)
  ·cases h
 ·cases aC:plainCell p with
  | false=>rw[aC]at h;cases h
  | true=>
    rw[aC]at h;simp only[cond_true,a6]at h;exact .inl ⟨rfl,h.symm⟩
theorem Ij{σ:Nat->Option Nat}{γ:bo}{p v v':Value}(h:ow σ p=some v)(aw:bg γ v v'):bg (λi=>(σ i).bind γ) p v':=by
 rcases V4 h with⟨aC,rfl⟩ | ⟨i,o,b,rfl,ai,rfl⟩ | ⟨i,o,n,c,b,rfl,ai,rfl⟩
 ·rw[V3 aC aw];exact bg.plainCell aC
 ·cases aw with
  | ptr bC=>exact .ptr (by simp[ai,bC])
 ·cases aw with
  | jN bC U aa aq=>exact .jN (by simp[ai,bC]) U aa aq
  | p9 bC=>exact .p9 (L:=_) (by simp only[ai,bZo];exact bC)
theorem MR{σ:Nat->Option Nat}{γ bk:bo}{p v v':Value}(h:ow σ p=some v)(lP:∀i b L,σ i=some b->γ i=some L->bk b=some L)(aw:bg γ p v'):bg bk v v':=by
 rcases V4 h with⟨aC,rfl⟩ | ⟨i,o,b,rfl,ai,rfl⟩ | ⟨i,o,n,c,b,rfl,ai,rfl⟩
 ·rw[V3 aC aw];exact bg.plainCell aC
 ·cases aw with
  | ptr bC=>exact .ptr (lP _ _ _ ai bC)
 ·cases aw with
  | jN bC U aa aq=>exact .jN (lP _ _ _ ai bC) U aa aq
  | p9 bC=>exact .p9 (lP _ _ _ ai bC)
theorem BC{σ:Nat->Option Nat}:∀{l r:List Value},nN σ l=some r->r.length=l.length/\(∀(i:Nat) (v:Value),r[i]? = some v->∃p,l[i]? = some p/\ow σ p=some v)/\∀(i:Nat) (p:Value),l[i]? = some p->∃v,r[i]? = some v/\ow σ p=some v
 | [],r,h=>by
   simp only[nN,a6]at h;subst h;exact⟨rfl,λi v h=>by simp at h,λi v h=>by simp at h⟩
 | x::l,r,h=>by
   simp only[nN]at h;split at h
   ·rename_i a t U aa;simp only[a6]at h;subst h;obtain⟨ao,e2,bd⟩:=BC aa;refine⟨by simp[ao],λi v ad=>?_,λi p ad=>?_⟩
    ·cases i with
     | zero=>
       simp only[bZn,a6]at ad;exact⟨x,rfl,ad▸U⟩
     | succ i=>simpa using e2 i v (by simpa using ad)
    ·cases i with
     | zero=>
       simp only[bZn,a6]at ad;exact⟨a,rfl,ad▸U⟩
     | succ i=>simpa using bd i p (by simpa using ad)
   ·cases h
theorem atZ{σ:Nat->Option Nat}{γ:bo}{l r l':List Value}(h:nN σ l=some r)(aw:cm γ r l'):cm (λi=>(σ i).bind γ) l l':=by
 obtain⟨U,_,aq⟩:=BC h;refine cm.vD (by rw[<-U];exact aw.length) λi v v' ao e2=>?_;obtain⟨u,bn,bh⟩:=aq i v ao;obtain⟨k5,cu,e9⟩:=aw.get bn;rw[e2]at cu;cases cu;exact Ij bh e9
theorem at0{σ:Nat->Option Nat}{γ bk:bo}{l r l':List Value}(h:nN σ l=some r)(lP:∀i b L,σ i=some b->γ i=some L->bk b=some L)(aw:cm γ l l'):cm bk r l':=by
 obtain⟨U,aa,_⟩:=BC h;refine cm.vD (by rw[U];exact aw.length) λi v v' ao e2=>?_;obtain⟨p,bn,bh⟩:=aa i v ao;obtain⟨k5,cu,e9⟩:=aw.get bn;rw[e2]at cu;cases cu;exact MR bh lP e9
theorem at1{σ:Nat->Option Nat}{γ:bo}{p v v':Value}(h:pf σ p=some v)(aw:bg γ v v'):bg (λi=>(σ i).bind γ) p v':=by
 unfold pf at h;split at h
 ·rename_i cs;split at h
  ·rename_i l aO;simp only[a6]at h;subst h;obtain⟨gg,rfl,q⟩:=aw.zc;exact .agg (l:=cs.toList) (l':=gg.toList) (atZ aO q)
  ·cases h
 ·exact Ij h aw
theorem V5{σ:Nat->Option Nat}{γ bk:bo}{p v v':Value}(h:pf σ p=some v)(lP:∀i b L,σ i=some b->γ i=some L->bk b=some L)(aw:bg γ p v'):bg bk v v':=by
 unfold pf at h;split at h
 ·rename_i cs;split at h
  ·rename_i l aO;simp only[a6]at h;subst h;obtain⟨gg,rfl,q⟩:=aw.zc;exact .agg (l:=l) (l':=gg.toList) (at0 aO lP q)
  ·cases h
 ·exact MR h lP aw
theorem MS{σ:Nat->Option Nat}:∀{l r:List Value},p7 σ l=some r->r.length=l.length/\(∀(i:Nat) (v:Value),r[i]? = some v->∃p,l[i]? = some p/\pf σ p=some v)/\∀(i:Nat) (p:Value),l[i]? = some p->∃v,r[i]? = some v/\pf σ p=some v
 | [],r,h=>by
   simp only[p7,a6]at h;subst h;exact⟨rfl,λi v h=>by simp at h,λi v h=>by simp at h⟩
 | x::l,r,h=>by
   simp only[p7]at h;split at h
   ·rename_i a t U aa;simp only[a6]at h;subst h;obtain⟨ao,e2,bd⟩:=MS aa;refine⟨by simp[ao],λi v ad=>?_,λi p ad=>?_⟩
    ·cases i with
     | zero=>
       simp only[bZn,a6]at ad;exact⟨x,rfl,ad▸U⟩
     | succ i=>simpa using e2 i v (by simpa using ad)
    ·cases i with
     | zero=>
       simp only[bZn,a6]at ad;exact⟨a,rfl,ad▸U⟩
     | succ i=>simpa using bd i p (by simpa using ad)
   ·cases h
theorem at2{σ:Nat->Option Nat}{γ:bo}{l r l':List Value}(h:p7 σ l=some r)(aw:cm γ r l'):cm (λi=>(σ i).bind γ) l l':=by
 obtain⟨U,_,aq⟩:=MS h;refine cm.vD (by rw[<-U];exact aw.length) λi v v' ao e2=>?_;obtain⟨u,bn,bh⟩:=aq i v ao;obtain⟨k5,cu,e9⟩:=aw.get bn;rw[e2]at cu;cases cu;exact at1 bh e9
theorem at3{σ:Nat->Option Nat}{γ bk:bo}{l r l':List Value}(h:p7 σ l=some r)(lP:∀i b L,σ i=some b->γ i=some L->bk b=some L)(aw:cm γ l l'):cm bk r l':=by
 obtain⟨U,aa,_⟩:=MS h;refine cm.vD (by rw[U];exact aw.length) λi v v' ao e2=>?_;obtain⟨p,bn,bh⟩:=aa i v ao;obtain⟨k5,cu,e9⟩:=aw.get bn;rw[e2]at cu;cases cu;exact V5 bh lP e9
theorem at4{σ:Nat->Option Nat}{γ bk:bo}{p v v':Value}(h:ML σ p=some v)(lP:∀i b L,σ i=some b->γ i=some L->bk b=some L)(aw:bg γ p v'):bg bk v v':=by
 unfold ML at h;split at h
 ·rename_i vs;split at h
  ·rename_i l aO;simp only[a6]at h;subst h;obtain⟨p',rfl,q⟩:=aw.Ik;have:=at3 aO lP q;exact .tuple (l':=p'.toList) this
  ·cases h
 ·exact V5 h lP aw
theorem at5{O:da}{σ:Nat->Option Nat}{γ:bo}{N V6:Nat->Prop}{w:World}{L:Loc}{p x:cj}(h:p6 σ p=some x)(gd:∀c,N c->V6 c)(ai:ph O γ N w L x):ph O (λi=>(σ i).bind γ) V6 w L p:=by
 unfold p6 at h;split at h
 ·rename_i cs z;split at h
  ·rename_i l aO;simp only[a6]at h;subst h;obtain⟨c,elem,cz,U,aa,aq,a8,cg,dj⟩:=ai;obtain⟨ao,_,bd⟩:=BC aO;refine⟨c,elem,cz,U,aa,by rw[<-ao];exact aq,a8,by rw[<-ao];exact cg,λi v ad=>?_⟩;obtain⟨u,bn,bh⟩:=bd i v ad;obtain⟨k5,cu,e9⟩:=dj i u bn;exact⟨k5,cu,Ij bh e9⟩
  ·cases h
 ·rename_i cs;split at h
  ·rename_i l aO;simp only[a6]at h;subst h;obtain⟨aD,c,elem,cz,U,aq,cg,dj⟩:=ai;obtain⟨ao,_,bd⟩:=BC aO;refine⟨gd _ aD,c,elem,cz,U,aq,by rw[<-ao];exact cg,λi v ad=>?_⟩;obtain⟨u,bn,bh⟩:=bd i v ad;obtain⟨k5,cu,e9⟩:=dj i u bn;exact⟨k5,cu,Ij bh e9⟩
  ·cases h
 ·cases h
theorem Il{σ:Nat->Option Nat}{p x:cj}(h:p6 σ p=some x):hr (some p)↔hr (some x):=by
 unfold p6 at h;split at h
 ·split at h
  ·simp only[a6]at h;subst h;exact Iff.rfl
  ·cases h
 ·split at h
  ·simp only[a6]at h;subst h;exact Iff.rfl
  ·cases h
 ·cases h
theorem V7:∀(l:List cj) (i:Nat) (t:cI cj) (j:Nat),(BB l i t).get j=if i<=j/\j<i+l.length then l[j-i]? else t.get j
 | [],i,t,j=>by
   rw[aU (by simp only[List.length_nil];omega)];rfl
 | x::l,i,t,j=>by
   simp only[BB];rw[V7 l (i+1),cI.pb];simp only[bZt];by_cases U:j=i
   ·subst U;rw[aU (by omega),bm rfl,bm (by omega)];simp
   ·by_cases aa:i<=j/\j<i+(l.length+1)
    ·rw[bm (by omega),bm aa,show j-i=(j-(i+1))+1 by omega,bZZ]
    ·rw[aU (by omega),aU U,aU aa]
theorem V8{σ:Nat->Option Nat}:∀{l:List (Nat×List Value×dI)} {H H':ah},EC σ l H=some H'->H'.next=H.next+l.length/\(∀b,b<H.next∨H.next+l.length<=b->H'.get b=H.get b)/\∀(j:Nat) (x:Nat×List Value×dI),l[j]? = some x->∃cs,nN σ x.2.1=some cs/\H'.get (H.next+j)=some (.cells cs x.2.2)
 | [],H,H',h=>by
   simp only[EC,a6]at h;subst h;exact⟨rfl,λ_ _=>rfl,λj x h=>by simp at h⟩
 | y::l,H,H',h=>by
   simp only[EC]at h;split at h
   ·rename_i cs hW;obtain⟨U,aa,aq⟩:=V8 h;have aF:(H.new (.cells cs y.2.2)).next=H.next+1:=rfl;rw[aF]at U aa aq;refine⟨by simp only[bZt];omega,λb ai=>?_,λj x aH=>?_⟩
    ·simp only[bZt]at ai;rw[aa b (by omega),ah.qa,aU (by omega)]
    ·cases j with
     | zero=>
       simp only[bZn,a6]at aH;subst aH;refine⟨cs,hW,?_⟩;rw[Nat.add_zero,aa H.next (by omega),ah.qa,bm rfl]
     | succ j=>
       obtain⟨dd,bn,bh⟩:=aq j x (by simpa using aH);exact⟨dd,bn,by rw[show H.next+(j+1)=H.next+1+j by omega];exact bh⟩
   ·cases h
theorem V9{n:Nat}:∀{l:List (Nat×List Value×dI)} {b0 b:Nat},zb n l b0=some b->∃(j:Nat) (x:Nat×List Value×dI),b=b0+j/\l[j]? = some x/\x.1=n
 | [],_,_,h=>by cases h
 | y::l,b0,b,h=>by
   simp only[zb,ed]at h;by_cases af:y.1=n
   ·simp only[af,decide_true,cond_true,a6]at h;exact⟨0,y,by omega,rfl,af⟩
   ·simp only[af,decide_false,cond_false]at h;obtain⟨j,x,U,aa,aq⟩:=V9 h;exact⟨j+1,x,by omega,by simpa using aa,aq⟩
theorem V'{n:Nat}:∀{l:List (Nat×List Value×dI)} {b0:Nat},zb n l b0=none->∀(j:Nat) (x:Nat×List Value×dI),l[j]? = some x->x.1≠n
 | [],_,_,j,x,h=>by simp at h
 | y::l,b0,h,j,x,aH=>by
   simp only[zb,ed]at h;by_cases af:y.1=n
   ·simp only[af,decide_true,cond_true,reduceCtorEq]at h
   ·simp only[af,decide_false,cond_false]at h
    cases j with
    | zero=>simp only[bZn,a6]at aH;subst aH;exact af
    | succ j=>exact V' h j x (by simpa using aH)
theorem at6{a b:dI}(h:MP a b=true):a=b:=by
 unfold MP at h;split at h
 ·rw[ed]at h;rw[y0 h]
 ·rw[ed]at h;rw[y0 h]
 ·cases h
theorem Wa{a b:cj}(h:Ih a b=true):a=b:=by
 unfold Ih at h;split at h
 ·simp only[cG]at h;rw[at6 h.1,HJ h.2]
 ·rw[HJ h]
 ·cases h
theorem Wb:∀{a b:List cj},EB a b=true->a=b
 | [],[],_=>rfl
 | x::a,y::b,h=>by
   simp only[EB,cG]at h;rw[Wa h.1,Wb h.2]
 | [],_::_,h=>by cases h
 | _::_,[],h=>by cases h
theorem MT:∀{l r:List Value},BA l r=true->l=r
 | [],[],_=>rfl
 | a::x,b::y,h=>by
   simp only[BA,cG]at h;rw[Ma h.1,MT h.2]
 | [],_::_,h=>by cases h
 | _::_,[],h=>by cases h
theorem at7{a b:Value}(h:MQ a b=true):a=b:=by
 unfold MQ at h;split at h
 ·rw[bZU.1 (MT h)]
 ·exact Ma h
theorem Wc{H:ah}{k:Nat}:∀{l:List (Nat×List Value×dI)},ED H k l=true->(∀(j:Nat) (x:Nat×List Value×dI),l[j]? = some x->k<=x.1/\H.get x.1=some (.cells x.2.1 x.2.2))/\∀(i j:Nat) (x y:Nat×List Value×dI),l[i]? = some x->l[j]? = some y->x.1=y.1->i=j
 | [],_=>⟨λj x h=>by simp at h,λi j x y h=>by simp at h⟩
 | z::l,h=>by
   simp only[ED,cG,dA,eh]at h;obtain⟨U,aa,aq,a8⟩:=h;obtain⟨bn,bh⟩:=Wc a8;have bl:H.get z.1=some (.cells z.2.1 z.2.2):=by
    split at aa
    ·rename_i y bu;rw[bu,Wa aa]
    ·cases aa
   have tH:=V' (Option.isNone_iff_eq_none.1 aq);refine⟨λj x aH=>?_,λi j x y ad aH EE=>?_⟩
   ·cases j with
    | zero=>simp only[bZn,a6]at aH;subst aH;exact⟨U,bl⟩
    | succ j=>exact bn j x (by simpa using aH)
   ·cases i with
    | zero=>
      simp only[bZn,a6]at ad;subst ad
      cases j with
      | zero=>rfl
      | succ j=>exact(tH j y (by simpa using aH) EE.symm).elim
    | succ i=>
      cases j with
      | zero=>
        simp only[bZn,a6]at aH;subst aH;exact(tH i x (by simpa using ad) EE).elim
      | succ j=>rw[bh i j x y (by simpa using ad) (by simpa using aH) EE]
theorem Wd{a:List Value}{aA:List cj}:∀{es:List dF} {E:dF},Ii a aA es=some E->E∈es/\E.args=a/\E.gK=aA
 | [],_,h=>by cases h
 | F::es,E,h=>by
   simp only[Ii]at h
   cases af:(BA F.args a&&EB F.gK aA) with
   | true=>
     rw[af]at h;simp only[cond_true,a6]at h;subst h;simp only[cG]at af;exact⟨.head _,MT af.1,Wb af.2⟩
   | false=>
     rw[af]at h;obtain⟨U,aa⟩:=Wd h;exact⟨.tail _ U,aa⟩
section
variable{O:da}{P:Program}{base:Nat}{pm:Perm}{G:Nat->Bool}{K:c8}
theorem tI.mono{f:FuncId}{args:Array Value}{w:World}{R EF:Ending->World->Prop}(h:tI P f args w R)(an:∀e w',R e w'->EF e w'):tI P f args w EF:=by
 rcases h with⟨U,aa⟩ | ⟨v,w',U,aa⟩
 ·exact .inl ⟨U,aa.mono an⟩
 ·exact .inr ⟨v,w',U,an _ _ aa⟩
theorem aua(j7:∀g,G g=false)(db:fT O P G K){f:FuncId}{E:dF}(bz:E.ok K f=true){args:List Value}{H H':ah}{v:Value}{ρ:List Nat}(Ej:ρ.Nodup)(hlen:E.gK.length=ρ.length)
 (qb:p7 (kx ρ) E.args=some args) (zd:∀j y,E.gK[j]? = some y->∃b x,kx ρ j=some b/\H.get b=some x/\p6 (kx ρ) y=some x) (cf:E.out ρ H=some (v,H'))
 {γ:bo} {w:World} {dR:Array Value} (an:Rel O base γ H w) (aN:cm γ args dR.toList):
 tI P f dR w λen w'=>∃bk v',en=.returned v'/\bg bk v v'/\Step O base pm γ H w bk H' w':=by
 obtain⟨H1,e7,aub⟩:∃H1,E.run K f=some (E.res,H1)/\ED H1 E.gK.length E.news=true:=by
  unfold dF.ok at bz;split at bz
  ·rename_i v1 H1 U;simp only[cG]at bz;exact⟨H1,by rw[U,at7 bz.1],bz.2⟩
  ·cases bz
 obtain⟨j6,rj⟩:=Wc aub;let γ0:bo:=λi=>(kx ρ i).bind γ;let H0:ah:=⟨BB E.gK 0 .ak,E.gK.length⟩;have BD:∀i,H0.get i=E.gK[i]?:=λi=>by
  show(BB E.gK 0 .ak).get i=_;rw[V7];by_cases ad:i<E.gK.length
  ·rw[bm (by omega),Nat.sub_zero]
  ·rw[aU (by omega),jq (by omega)];rfl
 have BE:∀i L,γ0 i=some L->∃b y x,kx ρ i=some b/\γ b=some L/\E.gK[i]? = some y/\H.get b=some x/\p6 (kx ρ) y=some x/\i<ρ.length:=by
  intro i L h;simp only[γ0]at h
  cases ai:kx ρ i with
  | none=>rw[ai]at h;cases h
  | some b=>
    rw[ai]at h;have ad:i<ρ.length:=(nD.1 (show ρ[i]? = some b from ai)).1;have bu:E.gK[i]? = some (E.gK[i]'(by omega)):=hG (by omega);obtain⟨b',x,bn,bh,cu⟩:=zd i _ bu;rw[ai]at bn;cases bn;exact⟨b,_,x,rfl,h,bu,bh,cu,ad⟩
 have q8:∀c,iJ γ H w c->iJ γ0 H0 w c:=λc af=>⟨af.1,λi L h r=>by
  obtain⟨b,y,x,bn,bh,cu,e9,ox,_⟩:=BE i L h;rw[BD,cu]at r;exact af.2 b L bh (by rw[e9];exact(Il ox).1 r)⟩
 have Im:Rel O base γ0 H0 w:=by
  refine⟨λi L h=>?_,λi L h=>?_,λi ad=>?_,λi j L L' h gJ r r' e=>?_,λi L h r=>?_,an.size⟩
  ·obtain⟨b,y,x,bn,bh,cu,e9,ox,_⟩:=BE i L h;obtain⟨cZ,ao,e2⟩:=an.bI b L bh;rw[e9]at ao;cases ao;exact⟨y,by rw[BD,cu],at5 ox q8 e2⟩
  ·obtain⟨b,y,x,bn,bh,cu,e9,ox,Io⟩:=BE i L h;show i<E.gK.length;omega
  ·rw[BD];exact jq ad
  ·obtain⟨b,y,x,bn,bh,cu,e9,ox,Io⟩:=BE i L h;obtain⟨b',mi,cZ,ze,EG,auc,aud,MU,aF1⟩:=BE j L' gJ;rw[BD,cu]at r;rw[BD,auc]at r';have vu:=an.inj b b' L L' bh EG (by rw[e9];exact(Il ox).1 r) (by rw[aud];exact(Il MU).1 r') e;subst vu;have U:ρ[i]? = some b:=bn;have aa:ρ[j]? = some b:=ze;exact(List.getElem?_inj Io Ej).1 (U.trans aa.symm)
  ·obtain⟨b,y,x,bn,bh,cu,e9,ox,_⟩:=BE i L h;rw[BD,cu]at r;exact an.low b L bh (by rw[e9];exact(Il ox).1 r)
 have aue:=db ⟨E.gK.length,[],none⟩ f E.args H0 E.res H1 rfl e7 base γ0 w dR Im (λg aK=>by rw[j7 g]at aK;cases aK) (at2 qb aN);refine aue.mono λen cS ⟨gO,BF,he,mj,fk⟩=>?_;unfold dF.out at cf;split at cf
 ·rename_i v2 aJ BG ee;simp only[a6,c2]at cf;obtain⟨rfl,rfl⟩:=cf;obtain⟨cx,a2,a3⟩:=V8 ee;let bk:bo:=λb=>if b<H.next then γ b else(E.news[b-H.next]?).bind λx=>gO x.1
  have hold:∀b L,γ b=some L->bk b=some L:=λb L h=>by
   have:=an.lt b L h;simp only[bk,bm this];exact h
  have xF:∀b L,bk b=some L->(b<H.next/\γ b=some L)∨∃(j:Nat) (x:Nat×List Value×dI),b=H.next+j/\E.news[j]? = some x/\gO x.1=some L:=by
   intro b L h;by_cases ai:b<H.next
   ·simp only[bk,bm ai]at h;exact .inl ⟨ai,h⟩
   ·simp only[bk,aU ai]at h
    cases az:E.news[b-H.next]? with
    | none=>rw[az]at h;cases h
    | some x=>
      rw[az]at h;exact .inr ⟨b-H.next,x,by omega,az,h⟩
  have lP:∀i b L,sig ρ E.news H.next i=some b->gO i=some L->bk b=some L:=by
   intro i b L U aa;unfold sig at U;rw[js]at U;by_cases ad:i<ρ.length
   ·simp only[ad,decide_true,cond_true]at U;have aK:∃hI,γ0 i=some hI:=by
     cases aK:γ0 i with
     | some hI=>exact⟨hI,rfl⟩
     | none=>
       rcases fk.known i L aa aK with q | q
       ·have:E.gK.length<=i:=q;omega
       ·cases q
    obtain⟨hI,aK⟩:=aK;have:=fk.ext i hI aK;rw[aa]at this;cases this;have xG:γ b=some L:=by
     have aq:kx ρ i=some b:=U;simp only[γ0,aq,bZo]at aK;exact aK
    exact hold b L xG
   ·simp only[ad,decide_false,cond_false]at U;obtain⟨j,x,rfl,bh,cu⟩:=V9 U;simp only[bk,aU (show ¬H.next+j<H.next by omega),show H.next+j-H.next=j by omega,bh,bZo,cu];exact aa
  have k4:∀c,c<w.heap.size->cS.heap[c]? = w.heap[c]?:=λc af=>fk.bT c af λb L ai _ hm=>by
   have bO:=Im.lt b L ai;have MV:b<E.gK.length:=bO;simp only[Perm.may,dA,bZS (Nat.not_le.2 MV),cond_false]at hm;exact absurd hm (by simp)
  have Ip:∀(j:Nat) (x:Nat×List Value×dI) (L:Loc),E.news[j]? = some x->gO x.1=some L->w.heap.size<=L.bI:=by
   intro j x L aH bC;have az:=(j6 j x aH).1;have aD:γ0 x.1=none:=by
    cases aK:γ0 x.1 with
    | none=>rfl
    | some hI=>
      have:x.1<E.gK.length:=Im.lt x.1 hI aK;omega
   rcases fk.fresh x.1 L bC aD with q | ⟨b0,hI,bn,_,cu,_⟩
   ·exact q
   ·have bO:b0<E.gK.length:=Im.lt b0 hI bn;simp only[Perm.may,dA,bZS (Nat.not_le.2 bO),cond_false]at cu;exact absurd cu (by simp)
  have hq:H.next<=aJ.next:=by omega
  have MW:∀(j:Nat) (x:Nat×List Value×dI),E.news[j]? = some x->hr (H1.get x.1):=λj x aH=>by rw[(j6 j x aH).2];trivial
  have e8:∀c,iJ γ H w c->iJ bk aJ cS c/\cS.heap[c]? = w.heap[c]?:=λc af=>⟨⟨hR af.1 fk.grow,λb L ai r=>by
   rcases xF b L ai with⟨bn,bh⟩ | ⟨j,x,_,bh,cu⟩
   ·exact af.2 b L bh (by rwa [a2 b (.inl bn)]at r)
   ·have:=Ip j x L bh cu;have:=af.1;omega⟩,k4 c af.1⟩
  refine⟨bk,BF,he,at4 BG lP mj,?_⟩
  exact{
   rel:=by
    refine⟨λb L ai=>?_,λb L ai=>?_,λb ai=>?_,λb b' L L' ai ec r r' e=>?_,λb L ai r=>?_,bH an.size fk.grow⟩
    ·rcases xF b L ai with⟨bn,bh⟩ | ⟨j,x,rfl,bh,cu⟩
     ·obtain⟨y,ao,e2⟩:=an.bI b L bh;exact⟨y,by rw[a2 b (.inl bn),ao],e2.mono hold e8 λr=>k4 _ (e2.lt r)⟩
     ·obtain⟨cs,ao,e2⟩:=a3 j x bh;refine⟨_,e2,?_⟩;obtain⟨y,bd,b1⟩:=fk.rel.bI x.1 L cu;rw[(j6 j x bh).2]at bd;cases bd;obtain⟨c,elem,cz,U,aa,aq,a8,cg,dj⟩:=b1;obtain⟨g1,g2,_⟩:=BC ao;refine⟨c,elem,cz,U,aa,by rw[g1];exact aq,a8,by rw[g1];exact cg,λi u ad=>?_⟩;obtain⟨p,e9,ox⟩:=g2 i u ad;obtain⟨k5,Io,auf⟩:=dj i p e9;exact⟨k5,Io,MR ox lP auf⟩
    ·rcases xF b L ai with⟨bn,bh⟩ | ⟨j,x,rfl,bh,cu⟩
     ·omega
     ·have:=(nD.1 bh).1;omega
    ·rw[a2 b (.inr (by omega))];exact an.new b (by omega)
    ·rcases xF b L ai with⟨bn,bh⟩ | ⟨j,x,rfl,bh,cu⟩<;>rcases xF b' L' ec with⟨bJ,bG⟩ | ⟨MX,cZ,rfl,bG,cO⟩
     ·exact an.inj b b' L L' bh bG (by rwa [a2 b (.inl bn)]at r) (by rwa [a2 b' (.inl bJ)]at r') e
     ·exfalso;obtain⟨y,ao,e2⟩:=an.bI b L bh;rw[a2 b (.inl bn),ao]at r;have:=e2.lt r;have:=Ip MX cZ L' bG cO;omega
     ·exfalso;obtain⟨y,ao,e2⟩:=an.bI b' L' bG;rw[a2 b' (.inl bJ),ao]at r';have:=e2.lt r';have:=Ip j x L bh cu;omega
     ·have:=fk.rel.inj x.1 cZ.1 L L' cu cO (MW j x bh) (MW MX cZ bG) e;rw[rj j MX x cZ bh bG this]
    ·rcases xF b L ai with⟨bn,bh⟩ | ⟨j,x,rfl,bh,cu⟩
     ·exact an.low b L bh (by rwa [a2 b (.inl bn)]at r)
     ·exact fk.rel.low x.1 L cu (MW j x bh)
   ext:=hold
   fresh:=λb L ai aF=>by
    rcases xF b L ai with⟨bn,bh⟩ | ⟨j,x,rfl,bh,cu⟩
    ·rw[aF]at bh;cases bh
    ·exact .inl (Ip j x L bh cu)
   grow:=fk.grow
   bT:=λc af _=>k4 c af
   next:=hq
   k4:=λb ai _=>a2 b (.inl ai)
   mR:=λb L ai r=>by rwa [a2 b (.inl (an.lt b L ai))]at r
   known:=λb L ai aF=>by
    rcases xF b L ai with⟨bn,bh⟩ | ⟨j,x,rfl,bh,cu⟩
    ·rw[aF]at bh;cases bh
    ·exact .inl (hS _ _)
   os:=fk.os
   tape:=fk.tape
   output:=fk.output}
 ·cases cf
theorem aug(j7:∀g,G g=false)(db:fT O P G K){f:FuncId}{es:List dF}(We:∀E∈es,E.ok K f=true){args:List Value}{H H':ah}{v:Value}(h:dF.apply es args H=some (v,H'))
 {γ:bo} {w:World} {dR:Array Value} (an:Rel O base γ H w) (aN:cm γ args dR.toList):
 tI P f dR w λen w'=>∃bk v',en=.returned v'/\bg bk v v'/\Step O base pm γ H w bk H' w':=by
 unfold dF.apply at h;split at h
 ·rename_i a Bz U;split at h
  ·rename_i aA ρ aa;split at h
   ·rename_i E bz;obtain⟨ao,e2,bd⟩:=Wd bz;obtain⟨g1,bn⟩:=V1 U;obtain⟨g2,bh,cu⟩:=V2 aa (Nat.zero_le _);refine aua j7 db (We E ao) (g2.aP (g1.aP List.nodup_nil)) (by rw[bd];omega) (e2▸V0 g2.le bn) (λj y bu=>?_) h an aN;obtain⟨b,x,bJ,bG,cO⟩:=cu j y (bd▸bu);exact⟨b,x,by rw[Nat.zero_add]at bJ;exact bJ,bG,cO⟩
   ·cases h
  ·cases h
 ·cases h
end
end Go.Dam
namespace Go.Dam
open Go Go.RowKit
def gY(O:da)(P:Program)(G:Nat->Bool)(f:FuncId)(g:Perm->List Value->ah->Option (Value×ah)):Prop:=
 ∀(pm:Perm) (args:List Value) (H:ah) (v:Value) (H':ah),pm.num=none->g pm args H=some (v,H')->∀(base:Nat) (γ:bo) (w:World) (dR:Array Value),Rel O base γ H w->hH G γ->cm γ args dR.toList->
  tI P f dR w λen w'=>∃bk v',en=.returned v'/\bg bk v v'/\Step O base pm γ H w bk H' w'
section
variable{O:da}{P:Program}{base:Nat}{pm:Perm}{γ:bo}{H:ah}{w w':World}
theorem Step.below(an:Rel O base γ H w)(ai:Below w.heap.size w w'):Step O base pm γ H w γ H w' where
 rel:=by
  have ag:∀c,c<w.heap.size->w'.heap[c]? = w.heap[c]?:=ai.block;have e8:∀c,iJ γ H w c->iJ γ H w' c/\w'.heap[c]? = w.heap[c]?:=λc af=>⟨⟨hR af.1 ai.size,af.2⟩,ag c af.1⟩;exact⟨λb L e=>by
   obtain⟨x,U,aa⟩:=an.bI b L e;exact⟨x,U,aa.mono (.refl γ) e8 λr=>ag _ (aa.lt r)⟩,an.lt,an.new,an.inj,an.low,bH an.size ai.size⟩
 ext:=.refl γ
 fresh:=λb L U aa=>by rw[aa]at U;cases U
 grow:=ai.size
 bT:=λc af _=>ai.block c af
 next:=bR _
 k4:=λ_ _ _=>rfl
 mR:=λ_ _ _ h=>h
 known:=λb L U aa=>by rw[aa]at U;cases U
 os:=ai.os
 tape:=ai.tape
 output:=ai.output
end
def oy(c:Nat):List UInt8->Nat->Int
 | [],_=>-1
 | b::l,n=>bif Nat.beq b.toNat c then .ofNat n else oy c l (Nat.succ n)
theorem Wf(c:Nat)(af:c<256):∀(l:List UInt8) (n:Nat),oy c l n=if Lib.indexByte l c.toUInt8=-1 then -1 else(n:Int)+Lib.indexByte l c.toUInt8
 | [],n=>by simp[oy,Lib.indexByte]
 | b::l,n=>by
   have ai:Nat.beq b.toNat c=(b==c.toUInt8):=by
    rw[ed];by_cases h:b=c.toUInt8
    ·subst h;have aa:c.toUInt8.toNat=c:=by simp[Nat.toUInt8];omega
     rw[aa];simp
    ·rw[bZS]
     ·simp[h]
     ·intro e;apply h;apply bXI.1;have aa:c.toUInt8.toNat=c:=by simp[Nat.toUInt8];omega
      rw[aa];exact e
   have BH:=Lib.indexByte_ge l c.toUInt8;simp only[oy,Lib.indexByte,ai];by_cases sg:(b==c.toUInt8)=true
   ·simp[sg]
   ·have sg:(b==c.toUInt8)=false:=by simpa using sg
    simp only[sg,cond_false,oc,if_false];rw[Wf c af l (n+1)];by_cases U:Lib.indexByte l c.toUInt8=-1
    ·simp[U]
    ·have aa:(Lib.indexByte l c.toUInt8==-1)=false:=by simpa using U
     rw[aU U,aa];simp only[oc,if_false];rw[aU (by omega)];push_cast;omega
def EH:List Value->Option (List ByteArray)
 | []=>some []
 | .string s::l=>(match EH l with | some r=>some (s::r) | none=>none)
 | _=>none
theorem MY:∀{l:List Value} {r:List ByteArray},EH l=some r->l=r.map .string
 | [],r,h=>by simp only[EH,a6]at h;subst h;rfl
 | v::l,r,h=>by
   cases v<;>simp only[EH,reduceCtorEq]at h;split at h
   ·rename_i cB aa;simp only[a6]at h;subst h;rw[MY aa];rfl
   ·cases h
end Go.Dam
