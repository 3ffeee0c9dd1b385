/- What the functions of the program compute, for every input. -/
import Derived.Test.YtgklfcpppenojaaGreatDoorDamB
namespace Go.Dam
open Go
def o6(p:Nat->Nat->Prop):Prop:=∃N,∀m d,N<=m->N<=d->p m d
theorem o6.of{p:Nat->Nat->Prop}(h:∀m d,p m d):o6 p:=⟨0,λm d _ _=>h m d⟩
theorem o6.map{p q:Nat->Nat->Prop}(h:o6 p)(f:∀m d,p m d->q m d):o6 q:=let ⟨N,h⟩:=h;⟨N,λm d a b=>f m d (h m d a b)⟩
theorem o6.rm{p q r:Nat->Nat->Prop}(h:o6 p)(g:o6 q)(f:∀m d,p m d->q m d->r m d):o6 r:=by
 obtain⟨N,h⟩:=h;obtain⟨M,g⟩:=g;exact⟨N+M,λm d a b=>f m d (h m d (by omega) (by omega)) (g m d (by omega) (by omega))⟩
abbrev yE:=Perm->List Value->ah->Option (Value×ah)
structure aY where
 T:Nat->Option b2
 ov:Nat->Option yE
def aY.S(X:aY):c8->c8:=λK lo f args H=>match X.ov f with
 | some g=>g lo args H
 | none=>K lo f args H
def aY.K(X:aY)(m d:Nat):c8:=runK X.T X.S m d
def Kh(X:aY)(pm:Perm)(f:FuncId)(args:List Value)(H:ah)(v:Value)(H':ah):Prop:=o6 λm d=>X.K m d pm f args H=some (v,H')
def Call(X:aY)(pm:Perm)(f:FuncId)(args:List Value)(H:ah)(R:Value->ah->Prop):Prop:=∃v H',Kh X pm f args H v H'/\R v H'
abbrev bQ:=List (Nat×Value)
def a7(k:Nat):bQ->Option Value
 | []=>none
 | (j,v)::l=>bif Nat.beq k j then some v else a7 k l
def lz(e:Env)(l:bQ):Prop:=∀k v,a7 k l=some v->e.get k=some v
def kt:bQ->Env
 | []=>.ak
 | (k,v)::l=>(kt l).set v k
theorem ac5(l:bQ)(k:Nat):(kt l).get k=a7 k l:=by
 induction l with
 | nil=>rfl
 | cons p l ih=>
   obtain⟨j,v⟩:=p;simp only[kt,cI.pb,a7,ed,ih];by_cases h:k=j<;>simp[h]
def ly(l:bQ)(d:Option Nat)(v:Value):bQ:=match d with
 | some d=>(d,v)::l
 | none=>l
theorem lz.put{e:Env}{l:bQ}(h:lz e l)(d:Option Nat)(v:Value):lz (putDst e d v) (ly l d v):=by
 cases d with
 | none=>exact h
 | some d=>
   intro k u ag;simp only[ly,a7,ed]at ag;simp only[putDst,cI.pb];by_cases aB:k=d
   ·simpa [aB]using ag
   ·simp only[aB,decide_false,cond_false]at ag;simp only[aB,if_false];exact h k u ag
def Sub:bQ->bQ->Prop
 | [],_=>True
 | (k,v)::L,l=>a7 k l=some v/\Sub L l
theorem Sub.a7{L l:bQ}(h:Sub L l){k:Nat}{v:Value}(e:a7 k L=some v):a7 k l=some v:=by
 induction L with
 | nil=>cases e
 | cons p L ih=>
   obtain⟨j,u⟩:=p;simp only[Dam.a7,ed]at e;by_cases aH:k=j
   ·subst aH;simp only[decide_true,cond_true,a6]at e;subst e;exact h.1
   ·simp only[aH,decide_false,cond_false]at e;exact ih h.2 e
theorem lz.sub{e:Env}{L l:bQ}(h:lz e l)(aG:Sub L l):lz e L:=λk v ag=>h k v (aG.a7 ag)
def o7(e bw:Env):Prop:=∀k v,e.get k=some v->bw.get k=some v
theorem lz.xi{e:Env}{l:bQ}(h:lz e l):o7 (kt l) e:=λk v ag=>h k v (by rwa [ac5]at ag)
theorem o7.bB{e bw:Env}(h:o7 e bw){r:cD}{v:Value}(q:bB e r=some v):bB bw r=some v:=by
 cases r with
 | t n=>exact h n v q
 | c u=>exact q
theorem o7.fD{e bw:Env}(h:o7 e bw):∀{rs:List cD} {vs:List Value},fD e rs=some vs->fD bw rs=some vs
 | [],_,q=>q
 | r::rs,vs,q=>by
   simp only[Dam.fD]at q|-
   cases U:Dam.bB e r with
   | none=>rw[U]at q;cases q
   | some v=>
     rw[U]at q
     cases aa:Dam.fD e rs with
     | none=>simp only[aa]at q;cases q
     | some l=>simp only[aa]at q;simp only[h.bB U,h.fD aa];exact q
theorem o7.parts{e bw:Env}(h:o7 e bw):∀{rs:List (Nat×Nat×cD)} {vs:List (Nat×Nat×Value)},nH e rs=some vs->nH bw rs=some vs
 | [],_,q=>q
 | (i,n,r)::rs,vs,q=>by
   simp only[Dam.nH]at q|-
   cases U:Dam.bB e r with
   | none=>rw[U]at q;cases q
   | some v=>
     rw[U]at q
     cases aa:Dam.nH e rs with
     | none=>simp only[aa]at q;cases q
     | some l=>simp only[aa]at q;simp only[h.bB U,h.parts aa];exact q
theorem o7.et{e bw:Env}(h:o7 e bw){r:cD}{n:Nat}(q:Dam.et (Dam.bB e r)=some n):Dam.et (Dam.bB bw r)=some n:=by
 cases U:Dam.bB e r with
 | none=>rw[U]at q;cases q
 | some v=>rw[U]at q;rw[h.bB U];exact q
theorem o7.fj{e bw:Env}(h:o7 e bw){d n:Nat}{o:Option cD}(q:Dam.fj e d o=some n):Dam.fj bw d o=some n:=by
 cases o with
 | none=>exact q
 | some r=>exact h.et q
def o8(a b:bF):Prop:=(∀(pm:Perm) (H:ah),a.run pm H=none)∨b=a
theorem o8.refl(a:bF):o8 a a:=.inr rfl
theorem o8.fail(b:bF):o8 .fail b:=.inl λ_ _=>rfl
theorem o8.on{e bw:Env}(h:o7 e bw)(r:cD)(f:Option Value->bF)(bc:f none=.fail):o8 (f (Dam.bB e r)) (f (Dam.bB bw r)):=by
 cases q:bB e r with
 | none=>rw[bc];exact .fail _
 | some v=>rw[h.bB q];exact .refl _
theorem o8.te{e bw:Env}(h:o7 e bw)(r s:cD)(f:Option Value->Option Value->bF)(U:∀y,f none y=.fail)(aa:∀x,f x none=.fail):o8 (f (bB e r) (bB e s)) (f (bB bw r) (bB bw s)):=by
 cases q:bB e r with
 | none=>rw[U];exact .fail _
 | some v=>
   cases bh:bB e s with
   | none=>rw[aa];exact .fail _
   | some u=>rw[h.bB q,h.bB bh];exact .refl _
theorem o8.cS{e bw:Env}(h:o7 e bw)(r:cD)(k:Value->bF):o8 (eN (Dam.bB e r) k) (eN (Dam.bB bw r) k):=.on h r (λy=>eN y k) rfl
theorem o8.run{a b:bF}(h:o8 a b){pm:Perm}{H:ah}{r:Value×ah}(q:a.run pm H=some r):b.run pm H=some r:=by
 rcases h with h | rfl
 ·rw[h]at q;cases q
 ·exact q
theorem o8.runT{a b:bF}(h:o8 a b){pm:Perm}{H:ah}{r:Value×ah×List Nat×List Nat}(q:a.runT pm H=some r):b.runT pm H=some r:=by
 rcases h with h | rfl
 ·obtain⟨v,H',f,m⟩:=r;have:=UP q;rw[h]at this;cases this
 ·exact q
theorem ac6{e bw:Env}(h:o7 e bw)(o:bM):o8 (o.cA e) (o.cA bw):=by
 cases o
 case aM x=>exact .on h x hU rfl
 case pick c a b=>
  simp only[bM.cA]
  cases q:bB e c with
  | none=>exact .fail _
  | some v=>
    rw[h.bB q];simp only[eN];split
    ·exact .on h a hU rfl
    ·exact .on h b hU rfl
    ·exact .fail _
 case alloc=>exact .refl _
 case box t x=>exact .cS h x _
 case build z cH=>
  simp only[bM.cA]
  cases q:nH e cH with
  | none=>exact .fail _
  | some l=>rw[h.parts q];exact .refl _
 case buildSlice z es ln cH=>
  simp only[bM.cA]
  cases q:nH e cH with
  | none=>exact .fail _
  | some l=>rw[h.parts q];exact .refl _
 case load g n a=>exact .on h a (pX g n) rfl
 case store n a x=>
  refine .te h a x (q6 n) (λy=>rfl) (λx=>?_);unfold q6;split
  ·rename_i q;cases q
  ·rfl
 case nilCheck x=>exact .cS h x _
 case bin op k x y=>exact .te h x y (λa b=>eN a λa=>eN b λb=>hU (binOp op k a b)) (λ_=>rfl) (λx=>by cases x<;>rfl)
 case un op x=>exact .cS h x _
 case conv c x=>exact .cS h x _
 case Ht t x=>exact .cS h x _
 case y2 f l=>
  simp only[bM.cA]
  cases q:fD e l with
  | none=>exact .fail _
  | some l=>rw[h.fD q];exact .refl _
 case mkMap=>exact .refl _
 case mkSlice z by' l c=>
  simp only[bM.cA]
  cases q:et (bB e l) with
  | none=>exact .fail _
  | some v=>
    cases bh:et (bB e c) with
    | none=>exact .fail _
    | some u=>rw[h.et q,h.et bh];exact .refl _
 case nF x lo ad=>
  simp only[bM.cA]
  cases q:bB e x with
  | none=>exact .fail _
  | some v=>
    cases bh:fj e 0 lo with
    | none=>cases v<;>exact .fail _
    | some n=>
      rw[h.bB q,h.fj bh];cases v<;>first | (exact .fail _) | skip
      rename_i s;simp only[sa]
      cases cu:fj e s.size ad with
      | none=>exact .fail _
      | some u=>rw[h.fj cu];exact .refl _
 case nG es x lo ad hf=>
  simp only[bM.cA]
  cases q:bB e x with
  | none=>exact .fail _
  | some v=>
    rw[h.bB q];simp only[eN];cases v<;>first | (exact .fail _) | skip
    rename_i a ln fH;simp only
    cases bh:fj e 0 lo with
    | none=>exact .fail _
    | some n=>
      cases cu:fj e ln ad with
      | none=>exact .fail _
      | some IK=>
        cases e9:fj e fH hf with
        | none=>exact .fail _
        | some NC=>rw[h.fj bh,h.fj cu,h.fj e9];exact .refl _
 case D1 n es x lo ad=>
  simp only[bM.cA]
  cases q:bB e x with
  | none=>exact .fail _
  | some v=>
    rw[h.bB q];cases v<;>first | (exact .fail _) | skip
    rename_i a;cases a<;>first | (exact .fail _) | skip
    cases bh:fj e 0 lo with
    | none=>exact .fail _
    | some fU=>
      cases cu:fj e n ad with
      | none=>exact .fail _
      | some IK=>rw[h.fj bh,h.fj cu];exact .refl _
 case fieldAddr off x=>exact .cS h x _
 case field g off n x=>exact .cS h x _
 case ho es x i=>
  simp only[bM.cA]
  cases q:bB e x with
  | none=>exact .fail _
  | some v=>
    cases bh:et (bB e i) with
    | none=>cases v<;>first | exact .fail _ | (rename_i a _ _;cases a<;>exact .fail _)
    | some u=>rw[h.bB q,h.et bh];exact .refl _
 case y3 n es x i=>
  simp only[bM.cA]
  cases q:bB e x with
  | none=>exact .fail _
  | some v=>
    cases bh:et (bB e i) with
    | none=>cases v<;>first | exact .fail _ | (rename_i a;cases a<;>exact .fail _)
    | some u=>rw[h.bB q,h.et bh];exact .refl _
 case pV x i=>
  simp only[bM.cA]
  cases q:bB e x with
  | none=>exact .fail _
  | some v=>
    cases bh:et (bB e i) with
    | none=>cases v<;>exact .fail _
    | some u=>rw[h.bB q,h.et bh];exact .refl _
 case Hu g n es x i=>
  simp only[bM.cA]
  cases q:bB e x with
  | none=>exact .fail _
  | some v=>
    cases bh:et (bB e i) with
    | none=>cases v<;>exact .fail _
    | some u=>rw[h.bB q,h.et bh];exact .refl _
 case lookup bY z ok x k=>exact .te h k x (λa b=>eN a λa=>y4 bY z ok a b) (λ_=>rfl) (λx=>by cases x<;>rfl)
 case mapUpdate bY m k x=>
  simp only[bM.cA]
  cases q:bB e k with
  | none=>exact .fail _
  | some v=>rw[h.bB q];exact .te h x m (λa b=>eN a λa=>Hy bY v a b) (λ_=>rfl) (λx=>by cases x<;>rfl)
 case mapEntry bY z m k=>exact .te h k m (λa b=>eN a λa=>Hz bY z a b) (λ_=>rfl) (λx=>by cases x<;>rfl)
 case entryStore m s x=>
  simp only[bM.cA]
  cases q:et (bB e s) with
  | none=>exact .fail _
  | some v=>rw[h.et q];exact .te h x m (λa b=>eN a λa=>HA v a b) (λ_=>rfl) (λx=>by cases x<;>rfl)
 case D2 x=>exact .cS h x _
 case D3 it=>exact .on h it HB rfl
 case extract x i=>exact .cS h x _
 case len k x=>exact .on h x (xu k) (by cases k<;>rfl)
 case append es by' s x=>exact .te h x s (λa b=>eN a λx=>eN b λs=>hV es x λnew n=>iV es by' s new n) (λ_=>rfl) (λx=>by cases x<;>rfl)
 case Ba el by' s x=>exact .te h x s (λa b=>eN a λx=>eN b λs=>Hw el by' s x) (λ_=>rfl) (λx=>by cases x<;>rfl)
 case copy es d s=>exact .te h s d (λa b=>eN a λs=>eN b λd=>hV es s λsrc n=>Hx es d src n) (λ_=>rfl) (λx=>by cases x<;>rfl)
 case D4 z x=>exact .on h x (HC z) rfl
 case D5 x=>exact .on h x HD rfl
 case min2 x y=>exact .te h x y (pY false) (λ_=>by rfl) (λx=>by cases x<;>first | rfl | (rename_i v;cases v<;>rfl))
 case max2 x y=>exact .te h x y (pY true) (λ_=>by rfl) (λx=>by cases x<;>first | rfl | (rename_i v;cases v<;>rfl))
 case call=>exact .refl _
 case mP=>exact .refl _
 case bad=>exact .refl _
inductive Fr where
 | seq (b:ae)
 | bI (id:Nat)
inductive r1 where
 | code (c:ae)
 | ops (os:List aE)
 | res (x:gr)
abbrev c':=gr->bQ->ah->Prop
section
variable(X:aY)(pm:Perm)
def fN(x:gr)(e:Env)(H:ah):List Fr->c'->Prop
 | [],Q=>∃l,lz e l/\Q x l H
 | .seq b::ks,Q=>match x with
   | .normal=>∃cZ bw H',o6 (λm d=>eval (X.K m d) pm m b e H=some (cZ,bw,H'))/\fN cZ bw H' ks Q
   | x=>fN x e H ks Q
 | .bI id::ks,Q=>match x with
   | .exit i=>if i=id then fN .normal e H ks Q else fN (.exit i) e H ks Q
   | x=>fN x e H ks Q
def Sem(c:r1)(e:Env)(H:ah)(ks:List Fr)(Q:c'):Prop:=match c with
 | .code c=>∃cZ bw H',o6 (λm d=>eval (X.K m d) pm m c e H=some (cZ,bw,H'))/\fN X pm cZ bw H' ks Q
 | .ops os=>∃bw H',o6 (λm d=>mQ (X.K m d) pm os e H=some (bw,H'))/\fN X pm .normal bw H' ks Q
 | .res x=>fN X pm x e H ks Q
def l6(c:r1)(l:bQ)(H:ah)(ks:List Fr)(Q:c'):Prop:=∀e,lz e l->Sem X pm c e H ks Q
def aR(o:aE)(f:FuncId)(args:List cD)(os:List aE)(l:bQ)(H:ah)(ks:List Fr)(Q:c'):Prop:=
 l6 X pm (.ops ({o with op:=.call f args}::os)) l H ks Q
def Cf(o:aE)(f:cD)(args:List cD)(os:List aE)(l:bQ)(H:ah)(ks:List Fr)(Q:c'):Prop:=
 l6 X pm (.ops ({o with op:=.mP f args}::os)) l H ks Q
def hv(b:ae)(l:bQ)(H:ah)(ks:List Fr)(Q:c'):Prop:=l6 X pm (.code (.loop b)) l H ks Q
def eg(os:List aE)(qw:Option pc)(l:bQ)(H:ah)(ks:List Fr)(Q:c'):Prop:=l6 X pm (.code (.draw os qw)) l H ks Q
def ae.sz:ae->Nat
 | .skip | .exit _ | .ret | .bad _=>2
 | .aT os | .draw os _=>os.length+3
 | .seq a b=>a.sz+b.sz+3
 | .cond _ a b=>a.sz+b.sz+3
 | .block _ b=>b.sz+3
 | .loop b=>b.sz+3
def Fr.sz:Fr->Nat
 | .seq b=>b.sz+1
 | .bI _=>1
def Uv:List Fr->Nat
 | []=>0
 | k::ks=>k.sz+Uv ks
def r1.sz:r1->Nat
 | .code c=>c.sz
 | .ops os=>os.length+2
 | .res _=>1
def l7(o:aE)(l:bQ):Option Bool:=match o.guard with
 | none=>some true
 | some (j,want)=>match a7 j l with
   | some (.bool b)=>some (b==want)
   | some _=>some false
   | none=>none
def LY(o:aE)(l:bQ)(H:ah):Option (Value×ah):=match l7 o l with
 | some true=>(o.op.cA (kt l)).run pm H
 | some false=>some (zWb,H)
 | none=>none
def Hg:bM->Bool
 | .call .. | .mP ..=>true
 | _=>false
def wp(c:r1)(l:bQ)(H:ah)(ks:List Fr)(Q:c'):Prop:=match c with
 | .code .skip=>wp (.res .normal) l H ks Q
 | .code (.aT os)=>wp (.ops os) l H ks Q
 | .code (.draw os qw)=>eg X pm os qw l H ks Q
 | .code (.seq a b)=>wp (.code a) l H (.seq b::ks) Q
 | .code (.cond c a b)=>match bB (kt l) c with
   | some (.bool t)=>(t=true->wp (.code a) l H ks Q)/\(t=false->wp (.code b) l H ks Q)
   | _=>False
 | .code (.block id b)=>wp (.code b) l H (.bI id::ks) Q
 | .code (.loop b)=>hv X pm b l H ks Q
 | .code (.exit id)=>wp (.res (.exit id)) l H ks Q
 | .code .ret=>wp (.res .ret) l H ks Q
 | .code (.bad _)=>False
 | .ops []=>wp (.res .normal) l H ks Q
 | .ops (o::os)=>match o.op with
   | .call f args=>aR X pm o f args os l H ks Q
   | .mP f args=>Cf X pm o f args os l H ks Q
   | _=>match LY pm o l H with
     | some (v,H')=>wp (.ops os) (ly l o.dst v) H' ks Q
     | none=>False
 | .res x=>match ks with
   | []=>Q x l H
   | .seq b::ks=>match x with
     | .normal=>wp (.code b) l H ks Q
     | x=>wp (.res x) l H ks Q
   | .bI id::ks=>match x with
     | .exit i=>if i=id then wp (.res .normal) l H ks Q else wp (.res (.exit i)) l H ks Q
     | x=>wp (.res x) l H ks Q
termination_by c.sz+Uv ks
decreasing_by all_goals (simp_wf;simp[r1.sz,ae.sz,Uv,Fr.sz];try omega)
end
section
variable{X:aY}{pm:Perm}
theorem Sem.aT{os:List aE}{e:Env}{H:ah}{ks:List Fr}{Q:c'}(h:Sem X pm (.ops os) e H ks Q):Sem X pm (.code (.aT os)) e H ks Q:=by
 obtain⟨bw,H',U,aa⟩:=h;exact⟨.normal,bw,H',U.map λm d q=>by simp only[eval,q],aa⟩
theorem Sem.seq{a b:ae}{e:Env}{H:ah}{ks:List Fr}{Q:c'}(h:Sem X pm (.code a) e H (.seq b::ks) Q):Sem X pm (.code (.seq a b)) e H ks Q:=by
 obtain⟨x,bw,H',U,aa⟩:=h
 cases x with
 | normal=>
   obtain⟨cZ,e2,aJ,aq,a8⟩:=aa;exact⟨cZ,e2,aJ,U.rm aq λm d p q=>by simp only[eval,p,q],a8⟩
 | exit i=>exact⟨.exit i,bw,H',U.map λm d p=>by simp only[eval,p],aa⟩
 | ret=>exact⟨.ret,bw,H',U.map λm d p=>by simp only[eval,p],aa⟩
theorem Sem.block{id:Nat}{b:ae}{e:Env}{H:ah}{ks:List Fr}{Q:c'}(h:Sem X pm (.code b) e H (.bI id::ks) Q):Sem X pm (.code (.block id b)) e H ks Q:=by
 obtain⟨x,bw,H',U,aa⟩:=h
 cases x with
 | normal=>exact⟨.normal,bw,H',U.map λm d p=>by simp only[eval,p],aa⟩
 | ret=>exact⟨.ret,bw,H',U.map λm d p=>by simp only[eval,p],aa⟩
 | exit i=>
   simp only[fN]at aa;by_cases ad:i=id
   ·rw[bm ad]at aa;exact⟨.normal,bw,H',U.map λm d p=>by simp only[eval,p,ed,ad,decide_true,cond_true],aa⟩
   ·rw[aU ad]at aa;exact⟨.exit i,bw,H',U.map λm d p=>by simp only[eval,p,ed,ad,decide_false,cond_false],aa⟩
theorem tf{e:Env}{l:bQ}(h:lz e l){o:aE}{b:Bool}(q:l7 o l=some b):o.wanted e=some b:=by
 unfold l7 at q;unfold aE.wanted;split at q
 ·rename_i aK;rw[aK];exact q
 ·rename_i j want aK;rw[aK];simp only
  cases aw:a7 j l with
  | none=>rw[aw]at q;cases q
  | some v=>rw[h j v aw];rw[aw]at q;exact q
theorem ac7{K:c8}{e:Env}{H:ah}:∀{o:bM},Hg o=false->o.run K pm e H=(o.cA e).run pm H:=by
 intro o h;cases o<;>first | rfl | cases h
theorem qX{c:r1}{l:bQ}{H:ah}{ks:List Fr}{Q:c'}:wp X pm c l H ks Q->l6 X pm c l H ks Q:=by
 fun_induction wp X pm c l H ks Q with
 | case1 l H ks ih=>exact λh e he=>⟨.normal,e,H,.of λ_ _=>rfl,ih h e he⟩
 | case2 l H ks os ih=>exact λh e he=>(ih h e he).aT
 | case3=>exact λh=>h
 | case4 l H ks a b ih=>exact λh e he=>(ih h e he).seq
 | case5 l H ks c a b t af vK vL=>
   intro h e he;have af:=he.xi.bB af
   cases t with
   | true=>
     obtain⟨x,bw,H',U,aa⟩:=vK (h.1 rfl) e he;exact⟨x,bw,H',U.map λm d p=>by simp only[eval,af,p],aa⟩
   | false=>
     obtain⟨x,bw,H',U,aa⟩:=vL (h.2 rfl) e he;exact⟨x,bw,H',U.map λm d p=>by simp only[eval,af,p],aa⟩
 | case6=>exact λh=>h.elim
 | case7 l H ks id b ih=>exact λh e he=>(ih h e he).block
 | case8=>exact λh=>h
 | case9 l H ks id ih=>exact λh e he=>⟨.exit id,e,H,.of λ_ _=>rfl,ih h e he⟩
 | case10 l H ks ih=>exact λh e he=>⟨.ret,e,H,.of λ_ _=>rfl,ih h e he⟩
 | case11=>exact λh=>h.elim
 | case12 l H ks ih=>exact λh e he=>⟨e,H,.of λ_ _=>rfl,ih h e he⟩
 | case13 l H ks o os f args au=>
   intro h e he;have:({o with op:=.call f args}:aE)=o:=by cases o;simp only at au;subst au;rfl
   unfold aR at h;rw[this]at h;exact h e he
 | case14 l H ks o os f args au=>
   intro h e he;have:({o with op:=.mP f args}:aE)=o:=by cases o;simp only at au;subst au;rfl
   unfold Cf at h;rw[this]at h;exact h e he
 | case15 l H ks o os v H' aG U aa ih=>
   intro h e he;have K':Hg o.op=false:=by
    cases au:o.op<;>first | rfl | exact absurd au (U _ _) | exact absurd au (aa _ _)
   obtain⟨bw,aJ,bJ,bG⟩:=ih h _ (he.put o.dst v);refine⟨bw,aJ,bJ.map λm d p=>?_,bG⟩;have an:o.run (X.K m d) pm e H=some (v,H'):=by
    unfold LY at aG;unfold aE.run;split at aG
    ·rename_i aK;rw[tf he aK];simp only;rw[ac7 K'];exact(ac6 he.xi _).run aG
    ·rename_i aK;rw[tf he aK];exact aG
    ·cases aG
   simp only[mQ,an,p]
 | case16=>exact λh=>h.elim
 | case17 l H x=>exact λh e he=>⟨l,he,h⟩
 | case18 l H b ks ih=>exact λh e he=>ih h e he
 | case19 l H b ks x az ih=>
   intro h e he;have:=ih h e he
   cases x with
   | normal=>exact absurd rfl az
   | exit i=>exact this
   | ret=>exact this
 | case20 l H id ks ih=>
   intro h e he;have:=ih h e he;simp only[Sem,fN]at this|-;simpa using this
 | case21 l H id ks i ad ih=>
   intro h e he;have:=ih h e he;simp only[Sem,fN]at this|-;rw[aU ad];exact this
 | case22 l H id ks x az ih=>
   intro h e he;have:=ih h e he
   cases x with
   | normal=>exact this
   | exit i=>exact absurd rfl (az i)
   | ret=>exact this
end
end Go.Dam
namespace Go.Dam
open Go
section
variable{X:aY}{pm:Perm}
theorem aR.of{o:aE}{f:FuncId}{args:List cD}{os:List aE}{l:bQ}{H:ah}{ks:List Fr}{Q:c'}{vs:List Value}{R:Value->ah->Prop}
 (aK:l7 o l=some true) (aN:fD (kt l) args=some vs) (h:Call X pm f vs H R) (k:∀v H1,R v H1->wp X pm (.ops os) (ly l o.dst v) H1 ks Q):aR X pm o f args os l H ks Q:=by
 intro e he;obtain⟨v,H1,an,dD⟩:=h;obtain⟨bw,H',U,aa⟩:=qX (k v H1 dD) _ (he.put o.dst v);refine⟨bw,H',an.rm U λm d p q=>?_,aa⟩;have hw:({o with op:=.call f args}:aE).wanted e=some true:=tf he aK;have aw:=he.xi.fD aN;simp only[mQ,aE.run,hw,bM.run,aw,p,q]
theorem aR.bZb{o:aE}{f:FuncId}{args:List cD}{os:List aE}{l:bQ}{H:ah}{ks:List Fr}{Q:c'}{vs:List Value}{R:Value->ah->Prop}
 (h:Call X pm f vs H R) (k:∀v H1,R v H1->wp X pm (.ops os) (ly l o.dst v) H1 ks Q) (aK:l7 o l=some true:=by simp) (aN:fD (kt l) args=some vs:=by simp):aR X pm o f args os l H ks Q:=aR.of aK aN h k
theorem aR.not{o:aE}{f:FuncId}{args:List cD}{os:List aE}{l:bQ}{H:ah}{ks:List Fr}{Q:c'}
 (aK:l7 o l=some false) (k:wp X pm (.ops os) (ly l o.dst zWb) H ks Q):aR X pm o f args os l H ks Q:=by
 intro e he;obtain⟨bw,H',U,aa⟩:=qX k _ (he.put o.dst zWb);refine⟨bw,H',U.map λm d q=>?_,aa⟩;have hw:({o with op:=.call f args}:aE).wanted e=some false:=tf he aK;simp only[mQ,aE.run,hw,q]
theorem Cf.of{o:aE}{f:cD}{args:List cD}{os:List aE}{l:bQ}{H:ah}{ks:List Fr}{Q:c'}{vs:List Value}{R:Value->ah->Prop}{g:FuncId}{fs cs:Array Value}
 (aK:l7 o l=some true) (bc:bB (kt l) f=some (.func (.func g) fs cs)) (aN:fD (kt l) args=some vs) (h:Call X pm g (vs++cs.toList) H R)
 (k:∀v H1,R v H1->wp X pm (.ops os) (ly l o.dst v) H1 ks Q):Cf X pm o f args os l H ks Q:=by
 intro e he;obtain⟨v,H1,an,dD⟩:=h;obtain⟨bw,H',U,aa⟩:=qX (k v H1 dD) _ (he.put o.dst v);refine⟨bw,H',an.rm U λm d p q=>?_,aa⟩;have hw:({o with op:=.mP f args}:aE).wanted e=some true:=tf he aK;have aw:=he.xi.fD aN;have bc:=he.xi.bB bc;simp only[mQ,aE.run,hw,bM.run,bc,aw,p,q]
def rF{σ:Type}(L:σ->bQ)(I:σ->ah->Prop)(μ:σ->Nat)(s:σ)(l:bQ)(H:ah):Prop:=∃eZ,μ eZ<μ s/\Sub (L eZ) l/\I eZ H
theorem rF.of{σ:Type}{L:σ->bQ}{I:σ->ah->Prop}{μ:σ->Nat}{s:σ}{l:bQ}{H:ah}(eZ:σ)(h:μ eZ<μ s)(aG:Sub (L eZ) l)(ad:I eZ H):rF L I μ s l H:=⟨eZ,h,aG,ad⟩
theorem hv.of{σ:Type}{b:ae}{l:bQ}{H:ah}{ks:List Fr}{Q:c'}(L:σ->bQ)(I:σ->ah->Prop)(μ:σ->Nat)(iQ:σ)(bC:Sub (L iQ) l)(dw:I iQ H)
 (step:∀s H,I s H->wp X pm (.code b) (L s) H [] λx l' H'=>match x with
  | .normal=>rF L I μ s l' H'
  | x=>wp X pm (.res x) l' H' ks Q):hv X pm b l H ks Q:=by
 have key:∀n s e H,μ s<=n->lz e (L s)->I s H->∃x bw H',(o6 λm d=>∀k,n+1<=k->iter (eval (X.K m d) pm m b) k e H=some (x,bw,H'))/\fN X pm x bw H' ks Q:=by
  intro n
  induction n with
  | zero=>
    intro s e H aF he ad;obtain⟨x,bw,H',U,l',aa,aq⟩:=qX (step s H ad) e he
    cases x with
    | normal=>obtain⟨eZ,a8,_⟩:=aq;omega
    | exit i=>exact⟨.exit i,bw,H',U.map λm d p k ag=>by obtain⟨k,rfl⟩:∃j,k=j+1:=⟨k-1,by omega⟩;simp only[iter,p],qX aq bw aa⟩
    | ret=>exact⟨.ret,bw,H',U.map λm d p k ag=>by obtain⟨k,rfl⟩:∃j,k=j+1:=⟨k-1,by omega⟩;simp only[iter,p],qX aq bw aa⟩
  | succ n ih=>
    intro s e H aF he ad;obtain⟨x,bw,H',U,l',aa,aq⟩:=qX (step s H ad) e he
    cases x with
    | normal=>
      obtain⟨eZ,a8,cg,dj⟩:=aq;obtain⟨dW,e2,aJ,g1,g2⟩:=ih eZ bw H' (by omega) (aa.sub cg) dj;exact⟨dW,e2,aJ,U.rm g1 λm d p q k ag=>by obtain⟨k,rfl⟩:∃j,k=j+1:=⟨k-1,by omega⟩;simp only[iter,p];exact q k (by omega),g2⟩
    | exit i=>exact⟨.exit i,bw,H',U.map λm d p k ag=>by obtain⟨k,rfl⟩:∃j,k=j+1:=⟨k-1,by omega⟩;simp only[iter,p],qX aq bw aa⟩
    | ret=>exact⟨.ret,bw,H',U.map λm d p k ag=>by obtain⟨k,rfl⟩:∃j,k=j+1:=⟨k-1,by omega⟩;simp only[iter,p],qX aq bw aa⟩
 intro e he;obtain⟨x,bw,H',⟨N,U⟩,aa⟩:=key _ iQ e H (bR _) (he.sub bC) dw;exact⟨x,bw,H',⟨N+(μ iQ+1),λm d hm aB=>by simp only[eval];exact U m d (by omega) (by omega) m (by omega)⟩,aa⟩
def zx:List Value->Nat->bQ->bQ
 | [],_,l=>l
 | v::vs,n,l=>zx vs (n+1) ((n,v)::l)
theorem ac8:∀(vs:List Value) (n:Nat) (e:Env) (l:bQ),lz e l->lz (tG vs n e) (zx vs n l)
 | [],_,_,_,h=>h
 | v::vs,n,_,_,h=>ac8 vs (n+1) _ _ (h.put (some n) v)
def nb(l:bQ)(H:ah):List r9->Option (List Value)
 | []=>some []
 | r::rs=>match (match r with | .slot t=>a7 t l | .cell t g n=>ik H g n (a7 t l)) with
   | some v=>(match nb l H rs with | some l=>some (v::l) | none=>none)
   | none=>none
theorem lz.res{e:Env}{l:bQ}(h:lz e l){H:ah}:∀{rs:List r9} {vs:List Value},nb l H rs=some vs->ou e H rs=some vs
 | [],_,q=>q
 | r::rs,vs,q=>by
   simp only[nb]at q;simp only[ou]
   cases r with
   | slot t=>
     simp only at q|-
     cases U:a7 t l with
     | none=>rw[U]at q;cases q
     | some v=>
       rw[U]at q;rw[h t v U]
       cases aa:nb l H rs with
       | none=>simp only[aa]at q;cases q
       | some l=>simp only[aa]at q;simp only[h.res aa];exact q
   | cell t g n=>
     simp only at q|-
     cases U:a7 t l with
     | none=>rw[U]at q;simp[ik]at q
     | some v=>
       rw[U]at q;rw[h t v U]
       cases aq:ik H g n (some v) with
       | none=>rw[aq]at q;cases q
       | some u=>
         rw[aq]at q;simp only at q|-
         cases aa:nb l H rs with
         | none=>simp only[aa]at q;cases q
         | some l=>simp only[aa]at q;simp only[h.res aa];exact q
theorem Call.func{f:FuncId}{args:List Value}{H:ah}{R:Value->ah->Prop}{F:b2}(au:X.ov f=none)(bK:X.T f=some F)(aF:args.length<=F.lL)
 (h:wp X pm (.code F.body) (zx args 0 []) H [] λx l H'=>(x=.normal∨x=.ret)/\∃vs,nb l H' F.res=some vs/\R (j5 vs) H'):Call X pm f args H R:=by
 obtain⟨x,bw,H',⟨N,U⟩,l',aa,aq,vs,a8,cg⟩:=qX h _ (ac8 args 0 .ak [] λk v ag=>by cases ag);refine⟨j5 vs,H',⟨N+1,λm d hm aB=>?_⟩,cg⟩;obtain⟨d,rfl⟩:∃j,d=j+1:=⟨d-1,by omega⟩;have U:=U m d (by omega) (by omega);have fk:∀(K:c8),X.S K pm f args H=K pm f args H:=λK=>by unfold aY.S;rw[au]
 simp only[aY.K,runK];rw[fk];simp only[bK];unfold By;have ai:(!Nat.ble args.length F.lL)=false:=by rw[dA];simp[aF]
 rw[ai];have ka:=aa.res a8;have aEy:eval (runK X.T X.S m d) pm m F.body (tG args 0 .ak) H=some (x,bw,H'):=U
 rcases aq with rfl | rfl<;>simp only[cond_false,aEy,ka]
theorem Call.over{f:FuncId}{args:List Value}{H H':ah}{v:Value}{R:Value->ah->Prop}{g:yE}(au:X.ov f=some g)(aK:g pm args H=some (v,H'))(h:R v H'):Call X pm f args H R:=by
 refine⟨v,H',⟨1,λm d _ aB=>?_⟩,h⟩;obtain⟨d,rfl⟩:∃j,d=j+1:=⟨d-1,by omega⟩;simp only[aY.K,runK];unfold aY.S;rw[au];exact aK
theorem Call.mono{f:FuncId}{args:List Value}{H:ah}{R EF:Value->ah->Prop}(h:Call X pm f args H R)(g:∀v H',R v H'->EF v H'):Call X pm f args H EF:=
 let ⟨v,H',a,b⟩:=h;⟨v,H',a,g v H' b⟩
end
class cn where
 s:Nat->Prop
variable[cn]
structure cU(pm:Perm)(H:ah):Prop where
 num:pm.num=none
 lo:pm.lo<=H.next
 wf:∀b,H.next<=b->H.get b=none
 new:∀b,H.next<=b->cn.s b
theorem cU.lt{pm:Perm}{H:ah}(h:cU pm H){b:Nat}{x:cj}(e:H.get b=some x):b<H.next:=by
 apply oa;intro ai;rw[h.wf b (by omega)]at e;cases e
theorem cU.may{pm:Perm}{H:ah}(h:cU pm H){b:Nat}(ai:H.next<=b):pm.may b=true:=by
 unfold Perm.may;rw[dA];have:pm.lo<=b:=bH h.lo ai;simp[this]
structure b6(pm:Perm)(H H':ah):Prop where
 ok:cU pm H'
 next:H.next<=H'.next
 get:∀b,b<H.next->H'.get b=H.get b
theorem b6.refl{pm:Perm}{H:ah}(h:cU pm H):b6 pm H H:=⟨h,bR _,λ_ _=>rfl⟩
theorem b6.trans{pm:Perm}{H H' cL:ah}(h:b6 pm H H')(g:b6 pm H' cL):b6 pm H cL:=
 ⟨g.ok,bH h.next g.next,λb ai=>(g.get b (hR ai h.next)).trans (h.get b ai)⟩
theorem b6.new{pm:Perm}{H H':ah}(h:b6 pm H H')(x:cj):b6 pm H (H'.new x) where
 ok:=⟨h.ok.num,bH h.ok.lo (bYx _),λb ai=>by
  have ai:H'.next+1<=b:=ai;rw[ah.qa,aU (by omega)];exact h.ok.wf b (by omega),λb ai=>h.ok.new b (Nat.le_of_succ_le ai)⟩
 next:=bH h.next (bYx _)
 get:=λb ai=>by rw[ah.qa,aU (by have:=h.next;omega)];exact h.get b ai
theorem b6.put{pm:Perm}{H H':ah}(h:b6 pm H H'){b:Nat}{y:cj}(ai:H.next<=b)(bu:H'.get b=some y)(x:cj):b6 pm H (H'.put b x) where
 ok:=⟨h.ok.num,h.ok.lo,λc af=>by
  have af:H'.next<=c:=af;have:=h.ok.lt bu;rw[ah.fS,aU (by omega)];exact h.ok.wf c af,λb ai=>h.ok.new b ai⟩
 next:=h.next
 get:=λc af=>by rw[ah.fS,aU (by omega)];exact h.get c af
theorem b6.some{pm:Perm}{H H':ah}(h:b6 pm H H')(au:cU pm H){b:Nat}{x:cj}(e:H.get b=some x):H'.get b=some x:=by rw[h.get b (au.lt e)];exact e
end Go.Dam
namespace Go.Dam
open Go
section
variable{X:aY}{pm:Perm}
@[simp] theorem wp_skip{l:bQ}{H:ah}{ks:List Fr}{Q:c'}:wp X pm (.code .skip) l H ks Q=wp X pm (.res .normal) l H ks Q:=by rw[wp]
@[simp] theorem aHF{os:List aE}{l:bQ}{H:ah}{ks:List Fr}{Q:c'}:wp X pm (.code (.aT os)) l H ks Q=wp X pm (.ops os) l H ks Q:=by rw[wp]
@[simp] theorem aHG{os:List aE}{qw:Option pc}{l:bQ}{H:ah}{ks:List Fr}{Q:c'}:wp X pm (.code (.draw os qw)) l H ks Q=eg X pm os qw l H ks Q:=by rw[wp]
@[simp] theorem wp_seq{a b:ae}{l:bQ}{H:ah}{ks:List Fr}{Q:c'}:wp X pm (.code (.seq a b)) l H ks Q=wp X pm (.code a) l H (.seq b::ks) Q:=by rw[wp]
@[simp] theorem wp_block{i:Nat}{b:ae}{l:bQ}{H:ah}{ks:List Fr}{Q:c'}:wp X pm (.code (.block i b)) l H ks Q=wp X pm (.code b) l H (.bI i::ks) Q:=by rw[wp]
@[simp] theorem wp_loop{b:ae}{l:bQ}{H:ah}{ks:List Fr}{Q:c'}:wp X pm (.code (.loop b)) l H ks Q=hv X pm b l H ks Q:=by rw[wp]
@[simp] theorem wp_exit{i:Nat}{l:bQ}{H:ah}{ks:List Fr}{Q:c'}:wp X pm (.code (.exit i)) l H ks Q=wp X pm (.res (.exit i)) l H ks Q:=by rw[wp]
@[simp] theorem wp_ret{l:bQ}{H:ah}{ks:List Fr}{Q:c'}:wp X pm (.code .ret) l H ks Q=wp X pm (.res .ret) l H ks Q:=by rw[wp]
@[simp] theorem aHH{l:bQ}{H:ah}{ks:List Fr}{Q:c'}:wp X pm (.ops []) l H ks Q=wp X pm (.res .normal) l H ks Q:=by rw[wp]
@[simp] theorem O3{x:gr}{l:bQ}{H:ah}{Q:c'}:wp X pm (.res x) l H [] Q=Q x l H:=by rw[wp]
@[simp] theorem aHI{b:ae}{l:bQ}{H:ah}{ks:List Fr}{Q:c'}:wp X pm (.res .normal) l H (.seq b::ks) Q=wp X pm (.code b) l H ks Q:=by rw[wp]
@[simp] theorem RW{i:Nat}{b:ae}{l:bQ}{H:ah}{ks:List Fr}{Q:c'}:wp X pm (.res (.exit i)) l H (.seq b::ks) Q=wp X pm (.res (.exit i)) l H ks Q:=by rw[wp];intro h;cases h
@[simp] theorem Ju{b:ae}{l:bQ}{H:ah}{ks:List Fr}{Q:c'}:wp X pm (.res .ret) l H (.seq b::ks) Q=wp X pm (.res .ret) l H ks Q:=by rw[wp];intro h;cases h
@[simp] theorem RX{i:Nat}{l:bQ}{H:ah}{ks:List Fr}{Q:c'}:wp X pm (.res .normal) l H (.bI i::ks) Q=wp X pm (.res .normal) l H ks Q:=by rw[wp];intro i h;cases h
@[simp] theorem Jt{i:Nat}{l:bQ}{H:ah}{ks:List Fr}{Q:c'}:wp X pm (.res .ret) l H (.bI i::ks) Q=wp X pm (.res .ret) l H ks Q:=by rw[wp];intro i h;cases h
@[simp] theorem Gy{i j:Nat}{l:bQ}{H:ah}{ks:List Fr}{Q:c'}:wp X pm (.res (.exit i)) l H (.bI j::ks) Q=if i=j then wp X pm (.res .normal) l H ks Q else wp X pm (.res (.exit i)) l H ks Q:=by rw[wp]
@[simp] theorem wp_cond{c:cD}{a b:ae}{l:bQ}{H:ah}{ks:List Fr}{Q:c'}:wp X pm (.code (.cond c a b)) l H ks Q=(match bB (kt l) c with
  | some (.bool t)=>(t=true->wp X pm (.code a) l H ks Q)/\(t=false->wp X pm (.code b) l H ks Q)
  | _=>False):=by rw[wp]<;>rfl
@[simp] theorem aHJ{o:aE}{os:List aE}{l:bQ}{H:ah}{ks:List Fr}{Q:c'}:wp X pm (.ops (o::os)) l H ks Q=(match o.op with
  | .call f args=>aR X pm o f args os l H ks Q
  | .mP f args=>Cf X pm o f args os l H ks Q
  | _=>match LY pm o l H with
    | some (v,H')=>wp X pm (.ops os) (ly l o.dst v) H' ks Q
    | none=>False):=by rw[wp]<;>rfl
end
@[simp] theorem aHK(l:bQ)(k:Nat):(kt l).get k=a7 k l:=ac5 l k
@[simp] theorem RY(k j:Nat)(v:Value)(l:bQ):a7 k ((j,v)::l)=if k=j then some v else a7 k l:=by
  simp only[a7,ed];by_cases h:k=j<;>simp[h]
@[simp] theorem aHL(k:Nat):a7 k []=none:=rfl
@[simp] theorem aHM(e:Env)(k:Nat):bB e (.t k)=e.get k:=rfl
@[simp] theorem aHN(e:Env)(v:Value):bB e (.c v)=some v:=rfl
@[simp] theorem aHO(l:bQ)(d:Nat)(v:Value):ly l (some d) v=(d,v)::l:=rfl
@[simp] theorem aHP(l:bQ)(v:Value):ly l none v=l:=rfl
@[simp] theorem aHQ(e:Env):fD e []=some []:=rfl
@[simp] theorem aHR(e:Env)(r:cD)(rs:List cD):fD e (r::rs)=(match bB e r with | some v=>(match fD e rs with | some l=>some (v::l) | none=>none) | none=>none):=rfl
@[simp] theorem aHS(l:bQ):Sub [] l=True:=rfl
@[simp] theorem Gz(k:Nat)(v:Value)(L l:bQ):Sub ((k,v)::L) l=(a7 k l=some v/\Sub L l):=rfl
@[simp] theorem aHT(d:Option Nat)(x:bM)(l:bQ):l7 ⟨d,none,x⟩ l=some true:=rfl
@[simp] theorem aHU(d:Option Nat)(j:Nat)(b:Bool)(x:bM)(l:bQ):l7 ⟨d,some (j,b),x⟩ l=(match a7 j l with | some (.bool c)=>some (c==b) | some _=>some false | none=>none):=rfl
@[simp] theorem aHV(pm:Perm)(o:aE)(l:bQ)(H:ah):LY pm o l H=(match l7 o l with
  | some true=>(o.op.cA (kt l)).run pm H
  | some false=>some (zWb,H)
  | none=>none):=rfl
attribute [simp] lH bM.cA eN hU bF.run pX q6 putRow xu vo vp vq q7 sa pY hV
@[simp] theorem aba(cs:List Value)(z:dI):rowOf (.cells cs z)=some cs:=rfl
@[simp] theorem aHW(cs:List Value):rowOf (.ro cs)=some cs:=rfl
attribute [simp] vn nH fj fill j5 nb zx unOp binOp Bc nJ nI L4
@[simp] theorem aHX(k:Nat):(dI.n k).val=k:=rfl
@[simp] theorem aHY(t:TypeId):(dI.t t).val=0:=rfl
attribute [simp] Iw sd
@[simp] theorem aHZ(k:IntKind)(n:Nat):et (some (.int k (n:Int)))=some n:=rfl
@[simp] theorem aH0(k:IntKind):et (some (.int k 0))=some 0:=rfl
@[simp] theorem aH1(k:IntKind):et (some (.int k 1))=some 1:=rfl
@[simp] theorem aH2(k:IntKind)(n:Nat):et (some (.int k (no_index (OfNat.ofNat n))))=some (OfNat.ofNat n):=rfl
@[simp] theorem aH3(k:IntKind)(a b:Nat):et (some (.int k ((a:Int)+(b:Int))))=some (a+b):=rfl
@[simp] theorem aH4(k:IntKind)(a:Nat):et (some (.int k ((a:Int)+1)))=some (a+1):=rfl
@[simp] theorem aH5(k:IntKind)(a n:Nat):et (some (.int k ((a:Int)+(no_index (OfNat.ofNat n)))))=some (a+OfNat.ofNat n):=rfl
@[simp] theorem aH6(k k':IntKind)(a:Int)(n:Nat):xt .shl (.int k a) (.int k' (n:Int))=some (.int k (wr k (a*2^(min n k.bits)))):=rfl
@[simp] theorem aH7(k k':IntKind)(a:Int)(n:Nat):xt .shl (.int k a) (.int k' (no_index (OfNat.ofNat n)))=some (.int k (wr k (a*2^(min (OfNat.ofNat n) k.bits)))):=rfl
@[simp] theorem aH8(k k':IntKind)(a:Int)(n:Nat):xt .shr (.int k a) (.int k' (n:Int))=some (.int k (a.fdiv (2^(min n k.bits)))):=rfl
@[simp] theorem aH9(k k':IntKind)(a:Int)(n:Nat):xt .shr (.int k a) (.int k' (no_index (OfNat.ofNat n)))=some (.int k (a.fdiv (2^(min (OfNat.ofNat n) k.bits)))):=rfl
@[simp] theorem aIa(k:IntKind)(a b:Int):iI .add k a b=some (.int k (wr k (a+b))):=rfl
@[simp] theorem aIb(k:IntKind)(a b:Int):iI .sub k a b=some (.int k (wr k (a-b))):=rfl
@[simp] theorem aIc(k:IntKind)(a b:Int):iI .mul k a b=some (.int k (wr k (a*b))):=rfl
theorem Rm(k:IntKind)(a b:Int)(h:b≠0):iI .quo k a b=some (.int k (wr k (a.tdiv b))):=by
 show(bif jO b 0 then none else _)=_;rw[Dam.sd,show(b==0)=false by simpa using h];rfl
theorem Rn(k:IntKind)(a b:Int)(h:b≠0):iI .rem k a b=some (.int k (a.tmod b)):=by
 show(bif jO b 0 then none else _)=_;rw[Dam.sd,show(b==0)=false by simpa using h];rfl
attribute [simp] Rm Rn
@[simp] theorem aId(k:IntKind)(a b:Int):iI .eql k a b=some (.bool (jO a b)):=rfl
@[simp] theorem aIe(k:IntKind)(a b:Int):iI .neq k a b=some (.bool (!jO a b)):=rfl
@[simp] theorem aIf(k:IntKind)(a b:Int):iI .lss k a b=some (.bool (lG a b)):=rfl
@[simp] theorem aIg(k:IntKind)(a b:Int):iI .leq k a b=some (.bool (!lG b a)):=rfl
@[simp] theorem aIh(k:IntKind)(a b:Int):iI .gtr k a b=some (.bool (lG b a)):=rfl
@[simp] theorem aIi(k:IntKind)(a b:Int):iI .geq k a b=some (.bool (!lG a b)):=rfl
theorem C5{a b:Nat}(aN:a<18446744073709551616)(ai:b<18446744073709551616):iI .or .u64 (a:Int) (b:Int)=some (.int .u64 ((a ||| b:Nat):Int)):=by
 have h:a ||| b<18446744073709551616:=Nat.or_lt_two_pow (n:=64) aN ai
 show some (Value.int .u64 (IntKind.wrap .u64 ((BitVec.ofInt 64 (a:Int) ||| BitVec.ofInt 64 (b:Int)).toNat:Int)))=_;rw[BitVec.ofInt_natCast,BitVec.ofInt_natCast,BitVec.toNat_or,BitVec.toNat_ofNat,BitVec.toNat_ofNat,q4 (by omega),q4 (by omega)];simp[IntKind.wrap,IntKind.bits,IntKind.signed];omega
theorem aAo{a b:Nat}(aN:a<18446744073709551616)(ai:b<18446744073709551616):iI .and .u64 (a:Int) (b:Int)=some (.int .u64 ((a &&& b:Nat):Int)):=by
 have h:a &&& b<18446744073709551616:=eD Nat.and_le_left aN;show some (Value.int .u64 (IntKind.wrap .u64 ((BitVec.ofInt 64 (a:Int) &&& BitVec.ofInt 64 (b:Int)).toNat:Int)))=_;rw[BitVec.ofInt_natCast,BitVec.ofInt_natCast,BitVec.toNat_and,BitVec.toNat_ofNat,BitVec.toNat_ofNat,q4 (by omega),q4 (by omega)];simp[IntKind.wrap,IntKind.bits,IntKind.signed];omega
theorem aAq{a b:Nat}(aN:a<4294967296)(ai:b<4294967296):iI .or .u32 (a:Int) (b:Int)=some (.int .u32 ((a ||| b:Nat):Int)):=by
 have h:a ||| b<4294967296:=Nat.or_lt_two_pow (n:=32) aN ai
 show some (Value.int .u32 (IntKind.wrap .u32 ((BitVec.ofInt 32 (a:Int) ||| BitVec.ofInt 32 (b:Int)).toNat:Int)))=_;rw[BitVec.ofInt_natCast,BitVec.ofInt_natCast,BitVec.toNat_or,BitVec.toNat_ofNat,BitVec.toNat_ofNat,q4 (by omega),q4 (by omega)];simp[IntKind.wrap,IntKind.bits,IntKind.signed];omega
theorem C6{a b i:Nat}(ai:b<2^i):(a*2^i) ||| b=a*2^i+b:=by
 rw[gw];exact(Nat.two_pow_add_eq_or_of_lt ai a).symm
@[simp] theorem aIj(a b:Nat):((a:Int)).tdiv (b:Int)=((a/b:Nat):Int):=rfl
@[simp] theorem aIk(a b:Nat):((a:Int)).tmod (b:Int)=((a%b:Nat):Int):=rfl
theorem aEA(a n:Nat):((a:Int)).tdiv (no_index (OfNat.ofNat n))=((a/OfNat.ofNat n:Nat):Int):=rfl
theorem aEB(a n:Nat):((a:Int)).tmod (no_index (OfNat.ofNat n))=((a%OfNat.ofNat n:Nat):Int):=rfl
attribute [simp] aEA aEB
theorem aEC(a n:Nat):((no_index (OfNat.ofNat n):Int)<(a:Int))=(OfNat.ofNat n<a):=by apply propext;exact Int.ofNat_lt
theorem aED(a n:Nat):((a:Int)<(no_index (OfNat.ofNat n):Int))=(a<OfNat.ofNat n):=by apply propext;exact Int.ofNat_lt
theorem aEE(a n:Nat):((no_index (OfNat.ofNat n):Int)<=(a:Int))=(OfNat.ofNat n<=a):=by apply propext;exact Int.ofNat_le
theorem aEF(a n:Nat):((a:Int)<=(no_index (OfNat.ofNat n):Int))=(a<=OfNat.ofNat n):=by apply propext;exact Int.ofNat_le
theorem aEG(a n:Nat):((a:Int)=(no_index (OfNat.ofNat n):Int))=(a=OfNat.ofNat n):=by apply propext;exact Int.ofNat_inj
attribute [simp] aEC aED aEE aEF aEG
@[simp] theorem aIl:IntKind.bits .u64=64:=rfl
@[simp] theorem aIm:IntKind.bits .u32=32:=rfl
@[simp] theorem aIn:IntKind.bits .i64=64:=rfl
theorem Rg(a b:Nat):((a:Int)).fdiv ((b:Nat):Int)=((a/b:Nat):Int):=by
 rw[bWL _ (by omega)];rfl
@[simp] theorem Kr(a:Nat):((a:Int)).fdiv 4294967296=((a/4294967296:Nat):Int):=Rg a 4294967296
attribute [simp] dA js ed Bool.cond_decide
@[simp] theorem aIo(k:IntKind)(n:Int):fG (.int k n)=true:=rfl
@[simp] theorem aIp(b:Bool):fG (.bool b)=true:=rfl
@[simp] theorem aIq(s:ByteArray):fG (.string s)=true:=rfl
@[simp] theorem aIr(a:Option Addr):fG (.pointer a)=true:=rfl
@[simp] theorem aIs(a:Option Addr)(n c:Nat):fG (.slice a n c)=true:=rfl
@[simp] theorem aIt(k:IntKind)(n:Int):(Value.int k n).cells=#[.int k n]:=rfl
@[simp] theorem aIu(b:Bool):(Value.bool b).cells=#[.bool b]:=rfl
@[simp] theorem aIv(s:ByteArray):(Value.string s).cells=#[.string s]:=rfl
@[simp] theorem aIw(a:Option Addr):(Value.pointer a).cells=#[.pointer a]:=rfl
@[simp] theorem aIx(a:Option Addr)(n c:Nat):(Value.slice a n c).cells=#[.slice a n c]:=rfl
@[simp] theorem aIy(a:Array Value):(Value.agg a).cells=a:=rfl
@[simp] theorem aIz(l:List Value):(c5 l).cells=l.toArray:=rfl
theorem setCells_one{cs:List Value}{i:Nat}{v:Value}(h:i<cs.length):setCells cs i [v]=some (cs.set i v):=by
 simp only[setCells,dA,List.length_singleton];rw[bZF (by omega)];simp only[cond_true];rw[List.set_eq_take_append_cons_drop,bm h];simp
theorem aEH{cs vs:List Value}(h:cs.length=vs.length):setCells cs 0 vs=some vs:=by
 simp only[setCells,dA];rw[bZF (by omega)];simp[h]
@[simp] theorem aIA(k:Nat):((k:Int)<0)=False:=by simp
attribute [simp] setCells_one aEH
theorem cU.pick[cn]{pm:Perm}{H:ah}(h:cU pm H)(aJ:ah):pm.pick aJ=aJ.next:=by unfold Perm.pick;rw[h.num]
theorem cU.make[cn]{pm:Perm}{H:ah}(h:cU pm H)(aJ:ah)(x:cj):pm.make aJ x=aJ.new x:=by unfold Perm.make;rw[h.num]
theorem rD[cn]{pm:Perm}{H:ah}(au:cU pm H){aJ:ah}{z:List Value}{bytes c:Nat}(U:c<=1073741824)(aa:bytes*c<=17179869184):
 (tu z bytes (some c) (some c)).run pm aJ=some (.slice (some ⟨aJ.next,0,none⟩) c c,aJ.new (.cells (times z c) (.n z.length))):=by
 unfold tu;simp[U,aa,bF.run,au.make,au.pick]
theorem aar{pm:Perm}{H:ah}{esz l h m cap c off:Nat}{cs:List Value}{z:dI}(ai:H.get c=some (.cells cs z))(bl:z.val=esz∨z.val=0)(U:l<=h)(aa:h<=m)(aq:m<=cap):
 (nK esz (some ⟨c,off,none⟩) l h m cap).run pm H=some (.slice (some ⟨c,off+l*esz,none⟩) (h-l) (m-l),H):=by
 unfold nK;simp[U,aa,aq,ai,bF.run]
 rcases bl with bl | bl<;>simp[bl]
theorem az9{pm:Perm}{H:ah}{esz l h m cap c off:Nat}{cs:List Value}(ai:H.get c=some (.ro cs))(U:l<=h)(aa:h<=m)(aq:m<=cap):
 (nK esz (some ⟨c,off,none⟩) l h m cap).run pm H=some (.slice (some ⟨c,off+l*esz,none⟩) (h-l) (m-l),H):=by
 unfold nK;simp[U,aa,aq,ai,bF.run]
theorem aAc{pm:Perm}{H:ah}{esz l h m cap:Nat}(U:l<=h)(aa:h<=m)(aq:m<=cap):
 (nK esz none l h m cap).run pm H=some (.slice none (h-l) (m-l),H):=by
 unfold nK;simp[U,aa,aq,bF.run]
theorem zy{H:ah}{x:cj}{b:Nat}(h:b<H.next):(H.new x).get b=H.get b:=by rw[ah.qa,aU (by omega)]
@[simp] theorem dT{H:ah}{x:cj}:(H.new x).get H.next=some x:=by rw[ah.qa,bm rfl]
@[simp] theorem dX{H:ah}{x:cj}{b:Nat}:(H.put b x).get b=some x:=by rw[ah.fS,bm rfl]
theorem bZv{A H:ah}{x:cj}{b:Nat}(h:A=H.put b x):A.get b=some x:=by rw[h];exact dX
theorem bZp{A H:ah}{x:cj}{p:Nat}(h:A=H.new x)(aC:p=H.next):A.get p=some x:=by rw[h,aC];exact dT
theorem bXb{H:ah}{p:Nat}(aC:p=H.next):∀x,(H.new x).get p=some x:=λx=>by rw[aC];exact dT
theorem bV{A H:ah}{x:cj}{p:Nat}(h:A=H.new x)(aC:p=H.next):A.next=p+1:=by rw[h,aC];rfl
theorem bXO{A H:ah}{x y:cj}{p q:Nat}(h:A=(H.new x).put q y)(aC:p=H.next):A.next=p+1:=by rw[h,aC];rfl
theorem cq{H:ah}{x:cj}{b c:Nat}(h:c≠b):(H.put b x).get c=H.get c:=by rw[ah.fS,aU h]
@[simp] theorem aIB{H:ah}{x:cj}:(H.new x).next=H.next+1:=rfl
@[simp] theorem TI{H:ah}{x:cj}{b:Nat}:(H.put b x).next=H.next:=rfl
@[simp] theorem aIC(lo:Nat)(ok:List Nat)(H:ah):(Perm.mk lo ok none).pick H=H.next:=rfl
def ah.up(H:ah)(n:Nat):ah:=⟨H.t,H.next+n⟩
@[simp] theorem zY(H:ah)(n b:Nat):(H.up n).get b=H.get b:=rfl
@[simp] theorem aID(H:ah)(n:Nat):(H.up n).next=H.next+n:=rfl
theorem b6.up[cn]{pm:Perm}{H H':ah}(h:b6 pm H H')(n:Nat):b6 pm H (H'.up n) where
 ok:=⟨h.ok.num,bH h.ok.lo (hS _ _),λb ai=>by rw[zY];exact h.ok.wf b (bH (hS _ _) ai),λb ai=>h.ok.new b (bH (hS _ _) ai)⟩
 next:=bH h.next (hS _ _)
 get:=λb ai=>h.get b ai
def At(o:aE)(l:bQ)(H:ah):Option Value:=match l7 o l,o.op with
 | some true,.load agg n a=>ik H agg n (bB (kt l) a)
 | _,_=>none
def UA(r r':Rec):Prop:=r'.xz=r.xz/\r'.se=r.se/\r'.heap=r.heap/\r'.val=r.val/\∀H u,r.again H=some u->r'.again H=some u
inductive tm:List Rec->List Rec->Prop
 | nil:tm [] []
 | cons {r r':Rec} {l l':List Rec} (h:UA r r') (t:tm l l'):tm (r::l) (r'::l')
def stepT(pm:Perm)(o:aE)(l:bQ)(H:ah):Option (Value×ah×List Nat×List Nat):=match l7 o l with
 | some true=>(o.op.cA (kt l)).runT pm H
 | some false=>some (zWb,H,[],[])
 | none=>none
section
variable(X:aY)(pm:Perm)
abbrev Fin:=List Rec->bQ->ah->Prop
def ast(fx:List Bool)(os:List aE)(b:Nat)(e:Env)(H:ah)(acc:List Rec)(fin:Fin):Prop:=
 ∃bw H' eS,o6 (λm d=>me (X.K m d) pm os b fx e H=some (bw,H',eS))/\∃l' asu,lz bw l'/\tm asu eS/\fin (acc.reverse++asu) l' H'
def asv(fx:List Bool)(os:List aE)(b:Nat)(l:bQ)(H:ah)(acc:List Rec)(fin:Fin):Prop:=∀e,lz e l->ast X pm fx os b e H acc fin
def g'(o:aE)(f:FuncId)(args:List cD)(fx:List Bool)(os:List aE)(b0 k:Nat)(l:bQ)(H:ah)(acc:List Rec)(fin:Fin):Prop:=
 asv X pm fx ({o with op:=.call f args}::os) (b0+k) l H acc fin
def mL(fx:List Bool)(os:List aE)(b0 k:Nat)(l:bQ)(H:ah)(acc:List Rec)(fin:Fin):Prop:=match os with
 | []=>fin acc.reverse l H
 | o::os=>match o.op with
   | .call f args=>g' X pm o f args fx os b0 k l H acc fin
   | .mP ..=>False
   | _=>H.get (b0+k)=none/\(match stepT ⟨pm.lo,pm.ok,some (b0+k)⟩ o l H with
     | some (v,H',f,m)=>mL fx.tail os b0 (k+1) (ly l o.dst v) H' (⟨f,m,H,v,At o l⟩::acc) fin
     | none=>False)
end
theorem aEI{e:Env}{l:bQ}(he:lz e l){o:aE}{H:ah}{u:Value}(h:At o l H=some u):o.again e H=some u:=by
 unfold At at h;unfold aE.again;split at h
 ·rename_i agg n a aK au;rw[tf he aK,au];simp only
  cases aw:bB (kt l) a with
  | none=>rw[aw]at h;simp[ik]at h
  | some v=>rw[he.xi.bB aw];rw[aw]at h;exact h
 ·cases h
theorem aEJ{e:Env}{l:bQ}(he:lz e l){o:aE}{K:c8}{pm:Perm}{fx:Bool}{H:ah}{r:Value×ah×List Nat×List Nat}(af:Hg o.op=false)(aG:stepT pm o l H=some r):o.runT K pm fx e H=some r:=by
 unfold stepT at aG;unfold aE.runT;split at aG
 ·rename_i aK;rw[tf he aK];simp only;have:o.op.dL=false:=by cases au:o.op<;>first | rfl | (rw[au]at af;cases af)
  unfold bM.runT;rw[this];exact(ac6 he.xi _).runT aG
 ·rename_i aK;rw[tf he aK];exact aG
 ·cases aG
section
variable{X:aY}{pm:Perm}
theorem Hk{fin:Fin}:∀{os:List aE} {fx:List Bool} {b0 k:Nat} {l:bQ} {H:ah} {acc:List Rec},mL X pm fx os b0 k l H acc fin->asv X pm fx os (b0+k) l H acc fin
 | [],fx,b0,k,l,H,acc,h,e,he=>⟨e,H,[],.of λ_ _=>by simp only[me],l,[],he,.nil,by simpa [mL]using h⟩
 | o::os,fx,b0,k,l,H,acc,h,e,he=>by
   have plain:Hg o.op=false->(H.get (b0+k)=none/\(match stepT ⟨pm.lo,pm.ok,some (b0+k)⟩ o l H with
    | some (v,H',f,m)=>mL X pm fx.tail os b0 (k+1) (ly l o.dst v) H' (⟨f,m,H,v,At o l⟩::acc) fin
    | none=>False))->ast X pm fx (o::os) (b0+k) e H acc fin:=by
    rintro af ⟨ai,h⟩;split at h
    ·rename_i v H1 f m aG;obtain⟨bw,H',eS,U,l',pH,aa,a8,aq⟩:=Hk h _ (he.put o.dst v);refine⟨bw,H',⟨f,m,H,v,o.again e⟩::eS,U.map λm d p=>?_,l',⟨f,m,H,v,At o l⟩::pH,aa,.cons ⟨rfl,rfl,rfl,rfl,λ_ _=>aEI he⟩ a8,by simpa using aq⟩;have an:=aEJ (K:=X.K m d) (fx:=fx.headD false) he af aG;simp only[me,ai,an,bYb,p]
    ·exact h.elim
   unfold mL at h;split at h
   ·rename_i f args au;have:({o with op:=.call f args}:aE)=o:=by cases o;simp only at au;subst au;rfl
    unfold g' at h;rw[this]at h;exact h e he
   ·exact h.elim
   ·rename_i U aa;refine plain ?_ h;cases au:o.op<;>first | rfl | exact absurd au (U _ _) | exact absurd au (aa _ _)
theorem g'.of{o:aE}{f:FuncId}{args:List cD}{fx:List Bool}{os:List aE}{b0 k:Nat}{l:bQ}{H:ah}{acc:List Rec}{fin:Fin}{vs:List Value}{R:Value->ah->Prop}(ai:H.get (b0+k)=none)
 (aK:l7 o l=some true) (aN:fD (kt l) args=some vs) (az:fx.headD false=false) (h:Call X ⟨H.next,gI ⟨pm.lo,pm.ok,some (b0+k)⟩ vs,none⟩ f vs H R)
 (eF:∀v H1,R v H1->mL X pm fx.tail os b0 (k+1) (ly l o.dst v) H1 (⟨[],gI ⟨pm.lo,pm.ok,some (b0+k)⟩ vs,H,v,λ_=>none⟩::acc) fin):g' X pm o f args fx os b0 k l H acc fin:=by
 intro e he;obtain⟨v,H1,an,dD⟩:=h;obtain⟨bw,H',eS,U,l',pH,aa,a8,aq⟩:=Hk (eF v H1 dD) _ (he.put o.dst v);refine⟨bw,H',⟨[],gI ⟨pm.lo,pm.ok,some (b0+k)⟩ vs,H,v,({o with op:=.call f args}:aE).again e⟩::eS,an.rm U λm d p q=>?_,l',(⟨[],gI ⟨pm.lo,pm.ok,some (b0+k)⟩ vs,H,v,λ_=>none⟩:Rec)::pH,aa,.cons ⟨rfl,rfl,rfl,rfl,λ_ _ h=>(by cases h)⟩ a8,by simpa using aq⟩;have hw:({o with op:=.call f args}:aE).wanted e=some true:=tf he aK;have aw:=he.xi.fD aN;have aEK:(bM.call f args).y7 ⟨pm.lo,pm.ok,some (b0+k)⟩ e=gI ⟨pm.lo,pm.ok,some (b0+k)⟩ vs:=by simp only[bM.y7,aw]
 have d':(bM.call f args).dL=true:=rfl;simp only[me,ai,aE.runT,hw,bM.runT,d',cond_true,az,cond_false,aEK,bM.run,aw,p,bYb,q]
theorem g'.fixed{o:aE}{f:FuncId}{args:List cD}{fx:List Bool}{os:List aE}{b0 k:Nat}{l:bQ}{H:ah}{acc:List Rec}{fin:Fin}{vs:List Value}{R:Value->ah->Prop}(ai:H.get (b0+k)=none)
 (aK:l7 o l=some true) (aN:fD (kt l) args=some vs) (az:fx.headD false=true) (h:Call X ⟨pm.lo,pm.ok,none⟩ f vs H R)
 (eF:∀v H1,R v H1->mL X pm fx.tail os b0 (k+1) (ly l o.dst v) H1 (⟨[],[],H,v,λ_=>none⟩::acc) fin):g' X pm o f args fx os b0 k l H acc fin:=by
 intro e he;obtain⟨v,H1,an,dD⟩:=h;obtain⟨bw,H',eS,U,l',pH,aa,a8,aq⟩:=Hk (eF v H1 dD) _ (he.put o.dst v);refine⟨bw,H',⟨[],[],H,v,({o with op:=.call f args}:aE).again e⟩::eS,an.rm U λm d p q=>?_,l',(⟨[],[],H,v,λ_=>none⟩:Rec)::pH,aa,.cons ⟨rfl,rfl,rfl,rfl,λ_ _ h=>(by cases h)⟩ a8,by simpa using aq⟩;have hw:({o with op:=.call f args}:aE).wanted e=some true:=tf he aK;have aw:=he.xi.fD aN;have d':(bM.call f args).dL=true:=rfl;simp only[me,ai,aE.runT,hw,bM.runT,d',cond_true,az,bM.run,aw,p,bYb,q]
theorem g'.not{o:aE}{f:FuncId}{args:List cD}{fx:List Bool}{os:List aE}{b0 k:Nat}{l:bQ}{H:ah}{acc:List Rec}{fin:Fin}(ai:H.get (b0+k)=none)
 (aK:l7 o l=some false) (eF:mL X pm fx.tail os b0 (k+1) (ly l o.dst zWb) H (⟨[],[],H,zWb,λ_=>none⟩::acc) fin):g' X pm o f args fx os b0 k l H acc fin:=by
 intro e he;obtain⟨bw,H',eS,U,l',pH,aa,a8,aq⟩:=Hk eF _ (he.put o.dst zWb);refine⟨bw,H',⟨[],[],H,zWb,({o with op:=.call f args}:aE).again e⟩::eS,U.map λm d q=>?_,l',(⟨[],[],H,zWb,λ_=>none⟩:Rec)::pH,aa,.cons ⟨rfl,rfl,rfl,rfl,λ_ _ h=>(by cases h)⟩ a8,by simpa using aq⟩;have hw:({o with op:=.call f args}:aE).wanted e=some false:=tf he aK;simp only[me,ai,aE.runT,hw,bYb,q]
theorem tm.length{l l':List Rec}(h:tm l l'):l'.length=l.length:=by
 induction h with
 | nil=>rfl
 | cons _ _ ih=>simp[ih]
theorem tm.get{l l':List Rec}(h:tm l l'):∀(i:Nat) (r:Rec),l[i]? = some r->∃r',l'[i]? = some r'/\UA r r':=by
 induction h with
 | nil=>intro i r h;simp at h
 | cons h _ ih=>
   intro i r an
   cases i with
   | zero=>simp at an;subst an;exact⟨_,rfl,h⟩
   | succ i=>simpa using ih i r (by simpa using an)
theorem asw{r r':Rec}(h:UA r r'){H:ah}(q:xA r.again r.val H=true):xA r'.again r'.val H=true:=by
 unfold xA at q|-
 cases hu:r.again H with
 | none=>rw[hu]at q;cases q
 | some u=>rw[h.2.2.2.2 H u hu,h.2.2.2.1];rw[hu]at q;exact q
theorem aEL{l l':List Rec}(h:tm l l'){H:ah}{c:List (Nat×Nat)}(q:dx l H c=true):dx l' H c=true:=by
 unfold dx at q|-;rw[hz]at q|-;rintro⟨i,j⟩ aC;have q:=q (i,j) aC;dsimp only at q|-
 cases ad:l[i]? with
 | none=>rw[ad]at q;cases q
 | some x=>
   cases aH:l[j]? with
   | none=>rw[ad,aH]at q;cases q
   | some y=>
     obtain⟨cZ,az,mK⟩:=h.get i x ad;obtain⟨mi,bu,lx⟩:=h.get j y aH;rw[ad,aH]at q;rw[az,bu];simp only[cG,nE]at q|-;rw[mK.2.1,lx.2.1,lx.1];refine⟨q.1,q.2.imp id λq=>?_⟩;unfold HQ at q|-;simp only[cG,hz]at q|-;refine⟨λz bl=>?_,asw lx q.2⟩;obtain⟨k,ag⟩:=bWf bl;have sJ:=(nD.1 ag).1;have:∃z0,l[k]? = some z0:=⟨l[k]'(by rw[<-h.length];exact sJ),by simp⟩;obtain⟨z0,qj⟩:=this;obtain⟨aIE,asx,Nk⟩:=h.get k z0 qj;rw[ag]at asx;cases asx;rw[Nk.2.2.1];exact asw lx (q.1 z0 (fR qj))
theorem asy{l l':List Rec}(h:tm l l'){b0:Nat}:∀{a a':List Rec} {q:Nat},tm a a'->dm l b0 a q=true->dm l' b0 a' q=true
 | _,_,_,.nil,_=>rfl
 | _,_,q,.cons (r:=r) (r':=r') an aS,hm=>by
   simp only[dm,cG,hz]at hm|-;refine⟨λb ai=>?_,asy h aS hm.2⟩;rw[an.1]at ai;have:=hm.1 b ai;rw[h.length];revert this
   cases az:l[b-b0]? with
   | none=>
     have:l'[b-b0]? = none:=by
      rw[List.getElem?_eq_none_iff]at az|-;rw[h.length];exact az
     rw[this];exact id
   | some x=>
     obtain⟨cZ,qO,mK⟩:=h.get _ x az;rw[qO];simp only[mK.2.1];exact id
def asz(X:aY)(pm:Perm)(c:pc)(b0:Nat)(ks:List Fr)(Q:c'):Fin:=λrs l' H'=>dx rs H' c.oq=true/\dm rs b0 rs 0=true/\wp X pm (.res .normal) l' H' ks Q
@[simp] theorem aIF{c:pc}{b0:Nat}{ks:List Fr}{Q:c'}{rs:List Rec}{l':bQ}{H':ah}:asz X pm c b0 ks Q rs l' H'=(dx rs H' c.oq=true/\dm rs b0 rs 0=true/\wp X pm (.res .normal) l' H' ks Q):=rfl
theorem eg.of{os:List aE}{c:pc}{l:bQ}{H:ah}{ks:List Fr}{Q:c'}{yW:List aE}(ey:pm.lo<=H.next)(au:(dt os c.ord).map (·.2)=yW)
 (k:mL X pm c.fixed yW H.next 0 l (H.up os.length) [] (asz X pm c H.next ks Q)):eg X pm os (some c) l H ks Q:=by
 intro e he;obtain⟨bw,H',eS,U,l',pH,aa,dj,aq,a8,cg⟩:=Hk k e he;simp only[List.reverse_nil,bXK]at aq a8;refine⟨.normal,bw,H',U.map λm d p=>?_,qX cg bw aa⟩;have p:me (X.K m d) pm ((dt os c.ord).map (·.2)) H.next c.fixed e ⟨H.t,H.next+os.length⟩=some (bw,H',eS):=by rw[au];exact p
 have ai:Nat.ble pm.lo H.next=true:=by rw[dA];simpa using ey
 simp only[eval,vy,ai,cond_true,p,aEL dj aq,asy dj dj a8,Bool.and_self]
@[simp] theorem aIG{fx:List Bool}{b0 k:Nat}{l:bQ}{H:ah}{acc:List Rec}{fin:Fin}:mL X pm fx [] b0 k l H acc fin=fin acc.reverse l H:=by simp only[mL]
@[simp] theorem aIH{o:aE}{os:List aE}{fx:List Bool}{b0 k:Nat}{l:bQ}{H:ah}{acc:List Rec}{fin:Fin}:mL X pm fx (o::os) b0 k l H acc fin=(match o.op with
  | .call f args=>g' X pm o f args fx os b0 k l H acc fin
  | .mP ..=>False
  | _=>H.get (b0+k)=none/\(match stepT ⟨pm.lo,pm.ok,some (b0+k)⟩ o l H with
    | some (v,H',f,m)=>mL X pm fx.tail os b0 (k+1) (ly l o.dst v) H' (⟨f,m,H,v,At o l⟩::acc) fin
    | none=>False)):=by rw[mL]
attribute [simp] stepT bF.runT
theorem aBq{H:ah}{z:List Value}{bytes l c lo b:Nat}{okl:List Nat}(aO:l<=c)(U:c<=1073741824)(aa:bytes*c<=17179869184):
 (tu z bytes (some l) (some c)).runT ⟨lo,okl,some b⟩ H=some (.slice (some ⟨b,0,none⟩) l c,H.put b (.cells (times z c) (.n z.length)),[],[b]):=by
 unfold tu;simp[aO,U,aa,bF.runT,Perm.make,Perm.pick]
def bF.calm:bF->Prop
 | .ret _ | .fail=>True
 | .get _ k=>∀x,(k x).calm
 | _=>False
theorem asA{c:Bool}{x y:bF}(az:x.calm)(bu:y.calm):(bif c then x else y).calm:=by cases c<;>assumption
theorem aEM{o:bM}{e:Env}(h:(o.md||o.lJ)=false):(o.cA e).calm:=by
 cases o<;>first | (simp[bM.md,bM.lJ]at h;done) | skip
 case conv c x=>
  cases c<;>first | (simp[bM.md,bM.lJ]at h;done) | skip
  all_goals simp only[bM.cA,eN,q7,hV]
  all_goals repeat' (first | trivial | (intro _;dsimp only) | (intro _) | (refine asA ?_ ?_) | split)
 all_goals simp only[bM.cA,eN,hU,pX,sa,nK,vt,y4,xu,pY,vo,vp,vq,xv]
 all_goals repeat' (first | trivial | (intro _;dsimp only) | (intro _) | (refine asA ?_ ?_) | split)
theorem asB:∀(x:bF) {pm pm':Perm} {H H':ah} {v:Value},x.calm->x.run pm H=some (v,H')->H'=H/\∃f,x.runT pm' H=some (v,H,f,[])/\∀b∈f,∃y,H.get b=some y
 | .ret u,pm,pm',H,H',v,_,h=>by
   simp only[bF.run,a6,c2]at h;obtain⟨rfl,rfl⟩:=h;exact⟨rfl,[],rfl,λ_ h=>by cases h⟩
 | .fail,_,_,_,_,_,_,h=>by cases h
 | .get b k,pm,pm',H,H',v,aV,h=>by
   simp only[bF.run]at h;split at h
   ·rename_i x az;obtain⟨rfl,f,U,aa⟩:=asB (k x) (pm':=pm') (aV x) h;refine⟨rfl,b::f,by simp only[bF.runT,az,U],λc af=>?_⟩
    rcases lD.1 af with rfl | af
    ·exact⟨x,az⟩
    ·exact aa c af
   ·cases h
def LZ(o:aE):Bool:=!(o.op.md||o.op.lJ||Hg o.op)
theorem UB{b0:Nat}{K:c8}{H:ah}(hw:∀b y,H.get b=some y->b<b0):∀{os:List aE} {fx:List Bool} {b:Nat} {e bw:Env} {H':ah},os.all LZ=true->b0<=b->mQ K pm os e H=some (bw,H')->
 H'=H/\∃eS,me K pm os b fx e H=some (bw,H,eS)/\∀r∈eS,r.se=[]/\∀c∈r.xz,c<b0
 | [],fx,b,e,bw,H',_,_,h=>by
   simp only[mQ,a6,c2]at h;obtain⟨rfl,rfl⟩:=h;exact⟨rfl,[],by simp only[me],λ_ h=>by cases h⟩
 | o::os,fx,b,e,bw,H',af,ai,h=>by
   simp only[bYm,cG]at af;obtain⟨hb,kC⟩:=af;simp only[LZ,mN,Bool.or_eq_false_iff]at hb;have d':o.op.dL=false:=by cases au:o.op<;>first | rfl | (have:=hb.2;rw[au]at this;cases this)
   have o0:H.get b=none:=by
    cases aV:H.get b with
    | none=>rfl
    | some y=>have:=hw b y aV;omega
   simp only[mQ]at h;split at h
   ·rename_i v H1 an;have oA:H1=H/\∃f,o.runT K ⟨pm.lo,pm.ok,some b⟩ (fx.headD false) e H=some (v,H,f,[])/\∀c∈f,c<b0:=by
     unfold aE.run at an;unfold aE.runT
     cases KJ:o.wanted e with
     | none=>rw[KJ]at an;cases an
     | some t=>
       rw[KJ]at an
       cases t with
       | false=>
         simp only[a6,c2]at an;obtain⟨rfl,rfl⟩:=an;exact⟨rfl,[],rfl,λ_ h=>by cases h⟩
       | true=>
         simp only at an;rw[ac7 hb.2]at an;obtain⟨U,f,aa,aq⟩:=asB (o.op.cA e) (pm':=⟨pm.lo,pm.ok,some b⟩) (aEM (by simp[hb.1.1,hb.1.2])) an;refine⟨U,f,?_,λc k9=>by obtain⟨y,bu⟩:=aq c k9;exact hw c y bu⟩;simp only;unfold bM.runT;rw[d'];exact aa
    obtain⟨rfl,f,aa,aq⟩:=oA;obtain⟨rfl,eS,a8,cg⟩:=UB hw (fx:=fx.tail) (b:=b+1) kC (by omega) h;refine⟨rfl,⟨f,[],H',v,o.again e⟩::eS,by simp only[me,o0,aa,a8],λr an=>?_⟩
    rcases lD.1 an with rfl | an
    ·exact⟨rfl,aq⟩
    ·exact cg r an
   ·cases h
theorem eg.calm[cn]{os:List aE}{c:pc}{l:bQ}{H:ah}{ks:List Fr}{Q:c'}{yW:List aE}(dM:cU pm H)(aC:c.oq=[])(au:(dt os c.ord).map (·.2)=yW)(af:yW.all LZ=true)
 (k:wp X pm (.ops yW) l (H.up os.length) ks Q):eg X pm os (some c) l H ks Q:=by
 intro e he;obtain⟨bw,H',U,aa⟩:=qX k e he;have hw:∀b y,(H.up os.length).get b=some y->b<H.next:=λb y bu=>dM.lt bu;obtain⟨N,U⟩:=U;obtain⟨vw,_⟩:=UB (K:=X.K N N) (pm:=pm) hw (fx:=c.fixed) (b:=H.next) af (bR _) (U N N (bR _) (bR _));subst vw;refine⟨.normal,bw,_,⟨N,λm d hm aB=>?_⟩,aa⟩;obtain⟨_,eS,aq,a8⟩:=UB (K:=X.K m d) (pm:=pm) hw (fx:=c.fixed) (b:=H.next) af (bR _) (U m d hm aB);have p:me (X.K m d) pm ((dt os c.ord).map (·.2)) H.next c.fixed e ⟨H.t,H.next+os.length⟩=some (bw,H.up os.length,eS):=by rw[au];exact aq
 have ai:Nat.ble pm.lo H.next=true:=by rw[dA];simpa using dM.lo
 have Ms:∀(all rs:List Rec) (q:Nat),(∀r∈rs,∀c∈r.xz,c<H.next)->dm all H.next rs q=true:=by
  intro all rs
  induction rs with
  | nil=>intro q _;rfl
  | cons r rs ih=>
    intro q h;simp only[dm,cG];refine⟨?_,ih (q+1) λr an=>h r (.tail _ an)⟩;rw[hz];intro c af;have:=h r (.head _) c af;simp[js,this]
 have Mr:dx eS (H.up os.length) c.oq=true:=by rw[aC];rfl
 simp only[eval,vy,ai,cond_true,p,Mr,Ms eS eS 0 λr an=>(a8 r an).2,Bool.and_self]
theorem eg.E7[cn]{os:List aE}{c:pc}{l:bQ}{H:ah}{ks:List Fr}{Q:c'}(dM:cU pm H)(aC:c.oq=[])(au:(dt os c.ord).map (·.2)=os)(af:os.all LZ=true)
 (k:wp X pm (.ops os) l (H.up os.length) ks Q):eg X pm os (some c) l H ks Q:=eg.calm dM aC au af k
end
end Go.Dam
namespace Go.Dam.C
open Go Go.Dam
@[simp] def m(a b:Nat):aE:=⟨some a,none,.aM (.t b)⟩
@[simp] def o(a:Nat)(x:bM):aE:=⟨some a,none,x⟩
@[simp] def a1(d a:Nat):aE:=o d (.load false 1 (.t a))
@[simp] def eR(d n a:Nat):aE:=o d (.load true n (.t a))
@[simp] def bq(d k a:Nat):aE:=o d (.fieldAddr k (.t a))
@[simp] def bP(d w a b:Nat):aE:=o d (.ho w (.t a) (.t b))
@[simp] def c7(w a b:Nat):aE:=⟨none,none,.store w (.t a) (.t b)⟩
@[simp] def b7(d:Nat)(p:BinOp)(a b:Nat):aE:=o d (.bin p .aZ (.t a) (.t b))
@[simp] def aHD(d:Nat)(p:BinOp)(a n:Nat):aE:=o d (.bin p .aZ (.t a) (.c (.int .i64 (.ofNat n))))
@[simp] def aHE(d n:Nat):aE:=o d (.aM (.c (.int .i64 (.ofNat n))))
@[simp] def ct(d a:Nat):aE:=o d (.len .l (.t a))
@[simp] def b5(d a i:Nat):aE:=o d (.extract (.t a) i)
@[simp] def dq(d a:Nat):aE:=o d (.nilCheck (.t a))
@[simp] def jo(d a:Nat):aE:=o d (.un .not (.t a))
@[simp] def hn(d n a:Nat):aE:=o d (.box n (.t a))
@[simp] def bX(d f a:Nat):aE:=o d (.call f [.t a])
@[simp] def ch(d f a b:Nat):aE:=o d (.call f [.t a,.t b])
@[simp] def o9(d f a b c:Nat):aE:=o d (.call f [.t a,.t b,.t c])
@[simp] def ay(l:List aE)(x:ae):ae:=.seq (.aT l) x
@[simp] def dV(a n:Nat):ae:=.cond (.t a) .skip (.exit n)
abbrev ci(n:Nat):cD:=.c (.int .i64 (.ofNat n))
@[simp] def bZe(d:Nat):aE:=o d (.aM (.c (.bool false)))
@[simp] def bZu(d:Nat):aE:=o d (.aM (.c (.bool true)))
@[simp] def bZg(d:Nat):aE:=o d (.aM (.c (.pointer none)))
@[simp] def bZx(d:Nat):aE:=o d (.aM (.c (.slice none 0 0)))
@[simp] def bZc(d g:Nat)(x:bM):aE:=⟨some d,some (g,true),x⟩
@[simp] def bZd(d g:Nat)(x:bM):aE:=⟨some d,some (g,false),x⟩
def gn(a b:Nat):List Bool:=List.replicate a false++List.replicate b true
def F.ja:Nat:=54
def F.fB:Nat:=99
def F.jm:Nat:=134
def F.eK:Nat:=117
def F.oD:Nat:=95
def F.rn:Nat:=129
def F.rp:Nat:=135
def F.na:Nat:=97
def F.wE:Nat:=130
def F.qR:Nat:=245
def F.rU:Nat:=206
def F.rV:Nat:=209
def F.qS:Nat:=211
def F.uK:Nat:=118
def F.wF:Nat:=210
def F.qm:Nat:=137
def F.uL:Nat:=207
def F.wG:Nat:=208
def F.wH:Nat:=136
def F.uM:Nat:=63
def F.sY:Nat:=88
def F.sZ:Nat:=201
def F.wI:Nat:=328
def F.wJ:Nat:=55
def F.Uw:Nat:=119
def F.Ux:Nat:=128
def F.Uy:Nat:=120
def F.Hh:Nat:=127
def F.tg:Nat:=87
def F.th:Nat:=86
def F.oE:Nat:=89
def F.lW:Nat:=62
def F.tQ:Nat:=98
def F.kp:Nat:=18
def F.pr:Nat:=90
def F.mI:Nat:=23
def F.nx:Nat:=38
def F.tR:Nat:=96
def F.kG:Nat:=50
def F.nV:Nat:=80
def F.nW:Nat:=52
def F.ke:Nat:=53
def F.oG:Nat:=51
def F.k7:Nat:=64
def F.gE:Nat:=39
def F.tS:Nat:=246
def F.su:Nat:=114
def F.O9:Nat:=4
def F.ll:Nat:=26
def F.ti:Nat:=125
def F.tj:Nat:=126
def F.tk:Nat:=190
def F.xj:Nat:=191
def F.vl:Nat:=266
def F.Uz:Nat:=341
def F.pt:Nat:=122
def F.kJ:Nat:=57
def F.vR:Nat:=70
def F.vS:Nat:=72
def F.pv:Nat:=25
def F.vT:Nat:=69
def F.tW:Nat:=71
def F.qt:Nat:=46
def F.vV:Nat:=58
def F.ub:Nat:=20
def F.vW:Nat:=42
def F.sy:Nat:=65
def F.uc:Nat:=93
def F.vX:Nat:=121
def F.bYP:Nat:=44
def F.tX:Nat:=68
def F.tY:Nat:=67
def F.tZ:Nat:=24
def F.sw:Nat:=66
def F.t':Nat:=47
def F.ua:Nat:=15
def F.vU:Nat:=40
def F.sx:Nat:=91
def F.s7:Nat:=9
def F.pK:Nat:=73
def F.wV:Nat:=74
def F.wW:Nat:=27
def F.uY:Nat:=78
def F.uZ:Nat:=79
def F.u1:Nat:=123
def F.s8:Nat:=76
def F.wX:Nat:=77
def F.wY:Nat:=75
def F.wZ:Nat:=28
def F.u2:Nat:=84
def F.u3:Nat:=34
def F.w1:Nat:=81
def F.u4:Nat:=124
def F.w2:Nat:=82
def F.w3:Nat:=30
def F.u5:Nat:=83
def F.u6:Nat:=31
def F.u7:Nat:=33
def F.w4:Nat:=29
def F.w5:Nat:=32
def F.w6:Nat:=6
def F.bYg:Nat:=35
def F.bYG:Nat:=7
def F.bYH:Nat:=37
def F.bYQ:Nat:=85
def F.bYs:Nat:=36
def F.wk:Nat:=5
def F.bYD:Nat:=8
def F.bYB:Nat:=11
def F.bYA:Nat:=10
def F.bYz:Nat:=41
def F.bYy:Nat:=92
def F.bYO:Nat:=3
def ac9:List aE:=[m 2 9]
def ada:ae:=ay (m 3 0::o 4 (.conv (.int .u32) (.t 3))::m 5 0::o 6 (.bin .shr .aZ (.t 5) (.c (.int .u64 (.ofNat 32))))::o 7 (.conv (.int .u32) (.t 6))::o 8 (.buildSlice [(.int .u32 (.ofNat 0)),(.int .u32 (.ofNat 0))] 1 2 [(0,1,(.t 4)),(1,1,(.t 7))])::bX 9 F.fB 8::ac9) .ret
@[simp] def ja:b2:=⟨10,(ay [bZg 2] ada),[.slot 2]⟩
def adb:ae:=ay [m 18 0,m 19 3,o 20 (.nG 1 (.t 18) none (some (.t 19)) none),o 21 (.build [(.slice none 0 0)] [(0,1,(.t 20))]),hn 22 203 21,m 2 22] .ret
def ade:ae:=.block 1 (.aT [m 16 3,o 17 (.bin .sub .aZ (.t 16) (ci 1)),m 3 17])
def adf:ae:=dV 15 0
def adg:ae:=.seq (ay [m 6 3,o 7 (.bin .gtr .aZ (.t 6) (ci 0)),m 8 7,bZc 9 8 (.aM (.t 0)),bZc 10 8 (.aM (.t 3)),bZc 11 8 (.bin .sub .aZ (.t 10) (ci 1)),bZc 12 8 (.ho 1 (.t 9) (.t 11)),bZc 13 8 (.load false 1 (.t 12)),bZc 14 8 (.bin .eql .aZ (.t 13) (.c (.int .u32 (.ofNat 0)))),o 15 (.pick (.t 8) (.t 14) (.c (.bool false)))] adf) ade
def adh:ae:=.seq (.block 0 (.loop adg)) adb
def adi:ae:=ay [m 4 0,ct 5 4,m 3 5] adh
@[simp] def fB:b2:=⟨23,(ay [bZg 2] adi),[.slot 2]⟩
def adj:ae:=ay [o 4 (.aM (.c (.int .u64 (.ofNat 0))))] .ret
def adk:ae:=.cond (.t 8) (ay [m 9 0,m 10 1,bP 11 1 9 10,a1 12 11,o 13 (.conv (.int .u64) (.t 12)),m 4 13] .ret) .skip
def adl:ae:=.seq (ay [m 5 1,m 6 0,ct 7 6,b7 8 .lss 5 7] adk) adj
@[simp] def jm:b2:=⟨14,(ay [o 4 (.aM (.c (.int .u64 (.ofNat 0))))] adl),[.slot 4]⟩
def adm:ae:=ay [m 5 0,dq 6 5,bq 7 0 6,a1 8 7,m 2 8] .ret
def adn:ae:=.cond (.t 4) (ay [bZx 2] .ret) .skip
def ado:ae:=.seq (ay [m 3 0,o 4 (.bin .eql (.nil .ptr) (.t 3) (.c (.pointer none)))] adn) adm
@[simp] def eK:b2:=⟨9,(ay [bZx 2] ado),[.slot 2]⟩
def adp:ae:=ay [o 4 (.aM (ci 0))] .ret
def adq:ae:=.aT [m 22 7,o 23 (.bin .sub .aZ (.t 22) (ci 1)),m 7 23]
def adr:ae:=ay [o 4 (.aM (ci 1))] .ret
def ads:ae:=.cond (.t 35) (ay [o 4 (.aM (.c (.int .i64 (.negSucc 0))))] .ret) .skip
def adt:ae:=.cond (.t 32) (.seq (ay [m 33 8,m 34 9,b7 35 .lss 33 34] ads) adr) .skip
def adu:ae:=ay [m 30 8,m 31 9,b7 32 .neq 30 31] adt
def adv:List aE:=[m 8 26,m 9 29]
def adw:List aE:=m 27 6::m 28 7::ch 29 F.jm 27 28::adv
def adx:ae:=.seq (.block 1 (ay (m 24 5::m 25 7::ch 26 F.jm 24 25::adw) adu)) adq
def ady:ae:=dV 21 0
def adz:ae:=.seq (ay [m 20 7,o 21 (.bin .geq .aZ (.t 20) (ci 0))] ady) adx
def adA:ae:=.block 0 (.loop adz)
def adB:ae:=.seq (ay [m 14 5,ct 15 14,m 16 6,ct 17 16,o 18 (.max2 (.t 15) (.t 17)),o 19 (.bin .sub .aZ (.t 18) (ci 1)),m 7 19] adA) adp
def adC:List aE:=[m 5 11,m 6 13]
def adD:List aE:=m 12 1::bX 13 F.eK 12::adC
def adE:ae:=ay (m 10 0::bX 11 F.eK 10::adD) adB
@[simp] def oD:b2:=⟨36,(ay [o 4 (.aM (ci 0))] adE),[.slot 4]⟩
def adF:List aE:=[m 4 44]
def adG:ae:=ay (m 43 7::bX 44 F.fB 43::adF) .ret
def adH:ae:=.aT [o 42 (.bin .add .aZ (.t 23) (ci 1)),m 23 42]
def adI:ae:=.aT [m 40 8,o 41 (.bin .shr .aZ (.t 40) (.c (.int .u64 (.ofNat 32)))),m 8 41]
def adJ:ae:=ay [m 35 7,m 36 9,m 37 8,o 38 (.conv (.int .u32) (.t 37)),bP 39 1 35 36,c7 1 39 38] adI
def adK:List aE:=[b7 33 .add 29 32,b7 34 .add 26 33,m 8 34]
def adL:List aE:=m 30 6::m 31 9::ch 32 F.jm 30 31::adK
def adM:ae:=ay (m 26 8::m 27 5::m 28 9::ch 29 F.jm 27 28::adL) adJ
def adN:ae:=.seq (.block 1 (ay [m 25 23,m 9 25] adM)) adH
def adO:ae:=.seq (dV 24 0) adN
def adP:ae:=ay [b7 24 .lss 23 22] adO
def adQ:ae:=.block 0 (.loop adP)
def adR:ae:=.seq (ay [m 21 7,ct 22 21,o 23 (.aM (ci 0))] adQ) adG
def adS:ae:=ay [o 8 (.aM (.c (.int .u64 (.ofNat 0))))] adR
def adT:ae:=ay [m 14 5,ct 15 14,m 16 6,ct 17 16,o 18 (.max2 (.t 15) (.t 17)),o 19 (.bin .add .aZ (.t 18) (ci 1)),o 20 (.mkSlice [(.int .u32 (.ofNat 0))] 4 (.t 19) (.t 19)),m 7 20] adS
def adU:List aE:=[m 5 11,m 6 13]
def adV:List aE:=m 12 1::bX 13 F.eK 12::adU
def adW:ae:=ay (m 10 0::bX 11 F.eK 10::adV) adT
@[simp] def rn:b2:=⟨45,(ay [bZg 4] adW),[.slot 4]⟩
def adX:List aE:=[m 4 47,bZu 5]
def adY:ae:=ay (m 46 8::bX 47 F.fB 46::adX) .ret
def adZ:ae:=.aT [o 45 (.bin .add .aZ (.t 24) (ci 1)),m 24 45]
def ad0:ae:=.aT [m 43 9,o 44 (.bin .shr .aZ (.t 43) (.c (.int .u64 (.ofNat 32)))),m 9 44]
def ad1:ae:=ay [m 38 8,m 39 10,m 40 9,o 41 (.conv (.int .u32) (.t 40)),bP 42 1 38 39,c7 1 42 41] ad0
def ad2:List aE:=[o 35 (.conv (.int .i64) (.t 34)),b7 36 .sub 31 35,b7 37 .add 27 36,m 9 37]
def ad3:List aE:=o 31 (.conv (.int .i64) (.t 30))::m 32 7::m 33 10::ch 34 F.jm 32 33::ad2
def ad4:ae:=ay (m 27 9::m 28 6::m 29 10::ch 30 F.jm 28 29::ad3) ad1
def ad5:ae:=.seq (.block 1 (ay [m 26 24,m 10 26] ad4)) adZ
def ad6:ae:=.seq (dV 25 0) ad5
def ad7:ae:=ay [b7 25 .lss 24 23] ad6
def ad8:ae:=.block 0 (.loop ad7)
def ad9:ae:=.seq (ay [m 22 8,ct 23 22,o 24 (.aM (ci 0))] ad8) adY
def aea:ae:=ay [o 9 (.aM (ci 0))] ad9
def aeb:ae:=ay [m 19 6,ct 20 19,o 21 (.mkSlice [(.int .u32 (.ofNat 0))] 4 (.t 20) (.t 20)),m 8 21] aea
def aec:List aE:=[m 6 16,m 7 18]
def aed:List aE:=m 17 1::bX 18 F.eK 17::aec
def aee:ae:=ay (m 15 0::bX 16 F.eK 15::aed) aeb
def aef:ae:=.cond (.t 14) (ay [bZg 4,bZe 5] .ret) .skip
def aeg:List aE:=[o 14 (.bin .lss .aZ (.t 13) (ci 0))]
def aeh:ae:=.seq (ay (m 11 0::m 12 1::ch 13 F.oD 11 12::aeg) aef) aee
@[simp] def rp:b2:=⟨48,(ay [bZg 4,bZe 5] aeh),[.slot 4,.slot 5]⟩
def aei:List aE:=[m 4 72]
def aej:ae:=ay (m 71 7::bX 72 F.fB 71::aei) .ret
def aek:ae:=.aT [o 70 (.bin .add .aZ (.t 25) (ci 1)),m 25 70]
def ael:ae:=.aT [m 62 7,m 63 8,m 64 6,ct 65 64,b7 66 .add 63 65,m 67 10,o 68 (.conv (.int .u32) (.t 67)),bP 69 1 62 66,c7 1 69 68]
def aem:ae:=.aT [o 61 (.bin .add .aZ (.t 32) (ci 1)),m 32 61]
def aen:ae:=.aT [m 59 10,o 60 (.bin .shr .aZ (.t 59) (.c (.int .u64 (.ofNat 32)))),m 10 60]
def aeo:ae:=ay [m 52 7,m 53 8,m 54 11,b7 55 .add 53 54,m 56 10,o 57 (.conv (.int .u32) (.t 56)),bP 58 1 52 55,c7 1 58 57] aen
def aep:ae:=ay [m 37 10,m 38 9,o 39 (.conv (.int .u64) (.t 38)),m 40 12,o 41 (.conv (.int .u64) (.t 40)),b7 42 .mul 39 41,m 43 7,m 44 8,m 45 11,b7 46 .add 44 45,bP 47 1 43 46,a1 48 47,o 49 (.conv (.int .u64) (.t 48)),b7 50 .add 42 49,b7 51 .add 37 50,m 10 51] aeo
def aeq:ae:=.seq (.block 3 (ay [m 34 32,bP 35 1 30 32,a1 36 35,m 11 34,m 12 36] aep)) aem
def aer:ae:=.seq (dV 33 2) aeq
def aes:ae:=ay [b7 33 .lss 32 31] aer
def aet:ae:=.block 2 (.loop aes)
def aeu:ae:=.seq (ay [m 30 6,ct 31 30,o 32 (.aM (ci 0))] aet) ael
def aev:ae:=ay [o 10 (.aM (.c (.int .u64 (.ofNat 0))))] aeu
def aew:ae:=.seq (.block 1 (ay [m 27 25,bP 28 1 23 25,a1 29 28,m 8 27,m 9 29] aev)) aek
def aex:ae:=.seq (dV 26 0) aew
def aey:ae:=ay [b7 26 .lss 25 24] aex
def aez:ae:=.block 0 (.loop aey)
def aeA:ae:=.seq (ay [m 23 5,ct 24 23,o 25 (.aM (ci 0))] aez) aej
def aeB:ae:=ay [m 17 5,ct 18 17,m 19 6,ct 20 19,b7 21 .add 18 20,o 22 (.mkSlice [(.int .u32 (.ofNat 0))] 4 (.t 21) (.t 21)),m 7 22] aeA
def aeC:List aE:=[m 5 14,m 6 16]
def aeD:List aE:=m 15 1::bX 16 F.eK 15::aeC
def aeE:ae:=ay (m 13 0::bX 14 F.eK 13::aeD) aeB
@[simp] def na:b2:=⟨73,(ay [bZg 4] aeE),[.slot 4]⟩
def aeF:List aE:=[b7 21 .add 12 20,m 2 21]
def aeG:ae:=ay (m 9 3::ct 10 9::o 11 (.bin .sub .aZ (.t 10) (ci 1))::o 12 (.bin .mul .aZ (ci 32) (.t 11))::m 13 3::m 14 3::ct 15 14::o 16 (.bin .sub .aZ (.t 15) (ci 1))::bP 17 1 13 16::a1 18 17::o 19 (.conv (.int .u64) (.t 18))::bX 20 F.sZ 19::aeF) .ret
def aeH:ae:=.cond (.t 8) (ay [o 2 (.aM (ci 0))] .ret) .skip
def aeI:ae:=.seq (ay [m 6 3,ct 7 6,o 8 (.bin .eql .aZ (.t 7) (ci 0))] aeH) aeG
def aeJ:List aE:=[m 3 5]
def aeK:ae:=ay (m 4 0::bX 5 F.eK 4::aeJ) aeI
@[simp] def wE:b2:=⟨22,(ay [o 2 (.aM (ci 0))] aeK),[.slot 2]⟩
def aeL:ae:=ay [o 2 (.aM (ci 0))] .ret
def aeM:ae:=.aT [o 21 (.bin .add .aZ (.t 8) (ci 1)),m 8 21]
def aeN:List aE:=[b7 20 .add 16 19,m 2 20]
def aeO:ae:=.cond (.t 14) (ay (m 15 3::o 16 (.bin .mul .aZ (ci 32) (.t 15))::m 17 4::o 18 (.conv (.int .u64) (.t 17))::bX 19 F.wI 18::aeN) .ret) .skip
def aeP:ae:=ay [m 13 4,o 14 (.bin .neq .aZ (.t 13) (.c (.int .u32 (.ofNat 0))))] aeO
def aeQ:ae:=.seq (.block 1 (ay [m 10 8,bP 11 1 6 8,a1 12 11,m 3 10,m 4 12] aeP)) aeM
def aeR:ae:=.seq (dV 9 0) aeQ
def aeS:ae:=ay [b7 9 .lss 8 7] aeR
def aeT:ae:=.block 0 (.loop aeS)
def aeU:List aE:=[ct 7 6,o 8 (.aM (ci 0))]
def aeV:ae:=.seq (ay (m 5 0::bX 6 F.eK 5::aeU) aeT) aeL
@[simp] def qR:b2:=⟨22,(ay [o 2 (.aM (ci 0))] aeV),[.slot 2]⟩
def aeW:ae:=ay [m 28 4,m 2 28,bZu 3] .ret
def aeX:ae:=.aT [o 27 (.bin .add .aZ (.t 15) (ci 1)),m 15 27]
def aeY:ae:=.aT [m 20 4,m 21 7,o 22 (.conv (.int .u64) (.t 21)),m 23 6,o 24 (.bin .mul .aZ (ci 32) (.t 23)),b7 25 .shl 22 24,b7 26 .or 20 25,m 4 26]
def aeZ:ae:=.seq (.block 1 (ay [m 17 15,bP 18 1 13 15,a1 19 18,m 6 17,m 7 19] aeY)) aeX
def ae0:ae:=.seq (dV 16 0) aeZ
def ae1:ae:=ay [b7 16 .lss 15 14] ae0
def ae2:ae:=.block 0 (.loop ae1)
def ae3:ae:=.seq (ay [m 13 5,ct 14 13,o 15 (.aM (ci 0))] ae2) aeW
def ae4:ae:=.cond (.t 12) (ay [o 2 (.aM (.c (.int .u64 (.ofNat 0)))),bZe 3] .ret) .skip
def ae5:ae:=.seq (ay [m 10 5,ct 11 10,o 12 (.bin .gtr .aZ (.t 11) (ci 2))] ae4) ae3
def ae6:List aE:=[m 5 9]
def ae7:ae:=ay (m 8 0::bX 9 F.eK 8::ae6) ae5
def ae8:ae:=ay [o 4 (.aM (.c (.int .u64 (.ofNat 0))))] ae7
@[simp] def rU:b2:=⟨29,(ay [o 2 (.aM (.c (.int .u64 (.ofNat 0)))),bZe 3] ae8),[.slot 2,.slot 3]⟩
def ae9:List aE:=[m 4 54]
def afa:ae:=ay (m 53 6::bX 54 F.fB 53::ae9) .ret
def afb:ae:=.aT [o 52 (.bin .add .aZ (.t 21) (ci 1)),m 21 52]
def afc:ae:=.aT [m 42 6,m 43 7,m 44 1,o 45 (.bin .quo .aZ (.t 44) (ci 32)),b7 46 .add 43 45,o 47 (.bin .add .aZ (.t 46) (ci 1)),m 48 9,o 49 (.bin .shr .aZ (.t 48) (.c (.int .u64 (.ofNat 32)))),o 50 (.conv (.int .u32) (.t 49)),bP 51 1 42 47,c7 1 51 50]
def afd:ae:=ay [m 31 6,m 32 7,m 33 1,o 34 (.bin .quo .aZ (.t 33) (ci 32)),b7 35 .add 32 34,bP 36 1 31 35,a1 37 36,m 38 9,o 39 (.conv (.int .u32) (.t 38)),b7 40 .or 37 39,bP 41 1 31 35,c7 1 41 40] afc
def afe:ae:=ay [m 26 8,o 27 (.conv (.int .u64) (.t 26)),m 28 1,o 29 (.bin .rem .aZ (.t 28) (ci 32)),b7 30 .shl 27 29,m 9 30] afd
def aff:ae:=.seq (.block 1 (ay [m 23 21,bP 24 1 19 21,a1 25 24,m 7 23,m 8 25] afe)) afb
def afg:ae:=.seq (dV 22 0) aff
def afh:ae:=ay [b7 22 .lss 21 20] afg
def afi:ae:=.block 0 (.loop afh)
def afj:ae:=.seq (ay [m 19 5,ct 20 19,o 21 (.aM (ci 0))] afi) afa
def afk:ae:=ay [m 12 5,ct 13 12,m 14 1,o 15 (.bin .quo .aZ (.t 14) (ci 32)),b7 16 .add 13 15,o 17 (.bin .add .aZ (.t 16) (ci 1)),o 18 (.mkSlice [(.int .u32 (.ofNat 0))] 4 (.t 17) (.t 17)),m 6 18] afj
def afl:List aE:=[m 5 11]
def afm:ae:=ay (m 10 0::bX 11 F.eK 10::afl) afk
@[simp] def rV:b2:=⟨55,(ay [bZg 4] afm),[.slot 4]⟩
def afn:List aE:=[m 4 46]
def afo:ae:=ay (m 45 6::bX 46 F.fB 45::afn) .ret
def afp:ae:=.aT [o 44 (.bin .add .aZ (.t 25) (ci 1)),m 25 44]
def afq:List aE:=[o 37 (.bin .shl .aZ (.t 36) (.c (.int .u64 (.ofNat 32)))),b7 38 .or 32 37,m 39 1,o 40 (.bin .rem .aZ (.t 39) (ci 32)),b7 41 .shr 38 40,o 42 (.conv (.int .u32) (.t 41)),bP 43 1 28 29,c7 1 43 42]
def afr:List aE:=m 33 5::m 34 7::o 35 (.bin .add .aZ (.t 34) (ci 1))::ch 36 F.jm 33 35::afq
def afs:ae:=.aT (m 28 6::m 29 7::m 30 5::m 31 7::ch 32 F.jm 30 31::afr)
def aft:ae:=.seq (.block 1 (ay [m 27 25,m 7 27] afs)) afp
def afu:ae:=.seq (dV 26 0) aft
def afv:ae:=ay [b7 26 .lss 25 24] afu
def afw:ae:=.block 0 (.loop afv)
def afx:ae:=.seq (ay [m 23 6,ct 24 23,o 25 (.aM (ci 0))] afw) afo
def afy:ae:=ay [m 20 5,ct 21 20,o 22 (.mkSlice [(.int .u32 (.ofNat 0))] 4 (.t 21) (.t 21)),m 6 22] afx
def afz:ae:=ay [m 16 5,m 17 1,o 18 (.bin .quo .aZ (.t 17) (ci 32)),o 19 (.nG 1 (.t 16) (some (.t 18)) none none),m 5 19] afy
def afA:List aE:=[m 4 15]
def afB:ae:=.cond (.t 14) (ay (o 15 (.call F.fB [(.c (.slice none 0 0))])::afA) .ret) .skip
def afC:ae:=.seq (ay [m 10 1,o 11 (.bin .quo .aZ (.t 10) (ci 32)),m 12 5,ct 13 12,b7 14 .geq 11 13] afB) afz
def afD:List aE:=[m 5 9]
def afE:ae:=ay (m 8 0::bX 9 F.eK 8::afD) afC
@[simp] def qS:b2:=⟨47,(ay [bZg 4] afE),[.slot 4]⟩
def afF:ae:=ay [m 37 6,m 38 7,m 4 37,m 5 38] .ret
def afG:ae:=.aT [m 17 8,o 18 (.bin .sub .aZ (.t 17) (ci 1)),m 8 18]
def afH:ae:=.aT [m 34 7,m 35 1,b7 36 .rem 34 35,m 7 36]
def afI:ae:=ay [m 27 6,m 28 8,m 29 7,m 30 1,b7 31 .quo 29 30,o 32 (.conv (.int .u32) (.t 31)),bP 33 1 27 28,c7 1 33 32] afH
def afJ:ae:=.seq (.block 1 (ay [m 19 7,o 20 (.bin .shl .aZ (.t 19) (.c (.int .u64 (.ofNat 32)))),m 21 0,m 22 8,bP 23 1 21 22,a1 24 23,o 25 (.conv (.int .u64) (.t 24)),b7 26 .or 20 25,m 7 26] afI)) afG
def afK:ae:=dV 16 0
def afL:ae:=.seq (ay [m 15 8,o 16 (.bin .geq .aZ (.t 15) (ci 0))] afK) afJ
def afM:ae:=.block 0 (.loop afL)
def afN:ae:=.seq (ay [m 12 0,ct 13 12,o 14 (.bin .sub .aZ (.t 13) (ci 1)),m 8 14] afM) afF
def afO:ae:=ay [o 7 (.aM (.c (.int .u64 (.ofNat 0))))] afN
def afP:ae:=ay [m 9 0,ct 10 9,o 11 (.mkSlice [(.int .u32 (.ofNat 0))] 4 (.t 10) (.t 10)),m 6 11] afO
@[simp] def uK:b2:=⟨39,(ay [bZx 4,o 5 (.aM (.c (.int .u64 (.ofNat 0))))] afP),[.slot 4,.slot 5]⟩
def afQ:ae:=ay [m 168 7,o 169 (.bin .sub .aZ (.t 168) (.c (.int .u64 (.ofNat 1)))),o 170 (.conv (.int .u32) (.t 169)),m 4 170] .ret
def afR:ae:=ay [m 160 0,m 161 5,bP 162 1 160 161,a1 163 162,m 164 13,o 165 (.conv (.int .u32) (.t 164)),b7 166 .add 163 165,bP 167 1 160 161,c7 1 167 166] afQ
def afS:ae:=.aT [o 159 (.bin .add .aZ (.t 137) (ci 1)),m 137 159]
def afT:ae:=.aT [m 157 13,o 158 (.bin .shr .aZ (.t 157) (.c (.int .u64 (.ofNat 32)))),m 13 158]
def afU:ae:=ay [m 152 0,m 153 14,m 154 13,o 155 (.conv (.int .u32) (.t 154)),bP 156 1 152 153,c7 1 156 155] afT
def afV:ae:=ay [m 142 13,m 143 0,m 144 14,bP 145 1 143 144,a1 146 145,o 147 (.conv (.int .u64) (.t 146)),m 148 15,o 149 (.conv (.int .u64) (.t 148)),b7 150 .add 147 149,b7 151 .add 142 150,m 13 151] afU
def afW:ae:=.seq (.block 5 (ay [m 139 137,bP 140 1 135 137,a1 141 140,m 14 139,m 15 141] afV)) afS
def afX:ae:=.seq (dV 138 4) afW
def afY:ae:=ay [b7 138 .lss 137 136] afX
def afZ:ae:=.block 4 (.loop afY)
def af0:ae:=.seq (ay [m 135 1,ct 136 135,o 137 (.aM (ci 0))] afZ) afR
def af1:ae:=ay [o 13 (.aM (.c (.int .u64 (.ofNat 0))))] af0
def af2:ae:=.cond (.t 132) (ay [m 133 7,o 134 (.conv (.int .u32) (.t 133)),m 4 134] .ret) .skip
def af3:ae:=.seq (ay [m 131 10,o 132 (.bin .geq .aZ (.t 131) (ci 0))] af2) af1
def af4:ae:=ay [m 126 0,m 127 5,m 128 10,o 129 (.conv (.int .u32) (.t 128)),bP 130 1 126 127,c7 1 130 129] af3
def af5:ae:=ay [m 116 10,m 117 0,m 118 5,bP 119 1 117 118,a1 120 119,o 121 (.conv (.int .i64) (.t 120)),m 122 9,o 123 (.conv (.int .i64) (.t 122)),b7 124 .sub 121 123,b7 125 .add 116 124,m 10 125] af4
def af6:ae:=.aT [o 115 (.bin .add .aZ (.t 84) (ci 1)),m 84 115]
def af7:ae:=.aT [m 111 9,o 112 (.bin .shr .aZ (.t 111) (.c (.int .u64 (.ofNat 32)))),m 113 10,o 114 (.bin .shr .aZ (.t 113) (.c (.int .u64 (.ofNat 32)))),m 9 112,m 10 114]
def af8:ae:=ay [m 106 0,m 107 11,m 108 10,o 109 (.conv (.int .u32) (.t 108)),bP 110 1 106 107,c7 1 110 109] af7
def af9:ae:=ay [m 95 10,m 96 0,m 97 11,bP 98 1 96 97,a1 99 98,o 100 (.conv (.int .i64) (.t 99)),m 101 9,o 102 (.conv (.int .u32) (.t 101)),o 103 (.conv (.int .i64) (.t 102)),b7 104 .sub 100 103,b7 105 .add 95 104,m 10 105] af8
def aga:ae:=ay [m 89 9,m 90 7,m 91 12,o 92 (.conv (.int .u64) (.t 91)),b7 93 .mul 90 92,b7 94 .add 89 93,m 9 94] af9
def agb:ae:=.seq (.block 3 (ay [m 86 84,bP 87 1 82 84,a1 88 87,m 11 86,m 12 88] aga)) af6
def agc:ae:=.seq (dV 85 2) agb
def agd:ae:=ay [b7 85 .lss 84 83] agc
def age:ae:=.block 2 (.loop agd)
def agf:ae:=.seq (ay [m 82 1,ct 83 82,o 84 (.aM (ci 0))] age) af5
def uT:ae:=ay [o 9 (.aM (.c (.int .u64 (.ofNat 0)))),o 10 (.aM (ci 0))] agf
def agh:ae:=.aT [m 74 8,m 75 1,m 76 5,o 77 (.bin .sub .aZ (.t 76) (ci 1)),bP 78 1 75 77,a1 79 78,o 80 (.conv (.int .u64) (.t 79)),b7 81 .add 74 80,m 8 81]
def agi:ae:=.block 1 (ay [m 72 7,o 73 (.bin .sub .aZ (.t 72) (.c (.int .u64 (.ofNat 1)))),m 7 73] agh)
def agj:ae:=dV 71 0
def agk:ae:=.seq (.seq (.draw [m 50 8,o 51 (.bin .leq .aZ (.t 50) (.c (.int .u64 (.ofNat 4294967295)))),m 52 51,bZc 53 52 (.aM (.t 7)),bZc 54 52 (.aM (.t 1)),bZc 55 52 (.aM (.t 5)),bZc 56 52 (.bin .sub .aZ (.t 55) (ci 2)),bZc 57 52 (.ho 1 (.t 54) (.t 56)),bZc 58 52 (.load false 1 (.t 57)),bZc 59 52 (.conv (.int .u64) (.t 58)),bZc 60 52 (.bin .mul .aZ (.t 53) (.t 59)),bZc 61 52 (.aM (.t 8)),bZc 62 52 (.bin .shl .aZ (.t 61) (.c (.int .u64 (.ofNat 32)))),bZc 63 52 (.aM (.t 0)),bZc 64 52 (.aM (.t 5)),bZc 65 52 (.bin .sub .aZ (.t 64) (ci 2)),bZc 66 52 (.ho 1 (.t 63) (.t 65)),bZc 67 52 (.load false 1 (.t 66)),bZc 68 52 (.conv (.int .u64) (.t 67)),bZc 69 52 (.bin .or .aZ (.t 62) (.t 68)),bZc 70 52 (.bin .gtr .aZ (.t 60) (.t 69)),o 71 (.pick (.t 52) (.t 70) (.c (.bool false)))] (some ⟨[0,1,2,3,4,5,6,7,8,9,10,11,12,13,14,15,16,17,18,19,20,21],[true,true,true,false,false,false,false,false,false,false,false,false,false,false,false,false,false,false,false,false,true,true],[]⟩)) agj) agi
def agl:ae:=.seq (.block 0 (.loop agk)) uT
def agm:ae:=ay [m 40 6,m 41 7,m 42 1,m 43 5,o 44 (.bin .sub .aZ (.t 43) (ci 1)),bP 45 1 42 44,a1 46 45,o 47 (.conv (.int .u64) (.t 46)),b7 48 .mul 41 47,b7 49 .sub 40 48,m 8 49] agl
def agn:ae:=ay [m 31 6,m 32 1,m 33 5,o 34 (.bin .sub .aZ (.t 33) (ci 1)),bP 35 1 32 34,a1 36 35,o 37 (.conv (.int .u64) (.t 36)),b7 38 .quo 31 37,o 39 (.min2 (.t 38) (.c (.int .u64 (.ofNat 4294967295)))),m 7 39] agm
def ago:ae:=.seq (.draw [m 18 0,m 19 5,bP 20 1 18 19,a1 21 20,o 22 (.conv (.int .u64) (.t 21)),o 23 (.bin .shl .aZ (.t 22) (.c (.int .u64 (.ofNat 32)))),m 24 0,m 25 5,o 26 (.bin .sub .aZ (.t 25) (ci 1)),bP 27 1 24 26,a1 28 27,o 29 (.conv (.int .u64) (.t 28)),b7 30 .or 23 29,m 6 30] (some ⟨[0,1,2,3,4,5,6,7,8,9,10,11,12,13],gn 12 2,[]⟩)) agn
def agp:ae:=ay [m 16 1,ct 17 16,m 5 17] ago
@[simp] def wF:b2:=⟨171,(ay [o 4 (.aM (.c (.int .u32 (.ofNat 0))))] agp),[.slot 4]⟩
def agq:List aE:=[m 4 114,m 5 118,bZu 6]
def agr:List aE:=m 117 10::ch 118 F.qS 116 117::agq
def ags:List aE:=m 115 11::bX 116 F.fB 115::agr
def Dg:ae:=ay (m 113 12::bX 114 F.fB 113::ags) .ret
def agt:ae:=.aT [m 98 13,o 99 (.bin .sub .aZ (.t 98) (ci 1)),m 13 99]
def agu:List aE:=[bP 112 1 100 101,c7 1 112 111]
def agv:ae:=.seq (.block 4 (.aT (m 100 12::m 101 13::m 102 11::m 103 13::m 104 13::m 105 7::ct 106 105::b7 107 .add 104 106::o 108 (.bin .add .aZ (.t 107) (ci 1))::o 109 (.nG 1 (.t 102) (some (.t 103)) (some (.t 108)) none)::m 110 7::ch 111 F.wF 109 110::agu))) agt
def agw:ae:=dV 97 3
def agx:ae:=.seq (ay [m 96 13,o 97 (.bin .geq .aZ (.t 96) (ci 0))] agw) agv
def agy:ae:=.block 3 (.loop agx)
def agz:ae:=.seq (ay [m 93 12,ct 94 93,o 95 (.bin .sub .aZ (.t 94) (ci 1)),m 13 95] agy) Dg
def Df:ae:=ay [m 87 11,ct 88 87,m 89 7,ct 90 89,b7 91 .sub 88 90,o 92 (.mkSlice [(.int .u32 (.ofNat 0))] 4 (.t 91) (.t 91)),m 12 92] agz
def agA:ae:=.block 2 (.aT [m 84 11,o 85 (.buildSlice [(.int .u32 (.ofNat 0))] 1 1 [(0,1,(.c (.int .u32 (.ofNat 0))))]),o 86 (.append 1 4 (.t 84) (.t 85)),m 11 86])
def agB:ae:=dV 83 1
def agC:ae:=.seq (ay [m 76 11,ct 77 76,m 78 0,dq 79 78,bq 80 0 79,a1 81 80,ct 82 81,b7 83 .leq 77 82] agB) agA
def wQ:ae:=.seq (.block 1 (.loop agC)) Df
def agD:ae:=.seq (.draw [m 62 0,dq 63 62,bq 64 0 63,a1 65 64,ct 66 65,o 67 (.bin .add .aZ (.t 66) (ci 2)),o 68 (.mkSlice [(.int .u32 (.ofNat 0))] 4 (ci 0) (.t 67)),m 69 0,m 70 10,ch 71 F.rV 69 70,dq 72 71,bq 73 0 72,a1 74 73,o 75 (.append 1 4 (.t 68) (.t 74)),m 11 75] (some ⟨[0,1,2,3,4,5,6,7,8,9,10,11,12,13,14],gn 13 2,[(9,3),(9,4),(6,9),(6,12)]⟩)) wQ
def agE:List aE:=[dq 59 58,bq 60 0 59,a1 61 60,m 7 61]
def agF:ae:=ay (m 56 1::m 57 10::ch 58 F.rV 56 57::agE) agD
def agG:List aE:=[o 55 (.bin .sub .aZ (ci 32) (.t 54)),m 10 55]
def uV:ae:=ay (m 47 7::m 48 7::ct 49 48::o 50 (.bin .sub .aZ (.t 49) (ci 1))::bP 51 1 47 50::a1 52 51::o 53 (.conv (.int .u64) (.t 52))::bX 54 F.sZ 53::agG) agF
def agH:List aE:=[m 4 25,m 5 28,bZu 6]
def agI:List aE:=bX 28 F.fB 27::agH
def agJ:List aE:=m 26 0::bX 27 F.eK 26::agI
def agK:List aE:=[m 4 44,m 5 46,bZu 6]
def agL:List aE:=m 45 9::bX 46 F.ja 45::agK
def agM:ae:=ay (m 43 8::bX 44 F.fB 43::agL) .ret
def agN:ae:=.cond (.t 29) (.seq (.draw [m 34 0,bX 35 F.eK 34,m 36 7,o 37 (.ho 1 (.t 36) (ci 0)),a1 38 37,o 39 (.conv (.int .u64) (.t 38)),ch 40 F.uK 35 39,m 33 40,b5 41 33 0,b5 42 33 1,m 8 41,m 9 42] (some ⟨[0,2,3,4,5,1,6,7,8,9,10,11],gn 6 6,[(5,3),(5,4)]⟩)) agM) .skip
def agO:ae:=.cond (.t 20) (ay (o 25 (.call F.fB [(.c (.slice none 0 0))])::agJ) .ret) (ay [m 30 7,ct 31 30,o 32 (.bin .eql .aZ (.t 31) (ci 1)),m 29 32] agN)
def agP:List aE:=[o 24 (.bin .lss .aZ (.t 23) (ci 0)),m 20 24]
def agQ:ae:=.cond (.t 16) (ay [bZg 4,bZg 5,bZe 6] .ret) (ay (m 21 0::m 22 1::ch 23 F.oD 21 22::agP) agO)
def agR:ae:=.seq (.block 0 (ay [m 17 7,ct 18 17,o 19 (.bin .eql .aZ (.t 18) (ci 0)),m 16 19] agQ)) uV
def agS:List aE:=[m 7 15]
def agT:ae:=ay (m 14 1::bX 15 F.eK 14::agS) agR
@[simp] def qm:b2:=⟨119,(ay [bZg 4,bZg 5,bZe 6] agT),[.slot 4,.slot 5,.slot 6]⟩
def agU:ae:=ay [m 11 0,m 4 11] .ret
def agV:ae:=.block 1 (.draw [m 7 1,m 8 0,m 9 1,b7 10 .rem 8 9,m 0 7,m 1 10] (some ⟨[0,1,2,3,4,5],gn 0 6,[]⟩))
def agW:ae:=dV 6 0
def agX:ae:=.seq (ay [m 5 1,o 6 (.bin .neq .aZ (.t 5) (.c (.int .u64 (.ofNat 0))))] agW) agV
def agY:ae:=.seq (.block 0 (.loop agX)) agU
@[simp] def uL:b2:=⟨12,(ay [o 4 (.aM (.c (.int .u64 (.ofNat 0))))] agY),[.slot 4]⟩
def agZ:List aE:=[m 4 76]
def ag0:List aE:=m 75 5::ch 76 F.rV 74 75::agZ
def ag1:List aE:=bX 74 F.ja 73::ag0
def ag2:ae:=ay (m 71 8::m 72 10::ch 73 F.uL 71 72::ag1) .ret
def ag3:List aE:=[m 66 68,b5 69 66 0,b5 70 66 1,m 10 69,m 11 70]
def ag4:ae:=ay (m 67 1::bX 68 F.rU 67::ag3) ag2
def ag5:List aE:=[m 61 63,b5 64 61 0,b5 65 61 1,m 8 64,m 9 65]
def ag6:ae:=.cond (.t 60) (ay (m 62 0::bX 63 F.rU 62::ag5) ag4) .skip
def ag7:ae:=ay [m 47 0,dq 48 47,bq 49 0 48,a1 50 49,ct 51 50,o 52 (.bin .leq .aZ (.t 51) (ci 2)),m 53 52,bZc 54 53 (.aM (.t 1)),bZc 55 53 (.nilCheck (.t 54)),bZc 56 53 (.fieldAddr 0 (.t 55)),bZc 57 53 (.load false 1 (.t 56)),bZc 58 53 (.len .l (.t 57)),bZc 59 53 (.bin .leq .aZ (.t 58) (ci 2)),o 60 (.pick (.t 53) (.t 59) (.c (.bool false)))] ag6
def ag8:List aE:=[m 0 46]
def ag9:List aE:=ch 46 F.qS 43 45::ag8
def aha:ae:=ay (m 43 6::m 44 6::bX 45 F.qR 44::ag9) ag7
def ahb:List aE:=[m 37 40,b5 41 37 0,b5 42 37 1,m 6 41,m 7 42]
def qW:ae:=ay (m 38 0::m 39 1::ch 40 F.rp 38 39::ahb) aha
def ahc:List aE:=[m 4 32]
def ahd:ae:=.cond (.t 33) (.aT [m 35 1,m 36 0,m 0 35,m 1 36]) .skip
def ahe:ae:=.cond (.t 28) (ay (m 30 0::m 31 5::ch 32 F.rV 30 31::ahc) .ret) (ay [o 34 (.bin .eql .aZ (.t 27) (.c (.int .i64 (.negSucc 0)))),m 33 34] ahd)
def ahf:ae:=.block 2 (ay [o 29 (.bin .eql .aZ (.t 27) (ci 0)),m 28 29] ahe)
def ahg:ae:=.block 1 (.seq (ay [m 25 0,m 26 1,ch 27 F.oD 25 26] ahf) qW)
def ahh:ae:=.block 0 (.loop ahg)
def ahi:List aE:=[m 0 20,m 1 24]
def ahj:List aE:=ch 24 F.qS 21 23::ahi
def ahk:List aE:=m 21 1::m 22 1::bX 23 F.qR 22::ahj
def ahl:List aE:=ch 20 F.qS 17 19::ahk
def ahm:ae:=ay (m 17 0::m 18 0::bX 19 F.qR 18::ahl) ahh
def ahn:List aE:=[o 16 (.min2 (.t 13) (.t 15)),m 5 16]
def aho:List aE:=m 14 1::bX 15 F.qR 14::ahn
def ahp:ae:=ay (m 12 0::bX 13 F.qR 12::aho) ahm
@[simp] def wG:b2:=⟨77,(ay [bZg 4] ahp),[.slot 4]⟩
def ahq:List aE:=[m 4 59]
def ahr:ae:=ay (m 57 5::m 58 6::ch 59 F.wG 57 58::ahq) .ret
def ahs:ae:=ay [m 55 6,m 56 12,m 5 55,m 6 56] (.exit 1)
def aht:List aE:=[m 48 51,b5 52 48 0,b5 53 48 1,b5 54 48 2,m 11 52,m 12 53,m 13 54]
def ahu:ae:=.cond (.t 47) (ay (m 49 5::m 50 6::ch 51 F.qm 49 50::aht) ahs) .skip
def ahv:List aE:=[ct 46 45,b7 47 .neq 43 46]
def ahw:List aE:=ct 43 42::m 44 6::bX 45 F.eK 44::ahv
def ahx:ae:=.seq (ay (m 41 5::bX 42 F.eK 41::ahw) ahu) ahr
def ahy:List aE:=[m 4 40]
def ahz:List aE:=bX 40 F.fB 39::ahy
def ahA:ae:=.cond (.t 37) (ay (m 38 5::bX 39 F.eK 38::ahz) .ret) .skip
def ahB:List aE:=[ct 36 35,o 37 (.bin .eql .aZ (.t 36) (ci 0))]
def r0:ae:=.seq (ay (m 34 6::bX 35 F.eK 34::ahB) ahA) ahx
def ahC:List aE:=[m 4 33]
def ahD:List aE:=bX 33 F.ja 32::ahC
def ahE:ae:=.cond (.t 29) (ay (m 30 7::m 31 9::ch 32 F.uL 30 31::ahD) .ret) .skip
def ahF:ae:=.seq (ay [m 26 8,m 27 26,bZc 28 27 (.aM (.t 10)),o 29 (.pick (.t 27) (.t 28) (.c (.bool false)))] ahE) r0
def ahG:List aE:=[m 21 23,b5 24 21 0,b5 25 21 1,m 9 24,m 10 25]
def ahH:ae:=ay (m 22 6::bX 23 F.rU 22::ahG) ahF
def ahI:List aE:=[m 16 18,b5 19 16 0,b5 20 16 1,m 7 19,m 8 20]
def ahJ:ae:=.block 1 (ay (m 17 5::bX 18 F.rU 17::ahI) ahH)
def ahK:ae:=.block 0 (.loop ahJ)
def ahL:ae:=ay [m 14 0,m 15 1,m 5 14,m 6 15] ahK
@[simp] def wH:b2:=⟨60,(ay [bZg 4] ahL),[.slot 4]⟩
def ahM:ae:=ay [m 40 4,m 2 40] .ret
def ahN:ae:=.cond (.t 39) (ay [o 2 (.aM (.c (.string ⟨#[48]⟩)))] .ret) .skip
def ahO:ae:=.seq (ay [m 38 4,o 39 (.bin .eql .aZ (.t 38) (.c (.string ⟨#[]⟩)))] ahN) ahM
def ahP:ae:=.aT [m 35 7,m 36 4,b7 37 .add 35 36,m 4 37]
def ahQ:List aE:=[m 33 7,b7 34 .add 32 33,m 7 34]
def ahR:ae:=.cond (.t 28) (.aT (m 29 7::o 30 (.len .s (.t 29))::o 31 (.bin .sub .aZ (ci 9) (.t 30))::o 32 (.call F.Uy [(.c (.string ⟨#[48]⟩)),(.t 31)])::ahQ)) .skip
def ahS:ae:=.seq (ay [m 26 3,ct 27 26,o 28 (.bin .gtr .aZ (.t 27) (ci 0))] ahR) ahP
def ahT:List aE:=[m 7 25]
def ahU:ae:=ay (m 24 6::o 25 (.call F.Uw [(.t 24),(ci 10)])::ahT) ahS
def ahV:List aE:=[dq 21 20,bq 22 0 21,a1 23 22,m 3 23]
def ahW:ae:=ay (m 19 5::bX 20 F.fB 19::ahV) ahU
def ahX:List aE:=[m 14 16,b5 17 14 0,b5 18 14 1,m 5 17,m 6 18]
def ahY:ae:=.block 1 (ay (m 15 3::o 16 (.call F.uK [(.t 15),(.c (.int .u64 (.ofNat 1000000000)))])::ahX) ahW)
def ahZ:ae:=dV 13 0
def ah0:ae:=.seq (ay [m 11 3,ct 12 11,o 13 (.bin .gtr .aZ (.t 12) (ci 0))] ahZ) ahY
def ah1:ae:=.seq (.block 0 (.loop ah0)) ahO
def ah2:ae:=ay [o 4 (.aM (.c (.string ⟨#[]⟩)))] ah1
def ah3:List aE:=[o 10 (.append 1 4 (.c (.slice none 0 0)) (.t 9)),m 3 10]
def ah4:ae:=ay (m 8 0::bX 9 F.eK 8::ah3) ah2
@[simp] def uM:b2:=⟨41,(ay [o 2 (.aM (.c (.string ⟨#[]⟩)))] ah4),[.slot 2]⟩
def ah5:ae:=ay [m 54 4,m 2 54,bZu 3] .ret
def ah6:ae:=.aT [o 5 (.aM (ci 9))]
def ah7:ae:=.aT [m 51 0,m 52 5,o 53 (.nF (.t 51) (some (.t 52)) none),m 0 53]
def ah8:List aE:=[m 4 50]
def ah9:List aE:=ch 50 F.rn 47 49::ah8
def aia:List aE:=m 48 6::bX 49 F.ja 48::ah9
def aib:List aE:=ch 47 F.na 45 46::aia
def aic:ae:=ay (m 45 4::o 46 (.call F.ja [(.c (.int .u64 (.ofNat 1000000000)))])::aib) ah7
def aid:List aE:=[m 38 42,b5 43 38 0,b5 44 38 1,m 6 43,m 7 44]
def aie:ae:=.cond (.t 37) (ay (m 39 0::m 40 5::o 41 (.nF (.t 39) none (some (.t 40)))::o 42 (.call F.Ux [(.t 41),(ci 10),(ci 32)])::aid) aic) .skip
def aif:ae:=.seq (.block 1 (ay [m 36 5,o 37 (.bin .gtr .aZ (.t 36) (ci 0))] aie)) ah6
def aih:ae:=dV 35 0
def aii:ae:=.seq (ay [m 34 0,o 35 (.bin .neq .aZ (.t 34) (.c (.string ⟨#[]⟩)))] aih) aif
def aij:ae:=.block 0 (.loop aii)
def aik:ae:=.seq (ay [m 31 0,o 32 (.len .s (.t 31)),o 33 (.bin .rem .aZ (.t 32) (ci 9)),m 5 33] aij) ah5
def ail:List aE:=[m 4 30]
def yV:ae:=ay (o 30 (.call F.fB [(.c (.slice none 0 0))])::ail) aik
def Hi:ae:=.cond (.t 29) (ay [bZg 2,bZe 3] .ret) .skip
def Hj:List aE:=[bZd 28 25 (.bin .neq .aZ (.t 27) (.c (.string ⟨#[]⟩))),o 29 (.pick (.t 25) (.c (.bool true)) (.t 28))]
def aim:ae:=.seq (ay (m 8 0::o 9 (.bin .eql .aZ (.t 8) (.c (.string ⟨#[]⟩)))::m 10 9::bZd 11 10 (.aM (.t 0))::bZd 12 10 (.len .s (.t 11))::bZd 13 10 (.bin .gtr .aZ (.t 12) (ci 2000))::o 14 (.pick (.t 10) (.c (.bool true)) (.t 13))::m 15 14::bZd 16 15 (.aM (.t 0))::bZd 17 15 (.len .s (.t 16))::bZd 18 15 (.bin .gtr .aZ (.t 17) (ci 1))::bZd 19 15 (.aM (.t 18))::bZc 20 19 (.aM (.t 0))::bZc 21 19 (.pV (.t 20) (ci 0))::bZc 22 19 (.bin .eql .aZ (.t 21) (.c (.int .u8 (.ofNat 48))))::bZd 23 15 (.pick (.t 19) (.t 22) (.c (.bool false)))::o 24 (.pick (.t 15) (.c (.bool true)) (.t 23))::m 25 24::bZd 26 25 (.aM (.t 0))::bZd 27 25 (.call F.Hh [(.t 26),(.c (.string ⟨#[48,49,50,51,52,53,54,55,56,57]⟩))])::Hj) Hi) yV
@[simp] def sY:b2:=⟨55,(ay [bZg 2,bZe 3] aim),[.slot 2,.slot 3]⟩
def ain:ae:=ay [m 19 3,m 20 0,o 21 (.conv (.int .i64) (.t 20)),b7 22 .add 19 21,m 2 22] .ret
def aio:ae:=.aT [m 7 4,o 8 (.bin .quo .aZ (.t 7) (ci 2)),m 4 8]
def aip:ae:=.aT [m 16 3,m 17 4,b7 18 .add 16 17,m 3 18]
def aiq:ae:=.cond (.t 12) (ay [m 13 0,m 14 4,b7 15 .shr 13 14,m 0 15] aip) .skip
def air:ae:=.seq (.block 1 (ay [m 9 0,m 10 4,b7 11 .shr 9 10,o 12 (.bin .neq .aZ (.t 11) (.c (.int .u64 (.ofNat 0))))] aiq)) aio
def ais:ae:=dV 6 0
def ait:ae:=.seq (ay [m 5 4,o 6 (.bin .gtr .aZ (.t 5) (ci 0))] ais) air
def aiu:ae:=.block 0 (.loop ait)
def aiv:ae:=.seq (ay [o 4 (.aM (ci 32))] aiu) ain
def aiw:ae:=ay [o 3 (.aM (ci 0))] aiv
@[simp] def sZ:b2:=⟨23,(ay [o 2 (.aM (ci 0))] aiw),[.slot 2]⟩
def aix:List aE:=[o 10 (.bin .sub .aZ (.t 9) (ci 1)),m 2 10]
def aiy:ae:=ay (m 5 0::m 6 0::o 7 (.un .neg (.t 6))::b7 8 .and 5 7::bX 9 F.sZ 8::aix) .ret
def aiz:ae:=.cond (.t 4) (ay [o 2 (.aM (ci 64))] .ret) .skip
def aiA:ae:=.seq (ay [m 3 0,o 4 (.bin .eql .aZ (.t 3) (.c (.int .u64 (.ofNat 0))))] aiz) aiy
@[simp] def wI:b2:=⟨11,(ay [o 2 (.aM (ci 0))] aiA),[.slot 2]⟩
def aiB:ae:=ay [m 8 0,o 9 (.conv (.int .u64) (.t 8)),m 2 9] .ret
def aiC:ae:=.cond (.t 4) (ay [m 5 0,o 6 (.conv (.int .u64) (.t 5)),o 7 (.un .neg (.t 6)),m 2 7] .ret) .skip
def aiD:ae:=.seq (ay [m 3 0,o 4 (.bin .lss .aZ (.t 3) (ci 0))] aiC) aiB
@[simp] def wJ:b2:=⟨10,(ay [o 2 (.aM (.c (.int .u64 (.ofNat 0))))] aiD),[.slot 2]⟩
def aiE:List aE:=[b5 10 9 0,b5 11 9 1,b5 12 9 2,m 4 10,m 5 11,m 6 12]
def aiF:ae:=ay (m 7 0::m 8 1::ch 9 F.tj 7 8::aiE) .ret
@[simp] def tg:b2:=⟨13,(ay [o 4 (.aM (.c (.string ⟨#[]⟩))),o 5 (.aM (.c (.string ⟨#[]⟩))),bZe 6] aiF),[.slot 4,.slot 5,.slot 6]⟩
def aiG:List aE:=[b5 9 8 0,b5 10 8 1,m 4 9,m 5 10]
def aiH:ae:=ay (m 6 0::m 7 1::ch 8 F.ti 6 7::aiG) .ret
@[simp] def th:b2:=⟨11,(ay [o 4 (.aM (.c (.string ⟨#[]⟩))),bZe 5] aiH),[.slot 4,.slot 5]⟩
def aiI:List aE:=[o 5 (.bin .eql .aZ (.t 4) (ci 0)),m 2 5]
def aiJ:ae:=ay (m 3 0::bX 4 F.wE 3::aiI) .ret
@[simp] def oE:b2:=⟨6,(ay [bZe 2] aiJ),[.slot 2]⟩
def aiK:ae:=.seq (.draw [m 16 0,dq 17 16,bq 18 0 17,a1 19 18,m 20 0,dq 21 20,bq 22 1 21,a1 23 22,m 24 0,dq 25 24,bq 26 2 25,a1 27 26,m 2 19,m 3 23,m 4 27] (some ⟨[0,1,2,3,4,5,6,7,8,9,10,11,12,13,14],gn 14 1,[]⟩)) .ret
def aiL:List aE:=[bZe 2,m 3 14,m 4 15]
def aiM:List aE:=o 15 (.call F.ja [(.c (.int .u64 (.ofNat 1)))])::aiL
def aiN:ae:=.cond (.t 13) (ay (o 14 (.call F.ja [(.c (.int .u64 (.ofNat 0)))])::aiM) .ret) .skip
def aiO:ae:=.seq (ay [m 5 0,o 6 (.bin .eql (.nil .ptr) (.t 5) (.c (.pointer none))),m 7 6,bZd 8 7 (.aM (.t 0)),bZd 9 7 (.nilCheck (.t 8)),bZd 10 7 (.fieldAddr 2 (.t 9)),bZd 11 7 (.load false 1 (.t 10)),bZd 12 7 (.bin .eql (.nil .ptr) (.t 11) (.c (.pointer none))),o 13 (.pick (.t 7) (.c (.bool true)) (.t 12))] aiN) aiK
@[simp] def lW:b2:=⟨28,(ay [bZe 2,bZg 3,bZg 4] aiO),[.slot 2,.slot 3,.slot 4]⟩
def aiP:List aE:=[bZc 39 36 (.un .not (.t 38)),o 40 (.pick (.t 36) (.t 39) (.c (.bool false))),m 41 1,m 42 2,o 43 (.build [(.bool false),(.pointer none),(.pointer none)] [(0,1,(.t 40)),(1,1,(.t 41)),(2,1,(.t 42))]),hn 44 104 43,m 6 44,bZu 7]
def aiQ:ae:=ay (m 35 0::m 36 35::bZc 37 36 (.aM (.t 1))::bZc 38 36 (.call F.oE [(.t 37)])::aiP) .ret
def aiR:List aE:=[m 1 34]
def aiS:ae:=.cond (.t 33) (.aT (o 34 (.call F.ja [(.c (.int .u64 (.ofNat 0)))])::aiR)) .skip
def sq:ae:=.seq (ay [m 32 1,o 33 (.bin .eql (.nil .ptr) (.t 32) (.c (.pointer none)))] aiS) aiQ
def aiT:List aE:=[m 25 28,b5 29 25 0,b5 30 25 1,b5 31 25 2,m 2 29]
def aiU:ae:=.aT (m 26 2::m 27 8::ch 28 F.qm 26 27::aiT)
def aiV:List aE:=[m 18 21,b5 22 18 0,b5 23 18 1,b5 24 18 2,m 1 22]
def aiW:ae:=.cond (.t 17) (ay (m 19 1::m 20 8::ch 21 F.qm 19 20::aiV) aiU) .skip
def aiX:List aE:=[o 17 (.bin .neq .aZ (.t 16) (ci 0))]
def aiY:List aE:=ch 16 F.oD 14 15::aiX
def aiZ:ae:=ay (m 14 8::o 15 (.call F.ja [(.c (.int .u64 (.ofNat 1)))])::aiY) aiW
def ai0:List aE:=[m 8 13]
def ai1:ae:=.seq (ay (m 11 1::m 12 2::ch 13 F.wH 11 12::ai0) aiZ) sq
def ai2:ae:=.cond (.t 10) (ay [bZg 6,bZe 7] .ret) .skip
def ai3:ae:=.seq (ay [m 9 2,bX 10 F.oE 9] ai2) ai1
abbrev T.NO:Nat:=104
@[simp] def tQ:b2:=⟨45,(ay [bZg 6,bZe 7] ai3),[.slot 6,.slot 7]⟩
def ai4:List aE:=[o 9 (.build [(.bool false),(.pointer none),(.pointer none)] [(0,1,(.t 4)),(1,1,(.t 7)),(2,1,(.t 8))]),hn 10 104 9,m 2 10]
def ai5:List aE:=o 8 (.call F.ja [(.c (.int .u64 (.ofNat 1)))])::ai4
def ai6:List aE:=bX 7 F.ja 6::ai5
def ai7:ae:=ay (m 3 0::o 4 (.bin .lss .aZ (.t 3) (ci 0))::m 5 0::bX 6 F.wJ 5::ai6) .ret
abbrev T.aEz:Nat:=104
@[simp] def kp:b2:=⟨11,(ay [bZg 2] ai7),[.slot 2]⟩
def ai8:ae:=ay [m 16 7,m 6 16] .ret
def ai9:List aE:=[m 9 13,b5 14 9 0,b5 15 9 1,m 7 14,m 8 15]
def aja:ae:=ay (m 10 0::m 11 1::m 12 2::o9 13 F.tQ 10 11 12::ai9) ai8
@[simp] def pr:b2:=⟨17,(ay [bZg 6] aja),[.slot 6]⟩
def ajb:ae:=ay [m 27 6,m 2 27] .ret
def ajc:ae:=.cond (.t 22) (.aT [m 23 6,m 24 7,o 25 (.bin .add .aZ (.c (.string ⟨#[47]⟩)) (.t 24)),b7 26 .add 23 25,m 6 26]) .skip
def ajd:ae:=ay [m 21 7,o 22 (.bin .neq .aZ (.t 21) (.c (.string ⟨#[49]⟩)))] ajc
def aje:List aE:=[m 7 20]
def ajf:ae:=.seq (ay (m 19 5::bX 20 F.uM 19::aje) ajd) ajb
def ajg:ae:=.cond (.t 16) (.aT [m 17 6,o 18 (.bin .add .aZ (.c (.string ⟨#[45]⟩)) (.t 17)),m 6 18]) .skip
def ajh:ae:=.seq (ay [m 16 3] ajg) ajf
def aji:List aE:=[m 6 15]
def ajj:ae:=ay (m 14 4::bX 15 F.uM 14::aji) ajh
def ajk:List aE:=[m 8 10,b5 11 8 0,b5 12 8 1,b5 13 8 2,m 3 11,m 4 12,m 5 13]
def ajl:ae:=ay (m 9 0::bX 10 F.lW 9::ajk) ajj
@[simp] def mI:b2:=⟨28,(ay [o 2 (.aM (.c (.string ⟨#[]⟩)))] ajl),[.slot 2]⟩
def ajm:ae:=ay [m 55 13,m 2 55,bZu 3] .ret
def ajn:ae:=.cond (.t 54) (ay [bZg 2,bZe 3] .ret) .skip
def ajo:List aE:=[m 53 0,b7 54 .neq 52 53]
def ajp:ae:=.seq (ay (m 51 13::bX 52 F.mI 51::ajo) ajn) ajm
def ajq:List aE:=[m 13 50]
def tl:ae:=ay (m 47 5::m 48 9::m 49 11::o9 50 F.pr 47 48 49::ajq) ajp
def ajr:ae:=.cond (.t 46) (ay [bZg 2,bZe 3] .ret) .skip
def ajs:List aE:=[o 46 (.pick (.t 43) (.c (.bool true)) (.t 45))]
def ajt:ae:=.seq (ay (m 37 10::jo 38 37::m 39 38::bZd 40 39 (.aM (.t 12))::bZd 41 39 (.un .not (.t 40))::o 42 (.pick (.t 39) (.c (.bool true)) (.t 41))::m 43 42::bZd 44 43 (.aM (.t 11))::bZd 45 43 (.call F.oE [(.t 44)])::ajs) ajr) tl
def aju:List aE:=[m 32 34,b5 35 32 0,b5 36 32 1,m 11 35,m 12 36]
def ajv:ae:=ay (m 33 7::bX 34 F.sY 33::aju) ajt
def ajw:List aE:=[m 27 29,b5 30 27 0,b5 31 27 1,m 9 30,m 10 31]
def A4:ae:=ay (m 28 6::bX 29 F.sY 28::ajw) ajv
def ajx:ae:=.cond (.t 26) (.aT [o 7 (.aM (.c (.string ⟨#[49]⟩)))]) .skip
def ajy:ae:=.seq (ay [m 25 8,jo 26 25] ajx) A4
def ajz:List aE:=[m 19 21,b5 22 19 0,b5 23 19 1,b5 24 19 2,m 6 22,m 7 23,m 8 24]
def DT:ae:=ay (m 20 4::o 21 (.call F.tg [(.t 20),(.c (.string ⟨#[47]⟩))])::ajz) ajy
def ajA:List aE:=[m 14 16,b5 17 14 0,b5 18 14 1,m 4 17,m 5 18]
def ajB:ae:=ay (m 15 0::o 16 (.call F.th [(.t 15),(.c (.string ⟨#[45]⟩))])::ajA) DT
@[simp] def nx:b2:=⟨56,(ay [bZg 2,bZe 3] ajB),[.slot 2,.slot 3]⟩
def ajC:ae:=ay [m 36 2,m 37 12,m 8 36,m 9 37] .ret
def ajD:List aE:=[m 30 33,b5 34 30 0,b5 35 30 1,m 12 34,m 13 35]
def ajE:ae:=ay (m 31 3::m 32 1::ch 33 F.rp 31 32::ajD) ajC
def ajF:ae:=.cond (.t 27) (ay [m 28 0,m 29 10,m 8 28,m 9 29] .ret) .skip
def ajG:ae:=ay [m 27 11] ajF
def ajH:List aE:=[m 21 24,b5 25 21 0,b5 26 21 1,m 10 25,m 11 26]
def ajI:ae:=.seq (ay (m 22 1::m 23 3::ch 24 F.rp 22 23::ajH) ajG) ajE
def ajJ:List aE:=[m 8 17,m 9 20]
def ajK:ae:=.cond (.t 16) (ay (m 17 0::m 18 1::m 19 3::ch 20 F.rn 18 19::ajJ) .ret) .skip
def ajL:ae:=.seq (ay [m 14 0,m 15 2,o 16 (.bin .eql .bool (.t 14) (.t 15))] ajK) ajI
@[simp] def tR:b2:=⟨38,(ay [bZe 8,bZg 9] ajL),[.slot 8,.slot 9]⟩
def ajM:List aE:=[m 4 66]
def ajN:List aE:=o9 66 F.pr 61 62 65::ajM
def ajO:ae:=ay (m 61 13::m 62 14::m 63 7::m 64 10::ch 65 F.na 63 64::ajN) .ret
def ajP:List aE:=[m 49 58,b5 59 49 0,b5 60 49 1,m 13 59,m 14 60]
def ajQ:List aE:=o 58 (.call F.tR [(.t 50),(.t 53),(.t 54),(.t 57)])::ajP
def ajR:List aE:=m 54 8::m 55 9::m 56 7::ch 57 F.na 55 56::ajQ
def ajS:ae:=ay (m 50 5::m 51 6::m 52 10::ch 53 F.na 51 52::ajR) ajO
def ajT:List aE:=[m 4 48]
def ajU:ae:=ay (m 45 11::m 46 12::m 47 7::o9 48 F.pr 45 46 47::ajT) .ret
def ajV:List aE:=[m 37 42,b5 43 37 0,b5 44 37 1,m 11 43,m 12 44]
def ajW:ae:=.cond (.t 36) (ay (m 38 5::m 39 6::m 40 8::m 41 9::o 42 (.call F.tR [(.t 38),(.t 39),(.t 40),(.t 41)])::ajV) ajU) .skip
def ajX:List aE:=[o 36 (.bin .eql .aZ (.t 35) (ci 0))]
def ajY:ae:=.seq (ay (m 33 7::m 34 10::ch 35 F.oD 33 34::ajX) ajW) ajS
def ajZ:List aE:=[m 4 32]
def aj0:ae:=.cond (.t 28) (ay (m 29 8::m 30 9::m 31 10::o9 32 F.pr 29 30 31::ajZ) .ret) .skip
def aj1:ae:=.seq (ay [m 27 6,bX 28 F.oE 27] aj0) ajY
def aj2:List aE:=[m 21 23,b5 24 21 0,b5 25 21 1,b5 26 21 2,m 8 24,m 9 25,m 10 26]
def aj3:ae:=ay (m 22 1::bX 23 F.lW 22::aj2) aj1
def aj4:List aE:=[m 15 17,b5 18 15 0,b5 19 15 1,b5 20 15 2,m 5 18,m 6 19,m 7 20]
def aj5:ae:=ay (m 16 0::bX 17 F.lW 16::aj4) aj3
@[simp] def kG:b2:=⟨67,(ay [bZg 4] aj5),[.slot 4]⟩
def aj6:List aE:=[bZc 17 14 (.un .not (.t 16)),o 18 (.pick (.t 14) (.t 17) (.c (.bool false))),m 19 4,m 20 5,o 21 (.build [(.bool false),(.pointer none),(.pointer none)] [(0,1,(.t 18)),(1,1,(.t 19)),(2,1,(.t 20))]),hn 22 104 21,m 2 22]
def aj7:ae:=ay (m 12 3::jo 13 12::m 14 13::bZc 15 14 (.aM (.t 4))::bZc 16 14 (.call F.oE [(.t 15)])::aj6) .ret
def aj8:List aE:=[m 6 8,b5 9 6 0,b5 10 6 1,b5 11 6 2,m 3 9,m 4 10,m 5 11]
def aj9:ae:=ay (m 7 0::bX 8 F.lW 7::aj8) aj7
abbrev T.NQ:Nat:=104
@[simp] def nV:b2:=⟨23,(ay [bZg 2] aj9),[.slot 2]⟩
def aka:List aE:=[m 4 8]
def akb:List aE:=ch 8 F.kG 5 7::aka
def akc:ae:=ay (m 5 0::m 6 1::bX 7 F.nV 6::akb) .ret
@[simp] def nW:b2:=⟨9,(ay [bZg 4] akc),[.slot 4]⟩
def akd:List aE:=[m 4 32]
def ake:List aE:=o9 32 F.pr 25 28 31::akd
def akf:List aE:=m 29 7::m 30 10::ch 31 F.na 29 30::ake
def akg:ae:=ay (m 23 5::m 24 8::o 25 (.bin .neq .bool (.t 23) (.t 24))::m 26 6::m 27 9::ch 28 F.na 26 27::akf) .ret
def akh:List aE:=[m 17 19,b5 20 17 0,b5 21 17 1,b5 22 17 2,m 8 20,m 9 21,m 10 22]
def aki:ae:=ay (m 18 1::bX 19 F.lW 18::akh) akg
def akj:List aE:=[m 11 13,b5 14 11 0,b5 15 11 1,b5 16 11 2,m 5 14,m 6 15,m 7 16]
def akk:ae:=ay (m 12 0::bX 13 F.lW 12::akj) aki
@[simp] def ke:b2:=⟨33,(ay [bZg 4] akk),[.slot 4]⟩
def akl:List aE:=[b5 34 33 0,b5 35 33 1,m 4 34,m 5 35]
def akm:List aE:=o9 33 F.tQ 26 29 32::akl
def akn:List aE:=m 30 8::m 31 10::ch 32 F.na 30 31::akm
def ako:ae:=ay (m 24 6::m 25 9::o 26 (.bin .neq .bool (.t 24) (.t 25))::m 27 7::m 28 11::ch 29 F.na 27 28::akn) .ret
def akp:List aE:=[m 18 20,b5 21 18 0,b5 22 18 1,b5 23 18 2,m 9 21,m 10 22,m 11 23]
def akq:ae:=ay (m 19 1::bX 20 F.lW 19::akp) ako
def akr:List aE:=[m 12 14,b5 15 12 0,b5 16 12 1,b5 17 12 2,m 6 15,m 7 16,m 8 17]
def aks:ae:=ay (m 13 0::bX 14 F.lW 13::akr) akq
@[simp] def oG:b2:=⟨36,(ay [bZg 4,bZe 5] aks),[.slot 4,.slot 5]⟩
def akt:List aE:=[m 4 8]
def aku:List aE:=bX 8 F.gE 7::akt
def akv:ae:=ay (m 5 0::m 6 1::ch 7 F.nW 5 6::aku) .ret
@[simp] def k7:b2:=⟨9,(ay [o 4 (.aM (ci 0))] akv),[.slot 4]⟩
def akw:ae:=ay [o 2 (.aM (ci 1))] .ret
def akx:ae:=.cond (.t 14) (ay [o 2 (.aM (ci 0))] .ret) .skip
def aky:List aE:=[m 14 16]
def akz:ae:=.cond (.t 12) (ay [o 2 (.aM (.c (.int .i64 (.negSucc 0))))] .ret) (ay (m 15 4::bX 16 F.oE 15::aky) akx)
def akA:ae:=.seq (.block 0 (ay [m 13 3,m 12 13] akz)) akw
def akB:List aE:=[m 6 8,b5 9 6 0,b5 10 6 1,b5 11 6 2,m 3 9,m 4 10,m 5 11]
def akC:ae:=ay (m 7 0::bX 8 F.lW 7::akB) akA
@[simp] def gE:b2:=⟨17,(ay [o 2 (.aM (ci 0))] akC),[.slot 2]⟩
def akD:List aE:=[m 2 34]
def akE:List aE:=o9 34 F.pr 31 32 33::akD
def rv:ae:=ay (m 31 3::m 32 6::o 33 (.call F.ja [(.c (.int .u64 (.ofNat 1)))])::akE) .ret
def akF:List aE:=[m 6 30]
def akG:List aE:=ch 30 F.rn 28 29::akF
def akH:ae:=.cond (.t 27) (.aT (m 28 6::o 29 (.call F.ja [(.c (.int .u64 (.ofNat 1)))])::akG)) .skip
def akI:List aE:=[bZc 26 23 (.un .not (.t 25)),o 27 (.pick (.t 23) (.t 26) (.c (.bool false)))]
def akJ:ae:=.seq (ay (m 22 3::m 23 22::bZc 24 23 (.aM (.t 7))::bZc 25 23 (.call F.oE [(.t 24)])::akI) akH) rv
def akK:List aE:=[m 15 18,b5 19 15 0,b5 20 15 1,b5 21 15 2,m 6 19,m 7 20,m 8 21]
def akL:ae:=ay (m 16 4::m 17 5::ch 18 F.qm 16 17::akK) akJ
def akM:List aE:=[m 9 11,b5 12 9 0,b5 13 9 1,b5 14 9 2,m 3 12,m 4 13,m 5 14]
def akN:ae:=ay (m 10 0::bX 11 F.lW 10::akM) akL
@[simp] def tS:b2:=⟨35,(ay [bZg 2] akN),[.slot 2]⟩
def akO:List aE:=[o 15 (.bin .eql .aZ (.t 14) (ci 0)),m 2 15]
def akP:List aE:=ch 14 F.oD 12 13::akO
def akQ:ae:=ay (m 12 5::o 13 (.call F.ja [(.c (.int .u64 (.ofNat 1)))])::akP) .ret
def akR:List aE:=[m 6 8,b5 9 6 0,b5 10 6 1,b5 11 6 2,m 3 9,m 4 10,m 5 11]
def akS:ae:=ay (m 7 0::bX 8 F.lW 7::akR) akQ
@[simp] def su:b2:=⟨16,(ay [bZe 2] akS),[.slot 2]⟩
def akT:ae:=ay [m 5 0,m 6 0,o 7 (.len .s (.t 6)),m 8 1,o 9 (.min2 (.t 7) (.t 8)),o 10 (.nF (.t 5) none (some (.t 9))),m 4 10] .ret
@[simp] def ll:b2:=⟨11,(ay [o 4 (.aM (.c (.string ⟨#[]⟩)))] akT),[.slot 4]⟩
def akU:ae:=ay [m 11 0,m 12 1,o 13 (.len .s (.t 12)),o 14 (.nF (.t 11) (some (.t 13)) none),m 4 14,bZu 5] .ret
def akV:ae:=.cond (.t 9) (ay [m 10 0,m 4 10,bZe 5] .ret) .skip
def akW:List aE:=[jo 9 8]
def akX:ae:=.seq (ay (m 6 0::m 7 1::ch 8 F.tk 6 7::akW) akV) akU
@[simp] def ti:b2:=⟨15,(ay [o 4 (.aM (.c (.string ⟨#[]⟩))),bZe 5] akX),[.slot 4,.slot 5]⟩
def akY:ae:=ay [m 22 0,m 4 22,o 5 (.aM (.c (.string ⟨#[]⟩))),bZe 6] .ret
def akZ:ae:=.cond (.t 12) (.seq (.draw [m 13 0,m 14 7,o 15 (.nF (.t 13) none (some (.t 14))),m 16 0,m 17 7,m 18 1,o 19 (.len .s (.t 18)),b7 20 .add 17 19,o 21 (.nF (.t 16) (some (.t 20)) none),m 4 15,m 5 21,bZu 6] (some ⟨[0,1,2,3,4,5,6,7,8,9,10,11],[false,false,false,false,false,true,true,true,true,false,true,true],[]⟩)) .ret) .skip
def ak0:ae:=ay [m 11 7,o 12 (.bin .geq .aZ (.t 11) (ci 0))] akZ
def ak1:List aE:=[m 7 10]
def ak2:ae:=.seq (ay (m 8 0::m 9 1::ch 10 F.xj 8 9::ak1) ak0) akY
@[simp] def tj:b2:=⟨23,(ay [o 4 (.aM (.c (.string ⟨#[]⟩))),o 5 (.aM (.c (.string ⟨#[]⟩))),bZe 6] ak2),[.slot 4,.slot 5,.slot 6]⟩
def ak3:ae:=ay [m 5 0,o 6 (.len .s (.t 5)),m 7 1,o 8 (.len .s (.t 7)),b7 9 .geq 6 8,m 10 9,bZc 11 10 (.aM (.t 0)),bZc 12 10 (.aM (.t 1)),bZc 13 10 (.len .s (.t 12)),bZc 14 10 (.nF (.t 11) none (some (.t 13))),bZc 15 10 (.aM (.t 1)),bZc 16 10 (.bin .eql .aZ (.t 14) (.t 15)),o 17 (.pick (.t 10) (.t 16) (.c (.bool false))),m 4 17] .ret
@[simp] def tk:b2:=⟨18,(ay [bZe 4] ak3),[.slot 4]⟩
def ak4:ae:=ay [o 4 (.aM (.c (.int .i64 (.negSucc 0))))] .ret
def ak5:ae:=ay [o 4 (.aM (.c (.int .i64 (.negSucc 0))))] .ret
def ak6:ae:=.cond (.t 114) (ay [m 115 12,m 116 8,b7 117 .add 115 116,m 4 117] .ret) .skip
def ak7:ae:=.seq (ay [m 113 12,o 114 (.bin .geq .aZ (.t 113) (ci 0))] ak6) ak5
def ak8:List aE:=[m 12 112]
def ak9:ae:=ay [m 140 8,m 141 13,b7 142 .add 140 141,m 4 142] .ret
def ala:ae:=.cond (.t 139) (ay [o 4 (.aM (.c (.int .i64 (.negSucc 0))))] .ret) .skip
def alb:ae:=.seq (ay [m 138 13,o 139 (.bin .lss .aZ (.t 138) (ci 0))] ala) ak9
def alc:List aE:=[m 13 137]
def ald:ae:=.cond (.t 132) (ay (m 133 0::m 134 8::o 135 (.nF (.t 133) (some (.t 134)) none)::m 136 1::ch 137 269 135 136::alc) alb) .skip
def ale:ae:=.cond (.t 107) (ay (m 108 0::m 109 8::o 110 (.nF (.t 108) (some (.t 109)) none)::m 111 1::ch 112 267 110 111::ak8) ak7) (ay [m 118 5,a1 119 1000000007,b7 120 .gtr 118 119,m 121 120,bZc 122 121 (.aM (.t 10)),bZc 123 121 (.aM (.t 8)),bZc 124 121 (.bin .shr .aZ (.t 123) (.c (.int .u64 (.ofNat 4)))),bZc 125 121 (.bin .add .aZ (ci 4) (.t 124)),bZc 126 121 (.bin .geq .aZ (.t 122) (.t 125)),o 127 (.pick (.t 121) (.t 126) (.c (.bool false))),m 128 127,bZc 129 128 (.aM (.t 8)),bZc 130 128 (.aM (.t 9)),bZc 131 128 (.bin .lss .aZ (.t 129) (.t 130)),o 132 (.pick (.t 128) (.t 131) (.c (.bool false)))] ald)
def alf:List aE:=[bZc 106 102 (.bin .gtr .aZ (.t 103) (.t 105)),o 107 (.pick (.t 102) (.t 106) (.c (.bool false)))]
def alg:ae:=ay (m 99 5::a1 100 1000000007::b7 101 .leq 99 100::m 102 101::bZc 103 102 (.aM (.t 10))::bZc 104 102 (.aM (.t 8))::bZc 105 102 (.call 268 [(.t 104)])::alf) ale
def alh:ae:=ay [m 97 10,o 98 (.bin .add .aZ (.t 97) (ci 1)),m 10 98] alg
def ali:ae:=ay [m 95 8,o 96 (.bin .add .aZ (.t 95) (ci 1)),m 8 96] alh
def alj:ae:=.cond (.t 93) (ay [m 94 8,m 4 94] .ret) .skip
def alk:ae:=.seq (ay [m 78 0,m 79 8,o 80 (.bin .add .aZ (.t 79) (ci 1)),o 81 (.pV (.t 78) (.t 80)),m 82 7,b7 83 .eql 81 82,m 84 83,bZc 85 84 (.aM (.t 0)),bZc 86 84 (.aM (.t 8)),bZc 87 84 (.aM (.t 8)),bZc 88 84 (.aM (.t 5)),bZc 89 84 (.bin .add .aZ (.t 87) (.t 88)),bZc 90 84 (.nF (.t 85) (some (.t 86)) (some (.t 89))),bZc 91 84 (.aM (.t 1)),bZc 92 84 (.bin .eql .aZ (.t 90) (.t 91)),o 93 (.pick (.t 84) (.t 92) (.c (.bool false)))] alj) ali
def alm:ae:=.aT [m 74 8,m 75 11,o 76 (.bin .add .aZ (.t 75) (ci 1)),b7 77 .add 74 76,m 8 77]
def aln:ae:=.cond (.t 73) (ay [o 4 (.aM (.c (.int .i64 (.negSucc 0))))] .ret) .skip
def alo:ae:=.seq (ay [m 72 11,o 73 (.bin .lss .aZ (.t 72) (ci 0))] aln) alm
def alp:List aE:=[m 11 71]
def alq:ae:=.cond (.t 64) (ay (m 65 0::m 66 8::o 67 (.bin .add .aZ (.t 66) (ci 1))::m 68 9::o 69 (.nF (.t 65) (some (.t 67)) (some (.t 68)))::m 70 6::ch 71 F.vl 69 70::alp) alo) .skip
def alr:ae:=.block 2 (.seq (ay [m 60 0,m 61 8,o 62 (.pV (.t 60) (.t 61)),m 63 6,b7 64 .neq 62 63] alq) alk)
def als:ae:=dV 59 1
def alu:ae:=.seq (ay [m 57 8,m 58 9,b7 59 .lss 57 58] als) alr
def alv:ae:=.seq (.block 1 (.loop alu)) ak4
def alw:ae:=ay [o 10 (.aM (ci 0))] alv
def alx:ae:=ay [m 52 0,o 53 (.len .s (.t 52)),m 54 5,b7 55 .sub 53 54,o 56 (.bin .add .aZ (.t 55) (ci 1)),m 9 56] alw
def aly:ae:=ay [o 8 (.aM (ci 0))] alx
def alz:ae:=ay [m 50 1,o 51 (.pV (.t 50) (ci 1)),m 7 51] aly
def alA:ae:=ay [m 48 1,o 49 (.pV (.t 48) (ci 0)),m 6 49] alz
def alB:List aE:=[m 4 30]
def alC:List aE:=[m 4 47]
def alD:ae:=.cond (.t 36) (ay (m 45 0::m 46 1::ch 47 267 45 46::alC) .ret) .skip
def alE:ae:=.cond (.t 31) (ay [o 4 (.aM (.c (.int .i64 (.negSucc 0))))] .ret) (ay [m 37 5,a1 38 1000000007,b7 39 .leq 37 38,m 40 39,bZc 41 40 (.aM (.t 0)),bZc 42 40 (.len .s (.t 41)),bZc 43 40 (.bin .leq .aZ (.t 42) (ci 64)),o 44 (.pick (.t 40) (.t 43) (.c (.bool false))),m 36 44] alD)
def alF:ae:=.cond (.t 24) (ay (m 27 0::m 28 1::o 29 (.pV (.t 28) (ci 0))::ch 30 F.vl 27 29::alB) .ret) (ay [m 32 5,m 33 0,o 34 (.len .s (.t 33)),b7 35 .geq 32 34,m 31 35] alE)
def alG:ae:=.cond (.t 16) (ay [o 4 (.aM (ci 0))] .ret) (ay [m 25 5,o 26 (.bin .eql .aZ (.t 25) (ci 1)),m 24 26] alF)
def alH:ae:=.seq (.block 0 (ay [m 17 5,o 18 (.bin .eql .aZ (.t 17) (ci 0)),m 19 18,bZd 20 19 (.aM (.t 1)),bZd 21 19 (.aM (.t 0)),bZd 22 19 (.bin .eql .aZ (.t 20) (.t 21)),o 23 (.pick (.t 19) (.c (.bool true)) (.t 22)),m 16 23] alG)) alA
def alI:ae:=ay [m 14 1,o 15 (.len .s (.t 14)),m 5 15] alH
@[simp] def xj:b2:=⟨143,(ay [o 4 (.aM (ci 0))] alI),[.slot 4]⟩
def alJ:List aE:=[m 4 7]
def alK:ae:=ay (m 5 0::m 6 1::ch 7 F.Uz 5 6::alJ) .ret
@[simp] def vl:b2:=⟨8,(ay [o 4 (.aM (ci 0))] alK),[.slot 4]⟩
def alL:ae:=ay [m 10 4,m 2 10] .ret
def alM:List aE:=[m 5 7,b5 8 5 0,b5 9 5 1,m 3 8,m 4 9]
def alN:ae:=ay (m 6 0::bX 7 F.nx 6::alM) alL
@[simp] def pt:b2:=⟨11,(ay [bZe 2] alN),[.slot 2]⟩
def alO:ae:=ay [m 10 3,m 2 10] .ret
def alP:List aE:=[m 5 7,b5 8 5 0,b5 9 5 1,m 3 8,m 4 9]
def alQ:ae:=ay (m 6 0::bX 7 F.nx 6::alP) alO
@[simp] def kJ:b2:=⟨11,(ay [bZg 2] alQ),[.slot 2]⟩
def ng:ae:=.seq (.draw [bq 29 1 1,a1 30 29,o 31 (.bin .eql .aZ (.t 30) (.c (.string ⟨#[]⟩))),m 32 31,bZd 33 32 (.fieldAddr 2 (.t 1)),bZd 34 32 (.load false 1 (.t 33)),bZd 35 32 (.bin .eql .aZ (.t 34) (.c (.string ⟨#[]⟩))),o 36 (.pick (.t 32) (.c (.bool true)) (.t 35)),m 37 36,bZd 38 37 (.fieldAddr 1 (.t 1)),bZd 39 37 (.load false 1 (.t 38)),bZd 40 37 (.call F.kJ [(.t 39)]),bZd 41 37 (.fieldAddr 2 (.t 1)),bZd 42 37 (.load false 1 (.t 41)),bZd 43 37 (.call F.kJ [(.t 42)]),bZd 44 37 (.call F.k7 [(.t 40),(.t 43)]),bZd 45 37 (.bin .leq .aZ (.t 44) (ci 0)),o 46 (.pick (.t 37) (.c (.bool true)) (.t 45)),m 2 46] (some ⟨[0,1,2,3,4,5,6,7,8,9,10,12,13,11,14,15,16,17,18],[true,true,true,true,true,true,true,true,true,false,false,false,false,false,true,true,true,true,true],[(13,12)]⟩)) .ret
def ue:ae:=.cond (.t 28) (ay [bZe 2] .ret) .skip
def Od:List aE:=[bZc 26 22 (.un .not (.t 25)),bZd 27 18 (.pick (.t 22) (.t 26) (.c (.bool false))),o 28 (.pick (.t 18) (.c (.bool true)) (.t 27))]
def qv:List aE:=bZc 15 11 (.un .not (.t 14))::bZd 16 7 (.pick (.t 11) (.t 15) (.c (.bool false)))::o 17 (.pick (.t 7) (.c (.bool true)) (.t 16))::m 18 17::bZd 19 18 (.fieldAddr 2 (.t 1))::bZd 20 18 (.load false 1 (.t 19))::bZd 21 18 (.bin .neq .aZ (.t 20) (.c (.string ⟨#[]⟩)))::bZd 22 18 (.aM (.t 21))::bZc 23 22 (.fieldAddr 2 (.t 1))::bZc 24 22 (.load false 1 (.t 23))::bZc 25 22 (.call F.pt [(.t 24)])::Od
def alR:List aE:=jo 6 5::m 7 6::bZd 8 7 (.fieldAddr 1 (.t 1))::bZd 9 7 (.load false 1 (.t 8))::bZd 10 7 (.bin .neq .aZ (.t 9) (.c (.string ⟨#[]⟩)))::bZd 11 7 (.aM (.t 10))::bZc 12 11 (.fieldAddr 1 (.t 1))::bZc 13 11 (.load false 1 (.t 12))::bZc 14 11 (.call F.pt [(.t 13)])::qv
def alS:ae:=.seq (ay (bq 3 3 1::a1 4 3::bX 5 F.pt 4::alR) ue) ng
abbrev T.X8:Nat:=66
@[simp] def vR:b2:=⟨47,(ay [hn 1 66 0,bZe 2] alS),[.slot 2]⟩
def alT:List aE:=[m 42 41,bZc 43 42 (.fieldAddr 4 (.t 2)),bZc 44 42 (.load false 1 (.t 43)),bZc 45 42 (.bin .eql .aZ (.t 44) (.c (.string ⟨#[]⟩))),o 46 (.pick (.t 42) (.t 45) (.c (.bool false))),m 47 46,bZc 48 47 (.fieldAddr 1 (.t 2)),bZc 49 47 (.load false 1 (.t 48)),bZc 50 47 (.bin .geq .aZ (.t 49) (ci 1)),o 51 (.pick (.t 47) (.t 50) (.c (.bool false))),m 52 51,bZc 53 52 (.fieldAddr 1 (.t 2)),bZc 54 52 (.load false 1 (.t 53)),bZc 55 52 (.bin .leq .aZ (.t 54) (ci 3)),o 56 (.pick (.t 52) (.t 55) (.c (.bool false))),m 4 56]
def Cc:ae:=ay (bq 39 3 2::a1 40 39::bX 41 F.pt 40::alT) .ret
def alU:ae:=.aT [o 38 (.bin .add .aZ (.t 11) (ci 1)),m 11 38]
def alV:ae:=.aT [bq 36 0 7,a1 37 36,m 5 37]
def alW:ae:=.cond (.t 35) (ay [bZe 4] .ret) .skip
def alX:List aE:=[jo 18 17,m 19 18,bZd 20 19 (.fieldAddr 1 (.t 7)),bZd 21 19 (.load false 1 (.t 20)),bZd 22 19 (.bin .eql .aZ (.t 21) (.c (.string ⟨#[48]⟩))),o 23 (.pick (.t 19) (.c (.bool true)) (.t 22)),m 24 23,bZd 25 24 (.fieldAddr 0 (.t 7)),bZd 26 24 (.load false 1 (.t 25)),bZd 27 24 (.aM (.t 5)),bZd 28 24 (.bin .leq .aZ (.t 26) (.t 27)),o 29 (.pick (.t 24) (.c (.bool true)) (.t 28)),m 30 29,bZd 31 30 (.fieldAddr 0 (.t 7)),bZd 32 30 (.load false 1 (.t 31)),bZd 33 30 (.aM (.t 1)),bZd 34 30 (.bin .geq .aZ (.t 32) (.t 33)),o 35 (.pick (.t 30) (.c (.bool true)) (.t 34))]
def alY:ae:=.seq (ay (bq 15 1 7::a1 16 15::bX 17 F.pt 16::alX) alW) alV
def alZ:ae:=.seq (.block 1 (ay [bP 13 2 9 11,eR 14 2 13,o 7 (.alloc 64 [(.int .i64 (.ofNat 0)),(.string ⟨#[]⟩)]),c7 2 7 14] alY)) alU
def al0:ae:=.seq (dV 12 0) alZ
def I7:ae:=ay [b7 12 .lss 11 10] al0
def al1:ae:=.block 0 (.loop I7)
def al2:ae:=.seq (ay [bq 8 2 2,a1 9 8,ct 10 9,o 11 (.aM (ci 0))] al1) Cc
def al3:ae:=ay [o 5 (.aM (.c (.int .i64 (.negSucc 0))))] al2
abbrev T.Of:Nat:=39
abbrev T.I8:Nat:=64
@[simp] def vS:b2:=⟨57,(ay [hn 2 39 0,bZe 4] al3),[.slot 4]⟩
def al4:List aE:=[bZc 24 19 (.un .not (.t 23)),o 25 (.pick (.t 19) (.t 24) (.c (.bool false))),m 2 25]
def Oi:ae:=ay (m 17 3::jo 18 17::m 19 18::bZc 20 19 (.fieldAddr 1 (.t 1))::bZc 21 19 (.load false 1 (.t 20))::bZc 22 19 (.y2 F.tW [(.t 1)])::bZc 23 19 (.call F.sy [(.t 21),(.t 22)])::al4) .ret
def al5:List aE:=[m 3 16]
def Fj:ae:=ay (bq 14 0 1::a1 15 14::o 16 (.call F.vW [(.t 15),(.c (.func (.func 69) #[] #[]))])::al5) Oi
def al6:ae:=.cond (.t 13) (ay [bZe 2] .ret) .skip
def al7:ae:=.seq (ay [bq 4 0 1,a1 5 4,ct 6 5,o 7 (.bin .gtr .aZ (.t 6) (ci 100)),m 8 7,bZd 9 8 (.fieldAddr 1 (.t 1)),bZd 10 8 (.load false 1 (.t 9)),bZd 11 8 (.len .l (.t 10)),bZd 12 8 (.bin .gtr .aZ (.t 11) (ci 440)),o 13 (.pick (.t 8) (.c (.bool true)) (.t 12))] al6) Fj
abbrev T.Ya:Nat:=25
@[simp] def pv:b2:=⟨26,(ay [hn 1 25 0,bZe 2] al7),[.slot 2]⟩
def al8:List aE:=[jo 5 4,m 2 5]
def al9:ae:=ay (eR 3 5 1::bX 4 F.vR 3::al8) .ret
abbrev T.Oj:Nat:=66
@[simp] def vT:b2:=⟨6,(ay [hn 1 66 0,bZe 2] al9),[.slot 2]⟩
def ama:List aE:=[jo 9 8,m 3 9]
def amb:ae:=ay (eR 4 5 2::bq 5 0 1::a1 6 5::ct 7 6::ch 8 F.vS 4 7::ama) .ret
abbrev T.axs:Nat:=39
@[simp] def tW:b2:=⟨10,(ay [hn 2 39 0,bZe 3] amb),[.slot 3]⟩
def Dr:ae:=ay [m 29 6,m 30 0,ct 31 30,m 32 1,b7 33 .eql 31 32,m 4 29,m 5 33] .ret
def amc:ae:=.aT [o 28 (.bin .add .aZ (.t 13) (ci 1)),m 13 28]
def amd:ae:=.aT [m 24 6,m 25 9,o 26 (.buildSlice [(.pointer none)] 1 1 [(0,1,(.t 25))]),o 27 (.append 1 8 (.t 24) (.t 26)),m 6 27]
def ame:ae:=.cond (.t 23) (ay [bZx 4,bZe 5] .ret) .skip
def amf:ae:=.seq (ay [m 22 10,jo 23 22] ame) amd
def amg:List aE:=[m 17 19,b5 20 17 0,b5 21 17 1,m 9 20,m 10 21]
def amh:ae:=ay (m 18 8::bX 19 F.nx 18::amg) amf
def ami:ae:=.seq (.block 1 (ay [bP 15 1 11 13,a1 16 15,m 8 16] amh)) amc
def amj:ae:=.seq (dV 14 0) ami
def R1:ae:=ay [b7 14 .lss 13 12] amj
def amk:ae:=.block 0 (.loop R1)
def aml:ae:=.seq (ay [m 11 0,ct 12 11,o 13 (.aM (ci 0))] amk) Dr
def amm:ae:=ay [bZx 6] aml
@[simp] def qt:b2:=⟨34,(ay [bZx 4,bZe 5] amm),[.slot 4,.slot 5]⟩
def amn:List aE:=[m 4 24,bZu 5]
def amo:List aE:=ch 24 F.ke 21 23::amn
def zF:ae:=ay (m 21 1::m 22 6::bX 23 F.kJ 22::amo) .ret
def amp:ae:=.cond (.t 20) (ay [bZg 4,bZe 5] .ret) .skip
def amq:List aE:=[o 16 (.bin .neq .aZ (.t 15) (ci 0)),m 17 16,bZc 18 17 (.aM (.t 6)),bZc 19 17 (.bin .eql .aZ (.t 18) (.c (.string ⟨#[]⟩))),o 20 (.pick (.t 17) (.t 19) (.c (.bool false)))]
def Cs:ae:=.seq (ay (m 14 1::bX 15 F.gE 14::amq) amp) zF
def OM:ae:=.cond (.t 11) (.aT [bq 12 2 2,a1 13 12,m 6 13]) .skip
def amr:List aE:=[o 11 (.bin .lss .aZ (.t 10) (ci 0))]
def ams:ae:=.seq (ay (m 9 1::bX 10 F.gE 9::amr) OM) Cs
def amt:ae:=ay [bq 7 1 2,a1 8 7,m 6 8] ams
abbrev T.Yp:Nat:=66
@[simp] def vV:b2:=⟨25,(ay [hn 2 66 0,bZg 4,bZe 5] amt),[.slot 4,.slot 5]⟩
def amu:List aE:=[m 6 155,bZu 7]
def OP:ae:=ay (m 154 13::bX 155 F.mI 154::amu) .ret
def amv:ae:=.aT [o 153 (.bin .add .aZ (.t 134) (ci 1)),m 134 153]
def amw:List aE:=[m 13 152]
def amx:ae:=.aT (m 150 13::m 151 20::ch 152 F.kG 150 151::amw)
def amy:ae:=.cond (.t 149) (ay [o 6 (.aM (.c (.string ⟨#[]⟩))),bZe 7] .ret) .skip
def Jm:ae:=.seq (ay [m 148 21,jo 149 148] amy) amx
def amz:ae:=.seq (.draw [eR 140 5 19,m 141 10,m 142 18,bP 143 1 141 142,a1 144 143,ch 145 F.vV 140 144,m 139 145,b5 146 139 0,b5 147 139 1,m 20 146,m 21 147] (some ⟨[0,1,2,3,4,5,6,7,8,9,10],gn 5 6,[]⟩)) Jm
def amA:ae:=.seq (.block 7 (ay [m 136 134,bP 137 5 132 134,eR 138 5 137,o 19 (.alloc 66 [(.string ⟨#[]⟩),(.string ⟨#[]⟩),(.string ⟨#[]⟩),(.string ⟨#[]⟩),(.bool false)]),m 18 136,c7 5 19 138] amz)) amv
def amB:ae:=.seq (dV 135 6) amA
def OQ:ae:=ay [b7 135 .lss 134 133] amB
def amC:ae:=.block 6 (.loop OQ)
def Fp:ae:=.seq (ay [bq 131 0 3,a1 132 131,ct 133 132,o 134 (.aM (ci 0))] amC) OP
def amD:ae:=.aT [o 130 (.bin .add .aZ (.t 65) (ci 1)),m 65 130]
def amE:ae:=.aT [o 129 (.bin .add .aZ (.t 107) (ci 1)),m 107 129]
def amF:ae:=.draw [m 111 10,bq 112 0 17,a1 113 112,m 114 10,bq 115 0 17,a1 116 115,bP 117 1 114 116,a1 118 117,bq 119 1 17,a1 120 119,bX 121 F.kJ 120,m 122 8,m 123 14,bP 124 1 122 123,a1 125 124,ch 126 F.ke 121 125,ch 127 F.nW 118 126,bP 128 1 111 113,c7 1 128 127] (some ⟨[0,1,2,3,4,5,6,7,8,9,11,12,13,14,10,15,16,17,18],gn 17 2,[(14,2),(14,5),(14,7),(14,13),(15,2),(15,5),(15,7),(16,2)]⟩)
def amG:ae:=.seq (.block 5 (ay [bP 109 2 105 107,eR 110 2 109,o 17 (.alloc 64 [(.int .i64 (.ofNat 0)),(.string ⟨#[]⟩)]),c7 2 17 110] amF)) amE
def amH:ae:=.seq (dV 108 4) amG
def OY:ae:=ay [b7 108 .lss 107 106] amH
def amI:ae:=.block 4 (.loop OY)
def x6:ae:=ay [bq 104 2 15,a1 105 104,ct 106 105,o 107 (.aM (ci 0))] amI
def qF:ae:=.seq (.draw [m 94 13,m 95 8,m 96 14,bP 97 1 95 96,a1 98 97,bq 99 3 15,a1 100 99,bX 101 F.kJ 100,ch 102 F.ke 98 101,ch 103 F.kG 94 102,m 13 103] (some ⟨[0,1,2,3,4,5,6,7,8,9,10],gn 8 3,[(7,4)]⟩)) x6
def amJ:ae:=.cond (.t 93) (ay [o 6 (.aM (.c (.string ⟨#[]⟩))),bZe 7] .ret) .skip
def amK:List aE:=[bZc 91 85 (.bin .lss .aZ (.t 90) (ci 0)),bZd 92 81 (.pick (.t 85) (.t 91) (.c (.bool false))),o 93 (.pick (.t 81) (.c (.bool true)) (.t 92))]
def amL:List aE:=bZc 79 73 (.bin .gtr .aZ (.t 78) (ci 0))::o 80 (.pick (.t 73) (.t 79) (.c (.bool false)))::m 81 80::bZd 82 81 (.fieldAddr 1 (.t 15))::bZd 83 81 (.load false 1 (.t 82))::bZd 84 81 (.bin .eql .aZ (.t 83) (ci 3))::bZd 85 81 (.aM (.t 84))::bZc 86 85 (.aM (.t 8))::bZc 87 85 (.aM (.t 14))::bZc 88 85 (.ho 1 (.t 86) (.t 87))::bZc 89 85 (.load false 1 (.t 88))::bZc 90 85 (.call F.gE [(.t 89)])::amK
def Jn:ae:=.seq (ay (bq 70 1 15::a1 71 70::o 72 (.bin .eql .aZ (.t 71) (ci 1))::m 73 72::bZc 74 73 (.aM (.t 8))::bZc 75 73 (.aM (.t 14))::bZc 76 73 (.ho 1 (.t 74) (.t 75))::bZc 77 73 (.load false 1 (.t 76))::bZc 78 73 (.call F.gE [(.t 77)])::amL) amJ) qF
def amM:ae:=.seq (.block 3 (ay [m 67 65,bP 68 5 63 65,eR 69 5 68,o 15 (.alloc 39 [(.string ⟨#[]⟩),(.int .i64 (.ofNat 0)),(.slice none 0 0),(.string ⟨#[]⟩),(.string ⟨#[]⟩)]),m 14 67,c7 5 15 69] Jn)) amD
def amN:ae:=.seq (dV 66 2) amM
def O0:ae:=ay [b7 66 .lss 65 64] amN
def amO:ae:=.block 2 (.loop O0)
def Cv:ae:=.seq (ay [bq 62 1 3,a1 63 62,ct 64 63,o 65 (.aM (ci 0))] amO) Fp
def amP:List aE:=[m 13 61]
def amQ:ae:=ay (o 61 (.call F.kp [(ci 0)])::amP) Cv
def amR:ae:=.aT [o 60 (.bin .add .aZ (.t 44) (ci 1)),m 44 60]
def amS:List aE:=[bP 59 1 54 55,c7 1 59 58]
def amT:ae:=.cond (.t 53) (.aT (m 54 10::m 55 11::bq 56 3 12::a1 57 56::bX 58 F.kJ 57::amS)) .skip
def O6:ae:=ay [m 53 2] amT
def amU:List aE:=[bP 52 1 49 50,c7 1 52 51]
def amV:ae:=ay (m 49 10::m 50 11::o 51 (.call F.kp [(ci 0)])::amU) O6
def amW:ae:=.seq (.block 1 (ay [m 46 44,bP 47 5 42 44,eR 48 5 47,o 12 (.alloc 66 [(.string ⟨#[]⟩),(.string ⟨#[]⟩),(.string ⟨#[]⟩),(.string ⟨#[]⟩),(.bool false)]),m 11 46,c7 5 12 48] amV)) amR
def amX:ae:=.seq (dV 45 0) amW
def O5:ae:=ay [b7 45 .lss 44 43] amX
def amY:ae:=.block 0 (.loop O5)
def Jv:ae:=.seq (ay [bq 41 0 3,a1 42 41,ct 43 42,o 44 (.aM (ci 0))] amY) amQ
def O8:ae:=ay [bq 37 0 3,a1 38 37,ct 39 38,o 40 (.mkSlice [(.pointer none)] 8 (.t 39) (.t 39)),m 10 40] Jv
def amZ:ae:=.cond (.t 36) (ay [o 6 (.aM (.c (.string ⟨#[]⟩))),bZe 7] .ret) .skip
def am0:List aE:=[bZd 35 32 (.un .not (.t 34)),o 36 (.pick (.t 32) (.c (.bool true)) (.t 35))]
def O7:ae:=.seq (ay (m 30 9::jo 31 30::m 32 31::bZd 33 32 (.load true 2 (.t 3))::bZd 34 32 (.call F.pv [(.t 33)])::am0) amZ) O8
def am1:List aE:=[m 22 27,b5 28 22 0,b5 29 22 1,m 8 28,m 9 29]
def am2:ae:=ay (m 23 1::bq 24 1 3::a1 25 24::ct 26 25::ch 27 F.qt 23 26::am1) O7
abbrev T.YD:Nat:=25
abbrev T.Jw:Nat:=66
abbrev T.O2:Nat:=39
abbrev T.OZ:Nat:=64
abbrev T.OS:Nat:=66
@[simp] def ub:b2:=⟨156,(ay [hn 3 25 0,o 6 (.aM (.c (.string ⟨#[]⟩))),bZe 7] am2),[.slot 6,.slot 7]⟩
def am3:List aE:=[o 8 (.bin .geq .aZ (.t 7) (ci 0)),m 4 8]
def am4:ae:=ay (m 5 0::m 6 1::ch 7 F.uc 5 6::am3) .ret
@[simp] def vW:b2:=⟨9,(ay [bZe 4] am4),[.slot 4]⟩
def am5:List aE:=[o 8 (.bin .geq .aZ (.t 7) (ci 0)),m 4 8]
def am6:ae:=ay (m 5 0::m 6 1::ch 7 F.vX 5 6::am5) .ret
@[simp] def sy:b2:=⟨9,(ay [bZe 4] am6),[.slot 4]⟩
def Ce:ae:=ay [o 4 (.aM (.c (.int .i64 (.negSucc 0))))] .ret
def am7:ae:=.aT [o 18 (.bin .add .aZ (.t 8) (ci 1)),m 8 18]
def am8:ae:=.cond (.t 16) (ay [m 17 5,m 4 17] .ret) .skip
def am9:ae:=ay [m 11 1,m 12 0,m 13 5,bP 14 5 12 13,eR 15 5 14,o 16 (.mP (.t 11) [(.t 15)])] am8
def ana:ae:=.seq (.block 1 (ay [m 10 8,m 5 10] am9)) am7
def anb:ae:=.seq (dV 9 0) ana
def Og:ae:=ay [b7 9 .lss 8 7] anb
def anc:ae:=.block 0 (.loop Og)
def ane:ae:=.seq (ay [m 6 0,ct 7 6,o 8 (.aM (ci 0))] anc) Ce
@[simp] def uc:b2:=⟨19,(ay [o 4 (.aM (ci 0))] ane),[.slot 4]⟩
def anf:ae:=ay [o 4 (.aM (.c (.int .i64 (.negSucc 0))))] .ret
def ang:ae:=.aT [o 18 (.bin .add .aZ (.t 8) (ci 1)),m 8 18]
def anh:ae:=.cond (.t 16) (ay [m 17 5,m 4 17] .ret) .skip
def ani:ae:=ay [m 11 1,m 12 0,m 13 5,bP 14 5 12 13,eR 15 5 14,o 16 (.mP (.t 11) [(.t 15)])] anh
def anj:ae:=.seq (.block 1 (ay [m 10 8,m 5 10] ani)) ang
def ank:ae:=.seq (dV 9 0) anj
def anl:ae:=ay [b7 9 .lss 8 7] ank
def anm:ae:=.block 0 (.loop anl)
def ann:ae:=.seq (ay [m 6 0,ct 7 6,o 8 (.aM (ci 0))] anm) anf
@[simp] def vX:b2:=⟨19,(ay [o 4 (.aM (ci 0))] ann),[.slot 4]⟩
def bUU:ae:=ay [o 5 (.buildSlice [] 5 0 []),m 6 0,o 7 (.append 5 72 (.t 5) (.t 6)),m 2 7] .ret
def bUV:ae:=.cond (.t 4) (ay [bZx 2] .ret) .skip
def bUW:ae:=.seq (ay [m 3 0,o 4 (.bin .eql (.nil .jN) (.t 3) (.c (.slice none 0 0)))] bUV) bUU
@[simp] def bYP:b2:=⟨8,(ay [bZx 2] bUW),[.slot 2]⟩
def I':ae:=ay [m 27 5,m 4 27] .ret
def ano:ae:=.aT [o 26 (.bin .add .aZ (.t 11) (ci 1)),m 11 26]
def anp:ae:=.draw [m 15 5,bq 16 1 7,a1 17 16,bX 18 F.kJ 17,m 19 1,bq 20 0 7,a1 21 20,bP 22 1 19 21,a1 23 22,ch 24 F.ke 18 23,ch 25 F.kG 15 24,m 5 25] (some ⟨[0,1,2,4,5,6,7,8,3,9,10,11],gn 9 3,[(8,5),(8,7)]⟩)
def anq:ae:=.seq (.block 1 (ay [bP 13 2 9 11,eR 14 2 13,o 7 (.alloc 64 [(.int .i64 (.ofNat 0)),(.string ⟨#[]⟩)]),c7 2 7 14] anp)) ano
def anr:ae:=.seq (dV 12 0) anq
def Ja:ae:=ay [b7 12 .lss 11 10] anr
def ans:ae:=.block 0 (.loop Ja)
def ant:ae:=.seq (ay [m 9 0,ct 10 9,o 11 (.aM (ci 0))] ans) I'
def anu:List aE:=[m 5 8]
def anv:ae:=ay (o 8 (.call F.kp [(ci 0)])::anu) ant
abbrev T.Jb:Nat:=64
@[simp] def tX:b2:=⟨28,(ay [bZg 4] anv),[.slot 4]⟩
def anw:ae:=ay [m 14 1,o 15 (.bin .eql .aZ (.t 14) (ci 0)),m 4 15] .ret
def anx:ae:=.cond (.t 10) (ay [m 12 1,o 13 (.bin .geq .aZ (.t 12) (ci 0)),m 4 13] .ret) .skip
def anz:ae:=.cond (.t 6) (ay [m 8 1,o 9 (.bin .leq .aZ (.t 8) (ci 0)),m 4 9] .ret) (ay [o 11 (.bin .eql .aZ (.t 5) (ci 3)),m 10 11] anx)
def anA:ae:=.block 0 (ay [o 7 (.bin .eql .aZ (.t 5) (ci 1)),m 6 7] anz)
def anB:ae:=.seq (ay [m 5 0] anA) anw
@[simp] def tY:b2:=⟨16,(ay [bZe 4] anB),[.slot 4]⟩
def anC:List aE:=[jo 67 66,m 4 67]
def Cq:ae:=ay (bq 63 1 2::a1 64 63::o 65 (.y2 F.sw [(.t 5)])::ch 66 F.sy 64 65::anC) .ret
def anD:ae:=.aT [o 62 (.bin .add .aZ (.t 27) (ci 1)),m 27 62]
def jX:ae:=.cond (.t 61) (ay [bZe 4] .ret) .skip
def Jg:ae:=.seq (.draw [bq 32 1 8,a1 33 32,o 34 (.bin .neq .aZ (.t 33) (.c (.string ⟨#[]⟩))),m 35 34,bZc 36 35 (.load false 1 (.t 5)),bZc 37 35 (.aM (.t 7)),bZc 38 35 (.ho 1 (.t 36) (.t 37)),bZc 39 35 (.load false 1 (.t 38)),bZc 40 35 (.fieldAddr 1 (.t 8)),bZc 41 35 (.load false 1 (.t 40)),bZc 42 35 (.call F.kJ [(.t 41)]),bZc 43 35 (.call F.k7 [(.t 39),(.t 42)]),bZc 44 35 (.bin .lss .aZ (.t 43) (ci 0)),o 45 (.pick (.t 35) (.t 44) (.c (.bool false))),m 46 45,bZd 47 46 (.fieldAddr 2 (.t 8)),bZd 48 46 (.load false 1 (.t 47)),bZd 49 46 (.bin .neq .aZ (.t 48) (.c (.string ⟨#[]⟩))),bZd 50 46 (.aM (.t 49)),bZc 51 50 (.load false 1 (.t 5)),bZc 52 50 (.aM (.t 7)),bZc 53 50 (.ho 1 (.t 51) (.t 52)),bZc 54 50 (.load false 1 (.t 53)),bZc 55 50 (.fieldAddr 2 (.t 8)),bZc 56 50 (.load false 1 (.t 55)),bZc 57 50 (.call F.kJ [(.t 56)]),bZc 58 50 (.call F.k7 [(.t 54),(.t 57)]),bZc 59 50 (.bin .gtr .aZ (.t 58) (ci 0)),bZd 60 46 (.pick (.t 50) (.t 59) (.c (.bool false))),o 61 (.pick (.t 46) (.c (.bool true)) (.t 60))] (some ⟨[0,1,2,3,4,5,6,7,8,9,10,11,12,13,14,15,16,17,18,19,20,21,22,23,24,25,26,27,28,29],[true,true,true,true,false,false,false,false,false,false,false,true,true,true,true,true,true,true,true,false,false,false,false,false,false,false,true,true,true,true],[(10,4),(10,7),(25,19),(25,22)]⟩)) jX
def anE:ae:=.seq (.block 1 (ay [m 29 27,bP 30 5 25 27,eR 31 5 30,o 8 (.alloc 66 [(.string ⟨#[]⟩),(.string ⟨#[]⟩),(.string ⟨#[]⟩),(.string ⟨#[]⟩),(.bool false)]),m 7 29,c7 5 8 31] Jg)) anD
def anF:ae:=.seq (dV 28 0) anE
def OD:ae:=ay [b7 28 .lss 27 26] anF
def anG:ae:=.block 0 (.loop OD)
def Jh:ae:=.seq (ay [bq 24 0 2,a1 25 24,ct 26 25,o 27 (.aM (ci 0))] anG) Cq
def anH:ae:=.cond (.t 23) (ay [bZe 4] .ret) .skip
def anI:List aE:=[bZd 22 19 (.un .not (.t 21)),o 23 (.pick (.t 19) (.c (.bool true)) (.t 22))]
def OC:ae:=.seq (ay (m 17 6::jo 18 17::m 19 18::bZd 20 19 (.load true 2 (.t 2))::bZd 21 19 (.call F.pv [(.t 20)])::anI) anH) Jh
def anJ:List aE:=[m 9 14,b5 15 9 0,b5 16 9 1,o 5 (.alloc 56 [(.slice none 0 0)]),c7 1 5 15,m 6 16]
def anK:ae:=ay (m 10 1::bq 11 0 2::a1 12 11::ct 13 12::ch 14 F.qt 10 13::anJ) OC
abbrev T.OB:Nat:=25
abbrev T.Fm:Nat:=56
abbrev T.OE:Nat:=66
@[simp] def tZ:b2:=⟨68,(ay [hn 2 25 0,bZe 4] anK),[.slot 4]⟩
def anL:ae:=.seq (.draw [bq 4 1 2,a1 5 4,bq 6 2 2,a1 7 6,a1 8 1,ch 9 F.tX 7 8,bq 10 3 2,a1 11 10,bX 12 F.kJ 11,ch 13 F.k7 9 12,ch 14 F.tY 5 13,jo 15 14,m 3 15] (some ⟨[0,1,2,3,4,6,7,5,8,9,10,11,12],gn 10 3,[(7,1),(7,6),(8,1),(9,1)]⟩)) .ret
abbrev T.Yj:Nat:=39
@[simp] def sw:b2:=⟨16,(ay [hn 2 39 0,bZe 3] anL),[.slot 3]⟩
def Je:ae:=ay [m 28 5,m 4 28] .ret
def an1:ae:=.aT [o 27 (.bin .add .aZ (.t 12) (ci 1)),m 12 27]
def an2:ae:=.draw [m 17 5,bq 18 3 7,a1 19 18,bX 20 F.kJ 19,m 21 1,m 22 6,bP 23 1 21 22,a1 24 23,ch 25 F.ke 20 24,ch 26 F.kG 17 25,m 5 26] (some ⟨[0,1,2,4,5,6,7,3,8,9,10],gn 8 3,[(7,6)]⟩)
def an3:ae:=.seq (.block 1 (ay [m 14 12,bP 15 5 10 12,eR 16 5 15,o 7 (.alloc 66 [(.string ⟨#[]⟩),(.string ⟨#[]⟩),(.string ⟨#[]⟩),(.string ⟨#[]⟩),(.bool false)]),m 6 14,c7 5 7 16] an2)) an1
def an4:ae:=.seq (dV 13 0) an3
def Oq:ae:=ay [b7 13 .lss 12 11] an4
def an5:ae:=.block 0 (.loop Oq)
def Oo:ae:=.seq (ay [bq 9 0 2,a1 10 9,ct 11 10,o 12 (.aM (ci 0))] an5) Je
def an6:List aE:=[m 5 8]
def an7:ae:=ay (o 8 (.call F.kp [(ci 0)])::an6) Oo
abbrev T.Yf:Nat:=25
abbrev T.Ot:Nat:=66
@[simp] def t':b2:=⟨29,(ay [hn 2 25 0,bZg 4] an7),[.slot 4]⟩
def an8:List aE:=[m 4 26,bZu 5]
def an9:List aE:=bX 26 F.mI 25::an8
def Ov:ae:=ay (eR 23 2 2::m 24 6::ch 25 F.t' 23 24::an9) .ret
def aoa:ae:=.cond (.t 22) (ay [o 4 (.aM (.c (.string ⟨#[]⟩))),bZe 5] .ret) .skip
def aob:List aE:=[bZd 21 18 (.un .not (.t 20)),o 22 (.pick (.t 18) (.c (.bool true)) (.t 21))]
def Ou:ae:=.seq (ay (m 16 7::jo 17 16::m 18 17::bZd 19 18 (.load true 2 (.t 2))::bZd 20 18 (.call F.pv [(.t 19)])::aob) aoa) Ov
def aoc:List aE:=[m 8 13,b5 14 8 0,b5 15 8 1,m 6 14,m 7 15]
def aod:ae:=ay (m 9 1::bq 10 0 2::a1 11 10::ct 12 11::ch 13 F.qt 9 12::aoc) Ou
abbrev T.Yh:Nat:=25
@[simp] def ua:b2:=⟨27,(ay [hn 2 25 0,o 4 (.aM (.c (.string ⟨#[]⟩))),bZe 5] aod),[.slot 4,.slot 5]⟩
def aoe:List aE:=[bZc 69 64 (.bin .lss .aZ (.t 68) (ci 0)),o 70 (.pick (.t 64) (.t 69) (.c (.bool false))),m 4 70]
def aof:List aE:=bZc 68 64 (.call F.gE [(.t 67)])::aoe
def OL:ae:=ay (m 62 9::jo 63 62::m 64 63::bZc 65 64 (.load true 2 (.t 2))::bZc 66 64 (.load false 1 (.t 5))::bZc 67 64 (.call F.t' [(.t 65),(.t 66)])::aof) .ret
def aog:List aE:=[m 9 61]
def qC:ae:=ay (bq 58 1 2::a1 59 58::o 60 (.y2 F.sx [(.t 5)])::ch 61 F.sy 59 60::aog) OL
def aoh:ae:=.aT [o 57 (.bin .add .aZ (.t 28) (ci 1)),m 28 57]
def aoi:ae:=.cond (.t 56) (ay [bZe 4] .ret) .skip
def aoj:List aE:=[bZc 54 48 (.bin .gtr .aZ (.t 53) (ci 0)),bZd 55 44 (.pick (.t 48) (.t 54) (.c (.bool false))),o 56 (.pick (.t 44) (.c (.bool true)) (.t 55))]
def aok:List aE:=bZc 42 36 (.bin .lss .aZ (.t 41) (ci 0))::o 43 (.pick (.t 36) (.t 42) (.c (.bool false)))::m 44 43::bZd 45 44 (.fieldAddr 2 (.t 8))::bZd 46 44 (.load false 1 (.t 45))::bZd 47 44 (.bin .neq .aZ (.t 46) (.c (.string ⟨#[]⟩)))::bZd 48 44 (.aM (.t 47))::bZc 49 48 (.load false 1 (.t 5))::bZc 50 48 (.aM (.t 7))::bZc 51 48 (.ho 1 (.t 49) (.t 50))::bZc 52 48 (.load false 1 (.t 51))::bZc 53 48 (.call F.gE [(.t 52)])::aoj
def aol:ae:=ay (bq 33 1 8::a1 34 33::o 35 (.bin .neq .aZ (.t 34) (.c (.string ⟨#[]⟩)))::m 36 35::bZc 37 36 (.load false 1 (.t 5))::bZc 38 36 (.aM (.t 7))::bZc 39 36 (.ho 1 (.t 37) (.t 38))::bZc 40 36 (.load false 1 (.t 39))::bZc 41 36 (.call F.gE [(.t 40)])::aok) aoi
def aom:ae:=.seq (.block 1 (ay [m 30 28,bP 31 5 26 28,eR 32 5 31,o 8 (.alloc 66 [(.string ⟨#[]⟩),(.string ⟨#[]⟩),(.string ⟨#[]⟩),(.string ⟨#[]⟩),(.bool false)]),m 7 30,c7 5 8 32] aol)) aoh
def aon:ae:=.seq (dV 29 0) aom
def OJ:ae:=ay [b7 29 .lss 28 27] aon
def aoo:ae:=.block 0 (.loop OJ)
def Ji:ae:=.seq (ay [bq 25 0 2,a1 26 25,ct 27 26,o 28 (.aM (ci 0))] aoo) qC
def aop:ae:=.cond (.t 24) (ay [bZe 4] .ret) .skip
def aoq:List aE:=[bZd 23 20 (.un .not (.t 22)),o 24 (.pick (.t 20) (.c (.bool true)) (.t 23))]
def OH:ae:=.seq (ay (m 18 6::jo 19 18::m 20 19::bZd 21 20 (.load true 2 (.t 2))::bZd 22 20 (.call F.pv [(.t 21)])::aoq) aop) Ji
def aor:List aE:=[m 10 15,b5 16 10 0,b5 17 10 1,o 5 (.alloc 56 [(.slice none 0 0)]),c7 1 5 16,m 6 17]
def aos:ae:=ay (m 11 1::bq 12 0 2::a1 13 12::ct 14 13::ch 15 F.qt 11 14::aor) OH
abbrev T.OG:Nat:=25
abbrev T.Fo:Nat:=56
abbrev T.OK:Nat:=66
@[simp] def vU:b2:=⟨71,(ay [hn 2 25 0,bZe 4] aos),[.slot 4]⟩
def aot:ae:=.seq (.draw [bq 4 1 2,a1 5 4,bq 6 2 2,a1 7 6,a1 8 1,ch 9 F.tX 7 8,bX 10 F.gE 9,ch 11 F.tY 5 10,jo 12 11,m 3 12] (some ⟨[0,1,2,3,4,5,6,7,8,9],gn 7 3,[(5,1),(6,1)]⟩)) .ret
abbrev T.Yn:Nat:=39
@[simp] def sx:b2:=⟨13,(ay [hn 2 39 0,bZe 3] aot),[.slot 3]⟩
def R6:ae:=ay [bZe 4] .ret
def Az:List aE:=[o 52 (.pick (.t 47) (.t 51) (.c (.bool false))),m 53 52,bZc 54 53 (.fieldAddr 4 (.t 3)),bZc 55 53 (.load false 1 (.t 54)),bZc 56 53 (.len .l (.t 55)),bZc 57 53 (.bin .eql .aZ (.t 56) (ci 0)),o 58 (.pick (.t 53) (.t 57) (.c (.bool false))),m 4 58]
def R':ae:=ay (m 31 6::m 32 31::bZc 33 32 (.aM (.t 8))::o 34 (.pick (.t 32) (.t 33) (.c (.bool false)))::m 35 34::bZc 36 35 (.aM (.t 5))::bZc 37 35 (.fieldAddr 1 (.t 3))::bZc 38 35 (.load false 1 (.t 37))::bZc 39 35 (.bin .eql .aZ (.t 36) (.t 38))::o 40 (.pick (.t 35) (.t 39) (.c (.bool false)))::m 41 40::bZc 42 41 (.aM (.t 7))::bZc 43 41 (.fieldAddr 1 (.t 3))::bZc 44 41 (.load false 1 (.t 43))::bZc 45 41 (.bin .eql .aZ (.t 42) (.t 44))::o 46 (.pick (.t 41) (.t 45) (.c (.bool false)))::m 47 46::bZc 48 47 (.load true 2 (.t 2))::bZc 49 47 (.fieldAddr 2 (.t 3))::bZc 50 47 (.load false 1 (.t 49))::bZc 51 47 (.call F.tZ [(.t 48),(.t 50)])::Az) .ret
def R9:List aE:=[m 24 28,b5 29 24 0,b5 30 24 1,m 7 29,m 8 30]
def R8:ae:=ay (eR 25 2 2::bq 26 3 3::a1 27 26::o 28 (.call F.ub [(.t 25),(.t 27),(.c (.bool true))])::R9) R'
def R7:List aE:=[m 17 21,b5 22 17 0,b5 23 17 1,m 5 22,m 6 23]
def La:List aE:=[bZc 77 74 (.bin .gtr .aZ (.t 76) (ci 0)),o 78 (.pick (.t 74) (.t 77) (.c (.bool false))),m 79 78,bZc 80 79 (.fieldAddr 1 (.t 3)),bZc 81 79 (.load false 1 (.t 80)),bZc 82 79 (.bin .eql .aZ (.t 81) (.c (.string ⟨#[]⟩))),o 83 (.pick (.t 79) (.t 82) (.c (.bool false))),m 84 83,bZc 85 84 (.fieldAddr 2 (.t 3)),bZc 86 84 (.load false 1 (.t 85)),bZc 87 84 (.len .l (.t 86)),bZc 88 84 (.fieldAddr 4 (.t 3)),bZc 89 84 (.load false 1 (.t 88)),bZc 90 84 (.len .l (.t 89)),bZc 91 84 (.bin .add .aZ (.t 87) (.t 90)),bZc 92 84 (.bin .eql .aZ (.t 91) (ci 0)),o 93 (.pick (.t 84) (.t 92) (.c (.bool false))),m 4 93]
def Sd:ae:=ay (m 73 10::m 74 73::bZc 75 74 (.aM (.t 11))::bZc 76 74 (.call F.gE [(.t 75)])::La) .ret
def Sc:List aE:=[m 68 70,b5 71 68 0,b5 72 68 1,m 11 71,m 12 72]
def Sb:ae:=ay (m 69 9::bX 70 F.nx 69::Sc) Sd
def Sa:List aE:=[m 61 65,b5 66 61 0,b5 67 61 1,m 9 66,m 10 67]
def Lb:List aE:=[o 105 (.pick (.t 100) (.t 104) (.c (.bool false))),m 106 105,bZc 107 106 (.fieldAddr 1 (.t 3)),bZc 108 106 (.load false 1 (.t 107)),bZc 109 106 (.bin .eql .aZ (.t 108) (.c (.string ⟨#[]⟩))),o 110 (.pick (.t 106) (.t 109) (.c (.bool false))),m 111 110,bZc 112 111 (.fieldAddr 3 (.t 3)),bZc 113 111 (.load false 1 (.t 112)),bZc 114 111 (.len .l (.t 113)),bZc 115 111 (.bin .eql .aZ (.t 114) (ci 0)),o 116 (.pick (.t 111) (.t 115) (.c (.bool false))),m 4 116]
def Se:List aE:=m 100 99::bZc 101 100 (.load true 2 (.t 2))::bZc 102 100 (.fieldAddr 4 (.t 3))::bZc 103 100 (.load false 1 (.t 102))::bZc 104 100 (.call F.vU [(.t 101),(.t 103)])::Lb
def aou:ae:=.cond (.t 94) (ay (eR 96 2 2::bq 97 2 3::a1 98 97::ch 99 F.tZ 96 98::Se) .ret) .skip
def aov:ae:=.cond (.t 59) (ay (eR 62 2 2::bq 63 3 3::a1 64 63::o 65 (.call F.ub [(.t 62),(.t 64),(.c (.bool false))])::Sa) Sb) (ay [o 95 (.bin .eql .aZ (.t 14) (ci 3)),m 94 95] aou)
def R5:ae:=.cond (.t 15) (ay (eR 18 2 2::bq 19 2 3::a1 20 19::ch 21 F.ua 18 20::R7) R8) (ay [o 60 (.bin .eql .aZ (.t 14) (ci 2)),m 59 60] aov)
def aow:ae:=.block 0 (ay [o 16 (.bin .eql .aZ (.t 14) (ci 1)),m 15 16] R5)
def aox:ae:=.seq (ay [bq 13 0 3,a1 14 13] aow) R6
abbrev T.aCn:Nat:=25
abbrev T.aCo:Nat:=30
@[simp] def s7:b2:=⟨117,(ay [hn 2 25 0,hn 3 30 1,bZe 4] aox),[.slot 4]⟩
def aoy:ae:=ay [m 12 3,m 2 12] .ret
def aoz:List aE:=[m 7 9,b5 10 7 0,b5 11 7 1,m 3 10,m 4 11]
def aoA:ae:=ay (m 8 0::bX 9 F.nx 8::aoz) aoy
def aoB:ae:=.cond (.t 6) (ay [bZg 2] .ret) .skip
def aoC:ae:=.seq (ay [m 5 0,o 6 (.bin .eql .aZ (.t 5) (.c (.string ⟨#[]⟩)))] aoB) aoA
@[simp] def pK:b2:=⟨13,(ay [bZg 2] aoC),[.slot 2]⟩
def aoD:List aE:=[m 2 15]
def aoE:ae:=ay (o 15 (.call F.kp [(ci 0)])::aoD) .ret
def aoF:ae:=.cond (.t 9) (ay [bq 13 1 1,a1 14 13,m 2 14] .ret) .skip
def aoG:ae:=.cond (.t 3) (ay [bq 7 0 1,a1 8 7,m 2 8] .ret) (ay [bq 10 1 1,a1 11 10,o 12 (.bin .neq (.nil .ptr) (.t 11) (.c (.pointer none))),m 9 12] aoF)
def aoH:ae:=.seq (.block 0 (ay [bq 4 0 1,a1 5 4,o 6 (.bin .neq (.nil .ptr) (.t 5) (.c (.pointer none))),m 3 6] aoG)) aoE
@[simp] def wV:b2:=⟨16,(ay [hn 1 122 0,bZg 2] aoH),[.slot 2]⟩
def aoI:ae:=ay [m 163 3,m 2 163] .ret
def aoJ:ae:=.aT [o 162 (.bin .add .aZ (.t 59) (ci 1)),m 59 162]
def DL:ae:=.draw [m 128 3,m 129 3,m 130 3,m 131 3,dq 132 131,bq 133 5 132,a1 134 133,m 135 10,o 136 (.buildSlice [(.slice none 0 0)] 1 1 [(0,1,(.t 135))]),o 137 (.append 1 24 (.t 134) (.t 136)),m 138 3,dq 139 138,bq 140 2 139,a1 141 140,eR 142 3 9,o 143 (.buildSlice [(.pointer none),(.pointer none),(.pointer none)] 3 1 [(0,3,(.t 142))]),o 144 (.append 3 24 (.t 141) (.t 143)),m 145 3,dq 146 145,bq 147 3 146,a1 148 147,bq 149 0 1,a1 150 149,ct 151 150,m 152 7,b7 153 .add 151 152,o 154 (.buildSlice [(.int .i64 (.ofNat 0))] 1 1 [(0,1,(.t 153))]),o 155 (.append 1 8 (.t 148) (.t 154)),dq 156 128,bq 157 5 156,c7 1 157 137,dq 158 129,bq 159 2 158,c7 1 159 144,dq 160 130,bq 161 3 160,c7 1 161 155] (some ⟨[0,1,2,3,4,5,6,7,8,9,10,11,12,13,14,15,16,17,18,19,20,21,22,23,24,25,26,27,28,29,30,31,32,33,34,35,36],gn 27 10,[(8,6),(8,13),(9,13),(8,14),(9,14),(15,6),(15,9),(15,13),(8,20),(9,20),(15,20),(16,20),(8,22),(9,22),(15,22),(16,22),(8,23),(9,23),(15,23),(16,23),(26,6),(26,9),(26,13),(26,14),(26,16),(26,20)]⟩)
def TQ:ae:=.aT [o 127 (.bin .add .aZ (.t 97) (ci 1)),m 97 127]
def Hb:ae:=.draw [bq 108 2 9,a1 109 108,m 110 10,bq 111 0 13,a1 112 111,bP 113 1 110 112,a1 114 113,m 115 3,dq 116 115,bq 117 2 116,a1 118 117,bq 119 0 13,a1 120 119,bP 121 3 118 120,bq 122 2 121,a1 123 122,ch 124 F.ke 114 123,ch 125 F.kG 109 124,bq 126 2 9,c7 1 126 125] (some ⟨[0,1,2,3,4,5,6,7,8,9,10,11,12,13,14,15,16,17,18,19],gn 17 3,[(16,1)]⟩)
def aoK:ae:=.seq (.draw [m 101 10,bq 102 0 13,a1 103 102,bq 104 1 13,a1 105 104,bX 106 F.pK 105,bP 107 1 101 103,c7 1 107 106] (some ⟨[0,1,2,3,4,5,6,7],gn 6 2,[(5,2)]⟩)) Hb
def aoL:ae:=.seq (.block 7 (ay [bP 99 2 95 97,eR 100 2 99,o 13 (.alloc 64 [(.int .i64 (.ofNat 0)),(.string ⟨#[]⟩)]),c7 2 13 100] aoK)) TQ
def aoM:ae:=.seq (dV 98 6) aoL
def TP:ae:=ay [b7 98 .lss 97 96] aoM
def aoN:ae:=.block 6 (.loop TP)
def Ha:ae:=.seq (ay [bq 94 2 8,a1 95 94,ct 96 95,o 97 (.aM (ci 0))] aoN) DL
def aoO:ae:=.aT [o 93 (.bin .add .aZ (.t 86) (ci 1)),m 86 93]
def TS:List aE:=[bP 92 1 89 90,c7 1 92 91]
def aoP:ae:=.aT (m 89 10::m 90 11::o 91 (.call F.kp [(ci 0)])::TS)
def aoQ:ae:=.seq (.block 5 (ay [m 88 86,m 11 88] aoP)) aoO
def aoR:ae:=.seq (dV 87 4) aoQ
def TR:ae:=ay [b7 87 .lss 86 85] aoR
def aoS:ae:=.block 4 (.loop TR)
def aoT:ae:=.seq (ay [m 84 10,ct 85 84,o 86 (.aM (ci 0))] aoS) Ha
def A1:ae:=ay [bq 80 0 1,a1 81 80,ct 82 81,o 83 (.mkSlice [(.pointer none)] 8 (.t 82) (.t 82)),m 10 83] aoT
def T1:List aE:=[bq 79 1 9,c7 1 79 78]
def T0:ae:=.cond (.t 75) (.aT (bq 76 3 8::a1 77 76::bX 78 F.pK 77::T1)) .skip
def A2:ae:=.seq (ay [bq 73 1 8,a1 74 73,o 75 (.bin .neq .aZ (.t 74) (ci 3))] T0) A1
def T2:List aE:=[bq 72 0 9,c7 1 72 71]
def TZ:ae:=.cond (.t 68) (.aT (bq 69 3 8::a1 70 69::bX 71 F.pK 70::T2)) .skip
def TX:ae:=.seq (ay [bq 66 1 8,a1 67 66,o 68 (.bin .neq .aZ (.t 67) (ci 1))] TZ) A2
def TW:List aE:=[o 65 (.build [(.pointer none),(.pointer none),(.pointer none)] [(2,1,(.t 64))]),o 9 (.alloc 122 [(.pointer none),(.pointer none),(.pointer none)]),c7 3 9 65]
def TT:ae:=ay (o 64 (.call F.kp [(ci 0)])::TW) TX
def aoU:ae:=.seq (.block 3 (ay [m 61 59,bP 62 5 57 59,eR 63 5 62,o 8 (.alloc 39 [(.string ⟨#[]⟩),(.int .i64 (.ofNat 0)),(.slice none 0 0),(.string ⟨#[]⟩),(.string ⟨#[]⟩)]),m 7 61,c7 5 8 63] TT)) aoJ
def aoV:ae:=.seq (dV 60 2) aoU
def T5:ae:=ay [b7 60 .lss 59 58] aoV
def aoW:ae:=.block 2 (.loop T5)
def T4:ae:=.seq (ay [bq 56 1 1,a1 57 56,ct 58 57,o 59 (.aM (ci 0))] aoW) aoI
def aoX:ae:=.aT [o 55 (.bin .add .aZ (.t 20) (ci 1)),m 20 55]
def G6:ae:=.draw [m 35 3,m 36 3,m 37 3,dq 38 37,bq 39 2 38,a1 40 39,eR 41 3 6,o 42 (.buildSlice [(.pointer none),(.pointer none),(.pointer none)] 3 1 [(0,3,(.t 41))]),o 43 (.append 3 24 (.t 40) (.t 42)),m 44 3,dq 45 44,bq 46 4 45,a1 47 46,m 48 4,o 49 (.buildSlice [(.int .i64 (.ofNat 0))] 1 1 [(0,1,(.t 48))]),o 50 (.append 1 8 (.t 47) (.t 49)),dq 51 35,bq 52 2 51,c7 1 52 43,dq 53 36,bq 54 4 53,c7 1 54 50] (some ⟨[0,1,2,3,4,5,6,7,8,9,10,11,12,13,14,15,16,17,18,19,20,21],gn 15 7,[(7,5),(7,12),(8,12),(14,5),(14,6),(14,8),(14,12)]⟩)
def TL:List aE:=[bq 34 2 6,c7 1 34 33]
def DI:ae:=ay (eR 32 3 6::bX 33 F.wV 32::TL) G6
def TK:ae:=.seq (.draw [bq 25 1 5,a1 26 25,bX 27 F.pK 26,bq 28 2 5,a1 29 28,bX 30 F.pK 29,o 31 (.build [(.pointer none),(.pointer none),(.pointer none)] [(0,1,(.t 27)),(1,1,(.t 30))]),o 6 (.alloc 122 [(.pointer none),(.pointer none),(.pointer none)]),c7 3 6 31] (some ⟨[0,1,3,4,7,2,5,6,8],gn 8 1,[(4,1),(4,3),(5,3),(4,5),(4,6)]⟩)) DI
def aoY:ae:=.seq (.block 1 (ay [m 22 20,bP 23 5 18 20,eR 24 5 23,o 5 (.alloc 66 [(.string ⟨#[]⟩),(.string ⟨#[]⟩),(.string ⟨#[]⟩),(.string ⟨#[]⟩),(.bool false)]),m 4 22,c7 5 5 24] TK)) aoX
def aoZ:ae:=.seq (dV 21 0) aoY
def T3:ae:=ay [b7 21 .lss 20 19] aoZ
def ao0:ae:=.block 0 (.loop T3)
def ao1:ae:=.seq (ay [bq 17 0 1,a1 18 17,ct 19 18,o 20 (.aM (ci 0))] ao0) T4
def ao2:ae:=ay [eR 14 2 1,o 15 (.build [(.slice none 0 0),(.slice none 0 0),(.slice none 0 0),(.slice none 0 0),(.slice none 0 0),(.slice none 0 0)] [(0,2,(.t 14))]),hn 16 120 15,m 3 16] ao1
abbrev T.aDv:Nat:=25
abbrev T.aCs:Nat:=120
abbrev T.aDC:Nat:=66
abbrev T.aDw:Nat:=122
abbrev T.aD9:Nat:=39
abbrev T.aD1:Nat:=122
abbrev T.aD2:Nat:=64
@[simp] def wW:b2:=⟨164,(ay [hn 1 25 0,bZg 2] ao2),[.slot 2]⟩
def ao3:ae:=.aT [o 73 (.bin .add .aZ (.t 36) (ci 1)),m 36 73]
def Lf:ae:=.draw [m 59 9,m 60 9,dq 61 60,bq 62 2 61,a1 63 62,m 64 8,m 65 1,bP 66 1 64 65,a1 67 66,m 68 2,ch 69 F.ke 67 68,ch 70 F.kG 63 69,dq 71 59,bq 72 2 71,c7 1 72 70] (some ⟨[0,1,2,3,4,5,6,7,8,9,10,11,12,13,14],gn 11 4,[(10,4)]⟩)
def ao4:ae:=.cond (.t 46) (.seq (.draw [m 47 0,dq 48 47,bq 49 2 48,a1 50 49,m 51 0,dq 52 51,bq 53 3 52,a1 54 53,m 55 7,bP 56 1 54 55,a1 57 56,bP 58 3 50 57,m 9 58] (some ⟨[0,1,2,3,4,5,6,7,8,9,10,11,12],gn 11 2,[]⟩)) Lf) .skip
def ao5:List aE:=[o 46 (.bin .neq .aZ (.t 45) (ci 0))]
def ao6:ae:=ay (m 41 8::m 42 1::bP 43 1 41 42::a1 44 43::bX 45 F.gE 44::ao5) ao4
def ao7:ae:=.seq (.block 1 (ay [m 38 36,bP 39 1 34 36,a1 40 39,m 7 38,m 8 40] ao6)) ao3
def ao8:ae:=.seq (dV 37 0) ao7
def Si:ae:=ay [b7 37 .lss 36 35] ao8
def ao9:ae:=.block 0 (.loop Si)
def Le:ae:=ay [m 31 0,dq 32 31,bq 33 5 32,a1 34 33,ct 35 34,o 36 (.aM (ci 0))] ao9
def apa:List aE:=[dq 29 22,bq 30 2 29,c7 1 30 28]
def Sg:ae:=ay (m 22 6::m 23 6::dq 24 23::bq 25 2 24::a1 26 25::m 27 2::ch 28 F.kG 26 27::apa) Le
@[simp] def uY:b2:=⟨74,(.seq (.draw [m 10 0,dq 11 10,bq 12 2 11,a1 13 12,m 14 0,dq 15 14,bq 16 4 15,a1 17 16,m 18 1,bP 19 1 17 18,a1 20 19,bP 21 3 13 20,m 6 21] (some ⟨[0,1,2,3,4,5,6,7,8,9,10,11,12],gn 11 2,[]⟩)) Sg),[]⟩
def Sx:ae:=.draw [m 124 0,dq 125 124,bq 126 3 125,a1 127 126,m 128 1,m 129 0,dq 130 129,bq 131 4 130,a1 132 131,m 133 2,m 134 0,dq 135 134,bq 136 4 135,a1 137 136,m 138 2,bP 139 1 137 138,a1 140 139,m 141 0,dq 142 141,bq 143 3 142,a1 144 143,m 145 1,bP 146 1 144 145,a1 147 146,bP 148 1 127 128,c7 1 148 140,bP 149 1 132 133,c7 1 149 147] (some ⟨[0,1,2,3,4,5,6,7,8,9,10,11,12,13,14,15,16,17,18,19,20,21,22,23,24,25,26,27],gn 24 4,[]⟩)
def apb:ae:=.aT [o 123 (.bin .add .aZ (.t 66) (ci 1)),m 66 123]
def apc:ae:=.aT [o 122 (.bin .add .aZ (.t 85) (ci 1)),m 85 122]
def Sl:List aE:=[bP 100 1 92 93,c7 1 100 99]
def Sn:ae:=.cond (.t 101) (.draw [m 108 10,m 109 12,m 110 10,m 111 12,bP 112 1 110 111,a1 113 112,m 114 11,m 115 6,m 116 12,bP 117 1 115 116,a1 118 117,ch 119 F.ke 114 118,ch 120 F.kG 113 119,bP 121 1 108 109,c7 1 121 120] (some ⟨[0,1,2,3,4,5,6,7,8,9,10,11,12,13,14],gn 12 3,[(11,5)]⟩)) .skip
def Sm:List aE:=[o 107 (.bin .neq .aZ (.t 106) (ci 0)),m 101 107]
def apd:ae:=.cond (.t 88) (.aT (m 92 10::m 93 12::m 94 11::m 95 6::m 96 12::bP 97 1 95 96::a1 98 97::ch 99 F.ke 94 98::Sl)) (ay (m 102 6::m 103 12::bP 104 1 102 103::a1 105 104::bX 106 F.gE 105::Sm) Sn)
def ape:ae:=.block 6 (ay [m 89 12,m 90 2,b7 91 .eql 89 90,m 88 91] apd)
def apf:ae:=.seq (.block 5 (ay [m 87 85,m 12 87] ape)) apc
def apg:ae:=.seq (dV 86 4) apf
def Sk:ae:=ay [b7 86 .lss 85 84] apg
def aph:ae:=.block 4 (.loop Sk)
def Dv:ae:=ay [m 83 10,ct 84 83,o 85 (.aM (ci 0))] aph
def api:ae:=.cond (.t 82) (.exit 3) .skip
def Li:List aE:=[bZd 81 78 (.bin .eql .aZ (.t 80) (ci 0)),o 82 (.pick (.t 78) (.c (.bool true)) (.t 81))]
def apj:ae:=.seq (ay (m 75 9::m 76 1::b7 77 .eql 75 76::m 78 77::bZd 79 78 (.aM (.t 11))::bZd 80 78 (.call F.gE [(.t 79)])::Li) api) Dv
def apk:ae:=ay [m 71 10,m 72 2,bP 73 1 71 72,a1 74 73,m 11 74] apj
def apl:ae:=.seq (.block 3 (ay [m 68 66,bP 69 1 64 66,a1 70 69,m 9 68,m 10 70] apk)) apb
def apm:ae:=.seq (dV 67 2) apl
def Sy:ae:=ay [b7 67 .lss 66 65] apm
def apn:ae:=.block 2 (.loop Sy)
def Sw:ae:=.seq (ay [m 61 0,dq 62 61,bq 63 5 62,a1 64 63,ct 65 64,o 66 (.aM (ci 0))] apn) Sx
def apo:ae:=.aT [o 60 (.bin .add .aZ (.t 26) (ci 1)),m 26 60]
def Sq:List aE:=[m 32 37,b5 38 32 0,b5 39 32 1,bP 40 1 33 34,c7 1 40 38]
def Sp:List aE:=m 36 7::ch 37 F.oG 35 36::Sq
def Su:List aE:=[m 47 56,b5 57 47 0,b5 58 47 1,bP 59 1 48 49,c7 1 59 57]
def St:List aE:=m 55 7::ch 56 F.oG 54 55::Su
def Ss:ae:=.cond (.t 46) (.aT (m 48 6::m 49 8::m 50 6::m 51 8::bP 52 1 50 51::a1 53 52::bX 54 F.nV 53::St)) .skip
def Sr:List aE:=[o 46 (.bin .neq .aZ (.t 45) (ci 0))]
def apq:ae:=.cond (.t 31) (.aT (m 33 6::m 34 8::o 35 (.call F.kp [(ci 1)])::Sp)) (ay (m 41 6::m 42 8::bP 43 1 41 42::a1 44 43::bX 45 F.gE 44::Sr) Ss)
def apr:ae:=ay [m 29 8,m 30 2,b7 31 .eql 29 30] apq
def aps:ae:=.seq (.block 1 (ay [m 28 26,m 8 28] apr)) apo
def apt:ae:=.seq (dV 27 0) aps
def So:ae:=ay [b7 27 .lss 26 25] apt
def Lh:ae:=.block 0 (.loop So)
def apu:ae:=.seq (ay [m 24 6,ct 25 24,o 26 (.aM (ci 0))] Lh) Sw
def Sv:ae:=ay [m 20 6,m 21 2,bP 22 1 20 21,a1 23 22,m 7 23] apu
@[simp] def uZ:b2:=⟨150,(ay [m 13 0,dq 14 13,bq 15 5 14,a1 16 15,m 17 1,bP 18 1 16 17,a1 19 18,m 6 19] Sv),[]⟩
def apv:List aE:=[bZd 27 21 (.bin .gtr .aZ (.t 26) (ci 0)),o 28 (.pick (.t 21) (.c (.bool true)) (.t 27)),m 4 28]
def apw:ae:=ay (bq 18 0 2::a1 19 18::o 20 (.bin .eql (.nil .ptr) (.t 19) (.c (.pointer none)))::m 21 20::bZd 22 21 (.fieldAddr 2 (.t 2))::bZd 23 21 (.load false 1 (.t 22))::bZd 24 21 (.fieldAddr 0 (.t 2))::bZd 25 21 (.load false 1 (.t 24))::bZd 26 21 (.call F.k7 [(.t 23),(.t 25)])::apv) .ret
def apx:List aE:=[bZd 16 10 (.bin .lss .aZ (.t 15) (ci 0)),o 17 (.pick (.t 10) (.c (.bool true)) (.t 16)),m 4 17]
def apy:ae:=.cond (.t 6) (ay (bq 7 1 2::a1 8 7::o 9 (.bin .eql (.nil .ptr) (.t 8) (.c (.pointer none)))::m 10 9::bZd 11 10 (.fieldAddr 2 (.t 2))::bZd 12 10 (.load false 1 (.t 11))::bZd 13 10 (.fieldAddr 1 (.t 2))::bZd 14 10 (.load false 1 (.t 13))::bZd 15 10 (.call F.k7 [(.t 12),(.t 14)])::apx) .ret) .skip
def apz:ae:=.seq (ay [m 5 1,o 6 (.bin .gtr .aZ (.t 5) (ci 0))] apy) apw
abbrev T.w7:Nat:=122
@[simp] def u1:b2:=⟨29,(ay [hn 2 122 0,bZe 4] apz),[.slot 4]⟩
def GB:ae:=ay [o 2 (.aM (ci 0))] .ret
def apA:ae:=.cond (.t 15) (ay [o 2 (.aM (.c (.int .i64 (.negSucc 0))))] .ret) .skip
def apB:List aE:=[bZc 25 19 (.bin .gtr .aZ (.t 24) (ci 0)),o 26 (.pick (.t 19) (.t 25) (.c (.bool false))),m 15 26]
def AA:ae:=.cond (.t 3) (ay [o 2 (.aM (ci 1))] .ret) (ay (bq 16 1 1::a1 17 16::o 18 (.bin .neq (.nil .ptr) (.t 17) (.c (.pointer none)))::m 19 18::bZc 20 19 (.fieldAddr 2 (.t 1))::bZc 21 19 (.load false 1 (.t 20))::bZc 22 19 (.fieldAddr 1 (.t 1))::bZc 23 19 (.load false 1 (.t 22))::bZc 24 19 (.call F.k7 [(.t 21),(.t 23)])::apB) apA)
def apC:List aE:=[bZc 13 7 (.bin .lss .aZ (.t 12) (ci 0)),o 14 (.pick (.t 7) (.t 13) (.c (.bool false))),m 3 14]
def apD:ae:=.seq (.block 0 (ay (bq 4 0 1::a1 5 4::o 6 (.bin .neq (.nil .ptr) (.t 5) (.c (.pointer none)))::m 7 6::bZc 8 7 (.fieldAddr 2 (.t 1))::bZc 9 7 (.load false 1 (.t 8))::bZc 10 7 (.fieldAddr 0 (.t 1))::bZc 11 7 (.load false 1 (.t 10))::bZc 12 7 (.call F.k7 [(.t 9),(.t 11)])::apC) AA)) GB
@[simp] def s8:b2:=⟨27,(ay [hn 1 122 0,o 2 (.aM (ci 0))] apD),[.slot 2]⟩
def apE:ae:=ay [m 68 7,m 6 68] .ret
def apF:ae:=.aT [o 67 (.bin .add .aZ (.t 18) (ci 1)),m 18 67]
def apG:ae:=.cond (.t 65) (.aT [m 66 8,m 7 66]) .skip
def ve:ae:=.seq (.draw [m 47 7,o 48 (.bin .lss .aZ (.t 47) (ci 0)),m 49 48,bZd 50 49 (.aM (.t 0)),bZd 51 49 (.nilCheck (.t 50)),bZd 52 49 (.fieldAddr 4 (.t 51)),bZd 53 49 (.load false 1 (.t 52)),bZd 54 49 (.aM (.t 8)),bZd 55 49 (.ho 1 (.t 53) (.t 54)),bZd 56 49 (.load false 1 (.t 55)),bZd 57 49 (.aM (.t 0)),bZd 58 49 (.nilCheck (.t 57)),bZd 59 49 (.fieldAddr 4 (.t 58)),bZd 60 49 (.load false 1 (.t 59)),bZd 61 49 (.aM (.t 7)),bZd 62 49 (.ho 1 (.t 60) (.t 61)),bZd 63 49 (.load false 1 (.t 62)),bZd 64 49 (.bin .lss .aZ (.t 56) (.t 63)),o 65 (.pick (.t 49) (.c (.bool true)) (.t 64))] (some ⟨[0,1,2,3,4,5,6,7,8,9,10,11,12,13,14,15,16,17,18],[true,true,true,false,false,false,false,false,false,false,false,false,false,false,false,false,false,true,true],[]⟩)) apG
def apH:ae:=.cond (.t 46) (.exit 1) .skip
def apI:ae:=.seq (.seq (.draw [m 23 9,bX 24 F.gE 23,o 25 (.bin .eql .aZ (.t 24) (ci 0)),m 26 25,bZd 27 26 (.aM (.t 0)),bZd 28 26 (.nilCheck (.t 27)),bZd 29 26 (.fieldAddr 2 (.t 28)),bZd 30 26 (.load false 1 (.t 29)),bZd 31 26 (.aM (.t 0)),bZd 32 26 (.nilCheck (.t 31)),bZd 33 26 (.fieldAddr 4 (.t 32)),bZd 34 26 (.load false 1 (.t 33)),bZd 35 26 (.aM (.t 8)),bZd 36 26 (.ho 1 (.t 34) (.t 35)),bZd 37 26 (.load false 1 (.t 36)),bZd 38 26 (.ho 3 (.t 30) (.t 37)),bZd 39 26 (.load true 3 (.t 38)),bZd 40 26 (.aM (.t 2)),bZd 41 26 (.aM (.t 9)),bZd 42 26 (.call F.gE [(.t 41)]),bZd 43 26 (.bin .mul .aZ (.t 40) (.t 42)),bZd 44 26 (.call F.u1 [(.t 39),(.t 43)]),bZd 45 26 (.un .not (.t 44)),o 46 (.pick (.t 26) (.c (.bool true)) (.t 45))] (some ⟨[0,1,2,3,4,5,6,7,8,9,10,11,12,13,14,15,16,17,18,19,20,21,22,23],[true,true,true,true,false,false,false,false,false,false,false,false,false,false,false,false,false,false,false,false,false,true,true,true],[(19,7),(19,11),(19,14),(19,16)]⟩)) apH) ve
def apJ:ae:=.seq (.block 1 (ay [m 20 18,bP 21 1 16 18,a1 22 21,m 8 20,m 9 22] apI)) apF
def apK:ae:=.seq (dV 19 0) apJ
def SA:ae:=ay [b7 19 .lss 18 17] apK
def apL:ae:=.block 0 (.loop SA)
def apM:ae:=.seq (ay [m 10 0,dq 11 10,bq 12 5 11,a1 13 12,m 14 1,bP 15 1 13 14,a1 16 15,ct 17 16,o 18 (.aM (ci 0))] apL) apE
def apN:ae:=ay [o 7 (.aM (.c (.int .i64 (.negSucc 0))))] apM
@[simp] def wX:b2:=⟨69,(ay [o 6 (.aM (ci 0))] apN),[.slot 6]⟩
def apO:ae:=ay [m 42 3,m 2 42] .ret
def apP:ae:=.aT [o 41 (.bin .add .aZ (.t 11) (ci 1)),m 11 41]
def apQ:ae:=.cond (.t 39) (.aT [m 40 4,m 3 40]) .skip
def SC:List aE:=[o 24 (.bin .neq .aZ (.t 23) (ci 0)),m 25 24,bZc 26 25 (.aM (.t 3)),bZc 27 25 (.bin .lss .aZ (.t 26) (ci 0)),bZc 28 25 (.aM (.t 27)),bZd 29 28 (.aM (.t 5)),bZd 30 28 (.aM (.t 0)),bZd 31 28 (.nilCheck (.t 30)),bZd 32 28 (.fieldAddr 3 (.t 31)),bZd 33 28 (.load false 1 (.t 32)),bZd 34 28 (.aM (.t 3)),bZd 35 28 (.ho 1 (.t 33) (.t 34)),bZd 36 28 (.load false 1 (.t 35)),bZd 37 28 (.bin .lss .aZ (.t 29) (.t 36)),bZc 38 25 (.pick (.t 28) (.c (.bool true)) (.t 37)),o 39 (.pick (.t 25) (.t 38) (.c (.bool false)))]
def apR:ae:=ay (m 16 0::dq 17 16::bq 18 2 17::a1 19 18::m 20 5::bP 21 3 19 20::eR 22 3 21::bX 23 F.s8 22::SC) apQ
def apS:ae:=.seq (.block 1 (ay [m 13 11,bP 14 1 9 11,a1 15 14,m 4 13,m 5 15] apR)) apP
def apT:ae:=.seq (dV 12 0) apS
def SB:ae:=ay [b7 12 .lss 11 10] apT
def apU:ae:=.block 0 (.loop SB)
def apV:ae:=.seq (ay [m 6 0,dq 7 6,bq 8 3 7,a1 9 8,ct 10 9,o 11 (.aM (ci 0))] apU) apO
def apW:ae:=ay [o 3 (.aM (.c (.int .i64 (.negSucc 0))))] apV
@[simp] def wY:b2:=⟨43,(ay [o 2 (.aM (ci 0))] apW),[.slot 2]⟩
def S9:ae:=.aT [m 65 0,m 66 4,m 67 8,o9 68 F.uZ 65 66 67]
def GY:ae:=ay [m 61 0,m 62 8,m 63 9,o9 64 F.uY 61 62 63] S9
def apX:ae:=.seq (.draw [m 44 7,bq 45 2 5,a1 46 45,ch 47 F.nW 44 46,m 48 0,dq 49 48,bq 50 5 49,a1 51 50,m 52 4,bP 53 1 51 52,a1 54 53,m 55 8,bP 56 1 54 55,a1 57 56,ch 58 F.oG 47 57,m 43 58,b5 59 43 0,b5 60 43 1,m 9 59,m 10 60] (some ⟨[0,1,2,4,5,6,7,8,9,10,11,12,13,3,14,15,16,17,18,19],gn 14 6,[(13,6),(13,9),(13,12)]⟩)) GY
def apY:ae:=.cond (.t 41) (ay [m 42 4,m 2 42,bZe 3] .ret) .skip
def S7:ae:=.seq (ay [m 40 8,o 41 (.bin .lss .aZ (.t 40) (ci 0))] apY) apX
def S6:List aE:=[m 8 39]
def GX:ae:=ay (m 36 0::m 37 4::m 38 6::o9 39 F.wX 36 37 38::S6) S7
def apZ:ae:=.cond (.t 33) (.aT [bq 34 1 5,a1 35 34,m 7 35]) .skip
def Lw:ae:=.seq (ay [m 32 6,o 33 (.bin .lss .aZ (.t 32) (ci 0))] apZ) GX
def Ls:ae:=.seq (.draw [eR 28 3 5,bX 29 F.s8 28,bq 30 0 5,a1 31 30,m 6 29,m 7 31] (some ⟨[0,2,3,1,4,5],gn 5 1,[(3,2)]⟩)) Lw
def ap0:ae:=.seq (.draw [m 15 0,dq 16 15,bq 17 2 16,a1 18 17,m 19 0,dq 20 19,bq 21 3 20,a1 22 21,m 23 4,bP 24 1 22 23,a1 25 24,bP 26 3 18 25,eR 27 3 26,o 5 (.alloc 122 [(.pointer none),(.pointer none),(.pointer none)]),c7 3 5 27] (some ⟨[0,1,2,3,4,5,6,7,8,9,10,11,12,13,14],gn 14 1,[(13,3),(13,7),(13,10),(13,12)]⟩)) Ls
def ap1:ae:=.cond (.t 14) (ay [o 2 (.aM (ci 0)),bZu 3] .ret) .skip
def S5:ae:=.seq (ay [m 13 4,o 14 (.bin .lss .aZ (.t 13) (ci 0))] ap1) ap0
def S4:List aE:=[m 4 12]
def S3:ae:=.block 1 (ay (m 11 0::bX 12 F.wY 11::S4) S5)
def ap2:ae:=.block 0 (.loop S3)
abbrev T.aDd:Nat:=122
@[simp] def wZ:b2:=⟨69,(ay [o 2 (.aM (ci 0)),bZe 3] ap2),[.slot 2,.slot 3]⟩
def ap3:List aE:=[m 4 23]
def ap4:ae:=ay (o 23 (.call F.kp [(ci 0)])::ap3) .ret
def ap5:List aE:=[m 4 22]
def ap6:ae:=.cond (.t 12) (ay (m 13 0::dq 14 13::bq 15 0 14::bq 16 0 15::a1 17 16::m 18 1::bP 19 5 17 18::bq 20 3 19::a1 21 20::bX 22 F.pK 21::ap5) .ret) .skip
def ap7:ae:=.seq (ay [m 5 1,m 6 0,dq 7 6,bq 8 0 7,bq 9 0 8,a1 10 9,ct 11 10,b7 12 .lss 5 11] ap6) ap4
@[simp] def u2:b2:=⟨24,(ay [bZg 4] ap7),[.slot 4]⟩
def ap8:ae:=ay [m 72 3,m 2 72] .ret
def ap9:ae:=.aT [o 71 (.bin .add .aZ (.t 32) (ci 1)),m 32 71]
def aqa:ae:=.aT [o 70 (.bin .add .aZ (.t 51) (ci 1)),m 51 70]
def SV:ae:=.cond (.t 58) (.draw [m 59 3,m 60 9,m 61 3,m 62 9,bP 63 1 61 62,a1 64 63,m 65 8,m 66 10,ch 67 F.ke 65 66,ch 68 F.kG 64 67,bP 69 1 59 60,c7 1 69 68] (some ⟨[0,1,2,3,4,5,6,7,8,9,10,11],gn 9 3,[(8,5)]⟩)) .skip
def SU:List aE:=[o 58 (.bin .neq .aZ (.t 57) (ci 0))]
def aqb:ae:=ay (m 56 10::bX 57 F.gE 56::SU) SV
def aqc:ae:=.seq (.block 5 (ay [m 53 51,bP 54 1 49 51,a1 55 54,m 9 53,m 10 55] aqb)) aqa
def aqd:ae:=.seq (dV 52 4) aqc
def SR:ae:=ay [b7 52 .lss 51 50] aqd
def aqe:ae:=.block 4 (.loop SR)
def GV:ae:=ay [m 49 7,ct 50 49,o 51 (.aM (ci 0))] aqe
def aqf:ae:=.cond (.t 48) (.exit 3) .skip
def S2:List aE:=[o 48 (.bin .eql .aZ (.t 47) (ci 0))]
def S1:ae:=.seq (ay (m 46 8::bX 47 F.gE 46::S2) aqf) GV
def S0:List aE:=[m 8 45]
def aqg:ae:=ay (m 37 0::m 38 0::dq 39 38::bq 40 3 39::a1 41 40::m 42 6::bP 43 1 41 42::a1 44 43::ch 45 F.u2 37 44::S0) S1
def aqh:ae:=.seq (.block 3 (ay [m 34 32,bP 35 1 30 32,a1 36 35,m 6 34,m 7 36] aqg)) ap9
def aqi:ae:=.seq (dV 33 2) aqh
def SZ:ae:=ay [b7 33 .lss 32 31] aqi
def aqj:ae:=.block 2 (.loop SZ)
def SX:ae:=.seq (ay [m 27 0,dq 28 27,bq 29 5 28,a1 30 29,ct 31 30,o 32 (.aM (ci 0))] aqj) ap8
def aqk:ae:=.aT [o 26 (.bin .add .aZ (.t 16) (ci 1)),m 16 26]
def SY:List aE:=[o 24 (.buildSlice [(.pointer none)] 1 1 [(0,1,(.t 23))]),o 25 (.append 1 8 (.t 20) (.t 24)),m 3 25]
def aql:ae:=.aT (m 20 3::m 21 0::m 22 5::ch 23 F.u2 21 22::SY)
def aqm:ae:=.seq (.block 1 (ay [bP 18 1 14 16,a1 19 18,m 5 19] aql)) aqk
def aqn:ae:=.seq (dV 17 0) aqm
def SW:ae:=ay [b7 17 .lss 16 15] aqn
def aqo:ae:=.block 0 (.loop SW)
def aqp:ae:=.seq (ay [m 11 0,dq 12 11,bq 13 4 12,a1 14 13,ct 15 14,o 16 (.aM (ci 0))] aqo) SX
def aqq:ae:=ay [bZx 3] aqp
@[simp] def u3:b2:=⟨73,(ay [bZx 2] aqq),[.slot 2]⟩
def SG:List aE:=[o 68 (.un .neg (.t 67)),m 4 62,m 5 68]
def SF:ae:=ay (m 62 6::m 63 1::m 64 6::bP 65 1 63 64::a1 66 65::bX 67 F.gE 66::SG) .ret
def aqr:ae:=.cond (.t 61) (ay [o 4 (.aM (.c (.int .i64 (.negSucc 0)))),o 5 (.aM (ci 0))] .ret) .skip
def SE:ae:=.seq (ay [m 60 6,o 61 (.bin .lss .aZ (.t 60) (ci 0))] aqr) SF
def aqs:ae:=.aT [o 59 (.bin .add .aZ (.t 11) (ci 1)),m 11 59]
def aqt:ae:=.cond (.t 57) (.aT [m 58 7,m 6 58]) .skip
def vf:ae:=.seq (.draw [m 39 6,o 40 (.bin .lss .aZ (.t 39) (ci 0)),m 41 40,bZd 42 41 (.aM (.t 0)),bZd 43 41 (.nilCheck (.t 42)),bZd 44 41 (.fieldAddr 4 (.t 43)),bZd 45 41 (.load false 1 (.t 44)),bZd 46 41 (.aM (.t 7)),bZd 47 41 (.ho 1 (.t 45) (.t 46)),bZd 48 41 (.load false 1 (.t 47)),bZd 49 41 (.aM (.t 0)),bZd 50 41 (.nilCheck (.t 49)),bZd 51 41 (.fieldAddr 4 (.t 50)),bZd 52 41 (.load false 1 (.t 51)),bZd 53 41 (.aM (.t 6)),bZd 54 41 (.ho 1 (.t 52) (.t 53)),bZd 55 41 (.load false 1 (.t 54)),bZd 56 41 (.bin .lss .aZ (.t 48) (.t 55)),o 57 (.pick (.t 41) (.c (.bool true)) (.t 56))] (some ⟨[0,1,2,3,4,5,6,7,8,9,10,11,12,13,14,15,16,17,18],[true,true,true,false,false,false,false,false,false,false,false,false,false,false,false,false,false,true,true],[]⟩)) aqt
def aqu:ae:=.cond (.t 38) (.exit 1) .skip
def aqv:ae:=.seq (.seq (.draw [m 16 8,bX 17 F.gE 16,o 18 (.bin .eql .aZ (.t 17) (ci 0)),m 19 18,bZd 20 19 (.aM (.t 0)),bZd 21 19 (.nilCheck (.t 20)),bZd 22 19 (.fieldAddr 2 (.t 21)),bZd 23 19 (.load false 1 (.t 22)),bZd 24 19 (.aM (.t 0)),bZd 25 19 (.nilCheck (.t 24)),bZd 26 19 (.fieldAddr 4 (.t 25)),bZd 27 19 (.load false 1 (.t 26)),bZd 28 19 (.aM (.t 7)),bZd 29 19 (.ho 1 (.t 27) (.t 28)),bZd 30 19 (.load false 1 (.t 29)),bZd 31 19 (.ho 3 (.t 23) (.t 30)),bZd 32 19 (.load true 3 (.t 31)),bZd 33 19 (.aM (.t 8)),bZd 34 19 (.call F.gE [(.t 33)]),bZd 35 19 (.un .neg (.t 34)),bZd 36 19 (.call F.u1 [(.t 32),(.t 35)]),bZd 37 19 (.un .not (.t 36)),o 38 (.pick (.t 19) (.c (.bool true)) (.t 37))] (some ⟨[0,1,2,3,4,5,6,7,8,9,10,11,12,13,14,15,16,17,18,19,20,21,22],[true,true,true,true,false,false,false,false,false,false,false,false,false,false,false,false,false,false,false,false,true,true,true],[(18,7),(18,11),(18,14),(18,16)]⟩)) aqu) vf
def aqw:ae:=.seq (.block 1 (ay [m 13 11,bP 14 1 9 11,a1 15 14,m 7 13,m 8 15] aqv)) aqs
def aqx:ae:=.seq (dV 12 0) aqw
def SD:ae:=ay [b7 12 .lss 11 10] aqx
def aqy:ae:=.block 0 (.loop SD)
def aqz:ae:=.seq (ay [m 9 1,ct 10 9,o 11 (.aM (ci 0))] aqy) SE
def aqA:ae:=ay [o 6 (.aM (.c (.int .i64 (.negSucc 0))))] aqz
@[simp] def w1:b2:=⟨69,(ay [o 4 (.aM (ci 0)),o 5 (.aM (ci 0))] aqA),[.slot 4,.slot 5]⟩
def aqB:ae:=ay [bZg 4] .ret
def aqC:List aE:=[m 4 17]
def aqD:List aE:=[m 4 30]
def aqE:ae:=.cond (.t 18) (ay (bq 26 2 2::a1 27 26::bq 28 0 2::a1 29 28::ch 30 F.nW 27 29::aqD) .ret) .skip
def aqF:ae:=.cond (.t 5) (ay (bq 13 1 2::a1 14 13::bq 15 2 2::a1 16 15::ch 17 F.nW 14 16::aqC) .ret) (ay [m 19 1,o 20 (.bin .lss .aZ (.t 19) (ci 0)),m 21 20,bZc 22 21 (.fieldAddr 0 (.t 2)),bZc 23 21 (.load false 1 (.t 22)),bZc 24 21 (.bin .neq (.nil .ptr) (.t 23) (.c (.pointer none))),o 25 (.pick (.t 21) (.t 24) (.c (.bool false))),m 18 25] aqE)
def aqG:ae:=.seq (.block 0 (ay [m 6 1,o 7 (.bin .gtr .aZ (.t 6) (ci 0)),m 8 7,bZc 9 8 (.fieldAddr 1 (.t 2)),bZc 10 8 (.load false 1 (.t 9)),bZc 11 8 (.bin .neq (.nil .ptr) (.t 10) (.c (.pointer none))),o 12 (.pick (.t 8) (.t 11) (.c (.bool false))),m 5 12] aqF)) aqB
@[simp] def u4:b2:=⟨31,(ay [hn 2 122 0,bZg 4] aqG),[.slot 4]⟩
def aqH:ae:=ay [m 118 8,m 119 9,m 6 118,m 7 119] .ret
def aqI:ae:=.aT [o 117 (.bin .add .aZ (.t 43) (ci 1)),m 43 117]
def Dz:ae:=.cond (.t 107) (.draw [m 108 14,m 109 11,m 110 0,dq 111 110,bq 112 3 111,a1 113 112,m 114 11,bP 115 1 113 114,a1 116 115,m 8 108,m 9 109,m 10 116] (some ⟨[0,1,2,3,4,5,6,7,8,9,10,11],[false,false,true,true,true,true,false,true,true,false,false,true],[]⟩)) .skip
def SQ:ae:=ay [m 91 15,o 92 (.bin .lss .aZ (.t 91) (ci 0)),m 93 92,bZd 94 93 (.aM (.t 15)),bZd 95 93 (.bin .eql .aZ (.t 94) (ci 0)),bZd 96 93 (.aM (.t 95)),bZc 97 96 (.aM (.t 0)),bZc 98 96 (.nilCheck (.t 97)),bZc 99 96 (.fieldAddr 3 (.t 98)),bZc 100 96 (.load false 1 (.t 99)),bZc 101 96 (.aM (.t 11)),bZc 102 96 (.ho 1 (.t 100) (.t 101)),bZc 103 96 (.load false 1 (.t 102)),bZc 104 96 (.aM (.t 10)),bZc 105 96 (.bin .lss .aZ (.t 103) (.t 104)),bZd 106 93 (.pick (.t 96) (.t 105) (.c (.bool false))),o 107 (.pick (.t 93) (.c (.bool true)) (.t 106))] Dz
def SP:List aE:=[m 15 90]
def aqJ:ae:=.cond (.t 87) (.aT (m 88 14::m 89 8::ch 90 F.k7 88 89::SP)) .skip
def aqK:ae:=.seq (ay [m 86 8,o 87 (.bin .neq (.nil .ptr) (.t 86) (.c (.pointer none)))] aqJ) SQ
def SN:ae:=ay [o 15 (.aM (.c (.int .i64 (.negSucc 0))))] aqK
def SM:List aE:=[m 80 83,b5 84 80 0,b5 85 80 1,m 14 84]
def AM:ae:=ay (m 81 14::m 82 13::ch 83 F.oG 81 82::SM) SN
def aqL:List aE:=[m 13 79]
def aqM:ae:=.cond (.t 77) (.aT (m 78 13::bX 79 F.nV 78::aqL)) .skip
def aqN:List aE:=[o 77 (.bin .lss .aZ (.t 76) (ci 0))]
def SL:ae:=.seq (ay (m 75 13::bX 76 F.gE 75::aqN) aqM) AM
def aqO:ae:=.cond (.t 74) (.exit 1) .skip
def GS:ae:=.seq (ay [m 73 14,o 74 (.bin .eql (.nil .ptr) (.t 73) (.c (.pointer none)))] aqO) SL
def SJ:ae:=.seq (.draw [m 55 0,dq 56 55,bq 57 2 56,a1 58 57,m 59 0,dq 60 59,bq 61 3 60,a1 62 61,m 63 11,bP 64 1 62 63,a1 65 64,bP 66 3 58 65,eR 67 3 66,m 68 2,m 69 13,bX 70 F.gE 69,b7 71 .mul 68 70,ch 72 F.u4 67 71,m 14 72] (some ⟨[0,1,2,3,4,5,6,7,8,9,10,11,12,13,14,15,16,17,18],gn 17 2,[(15,3),(15,7),(15,10),(15,12)]⟩)) GS
def aqP:ae:=.cond (.t 54) (.exit 1) .skip
def SI:List aE:=[o 54 (.bin .eql .aZ (.t 53) (ci 0))]
def aqQ:ae:=.seq (ay (m 52 13::bX 53 F.gE 52::SI) aqP) SJ
def aqR:ae:=ay [m 48 12,m 49 1,bP 50 1 48 49,a1 51 50,m 13 51] aqQ
def aqS:ae:=.seq (.block 1 (ay [m 45 43,bP 46 1 41 43,a1 47 46,m 11 45,m 12 47] aqR)) aqI
def aqT:ae:=.seq (dV 44 0) aqS
def SH:ae:=ay [b7 44 .lss 43 42] aqT
def aqU:ae:=.block 0 (.loop SH)
def Ll:ae:=.seq (ay [m 38 0,dq 39 38,bq 40 5 39,a1 41 40,ct 42 41,o 43 (.aM (ci 0))] aqU) aqH
def aqV:ae:=.seq (.draw [m 16 0,dq 17 16,bq 18 2 17,a1 19 18,m 20 0,dq 21 20,bq 22 4 21,a1 23 22,m 24 1,bP 25 1 23 24,a1 26 25,bP 27 3 19 26,eR 28 3 27,m 29 2,ch 30 F.u4 28 29,m 31 0,dq 32 31,bq 33 4 32,a1 34 33,m 35 1,bP 36 1 34 35,a1 37 36,m 8 30,o 9 (.aM (.c (.int .i64 (.negSucc 0)))),m 10 37] (some ⟨[0,1,2,3,4,5,6,7,8,9,10,11,12,13,15,16,17,18,19,20,21,14,22,23,24],gn 24 1,[(21,17),(21,20)]⟩)) Ll
@[simp] def w2:b2:=⟨120,(ay [bZg 6,o 7 (.aM (ci 0))] aqV),[.slot 6,.slot 7]⟩
def aqW:ae:=.cond (.t 37) (.aT [m 38 0,m 39 7,m 40 4,o9 41 F.uZ 38 39 40]) .skip
def Te:ae:=ay [m 36 7,o 37 (.bin .geq .aZ (.t 36) (ci 0))] aqW
def G2:ae:=ay [m 32 0,m 33 4,m 34 6,o9 35 F.uY 32 33 34] Te
def aqX:List aE:=[m 6 31]
def aqY:ae:=.cond (.t 29) (.aT (m 30 6::bX 31 F.nV 30::aqX)) .skip
def aqZ:ae:=.seq (ay [m 28 5,o 29 (.bin .lss .aZ (.t 28) (ci 0))] aqY) G2
def aq0:ae:=.cond (.t 25) (ay [m 26 4,m 27 5,m 2 26,m 3 27] .ret) .skip
def Td:ae:=.seq (ay [m 24 6,o 25 (.bin .eql (.nil .ptr) (.t 24) (.c (.pointer none)))] aq0) aqZ
def Tc:List aE:=[m 17 21,b5 22 17 0,b5 23 17 1,m 6 22,m 7 23]
def aq1:ae:=ay (m 18 0::m 19 4::m 20 5::o9 21 F.w2 18 19 20::Tc) Td
def aq2:ae:=.cond (.t 16) (ay [o 2 (.aM (.c (.int .i64 (.negSucc 0)))),o 3 (.aM (ci 0))] .ret) .skip
def Lz:ae:=.seq (ay [m 15 4,o 16 (.bin .lss .aZ (.t 15) (ci 0))] aq2) aq1
def Tb:List aE:=[m 8 12,b5 13 8 0,b5 14 8 1,m 4 13,m 5 14]
def Ta:List aE:=ch 12 F.w1 9 11::Tb
def S':ae:=.block 1 (ay (m 9 0::m 10 0::bX 11 F.u3 10::Ta) Lz)
def aq3:ae:=.block 0 (.loop S')
@[simp] def w3:b2:=⟨42,(ay [o 2 (.aM (ci 0)),o 3 (.aM (ci 0))] aq3),[.slot 2,.slot 3]⟩
def aq4:ae:=ay [m 16 3,m 2 16] .ret
def aq5:ae:=.aT [o 15 (.bin .add .aZ (.t 9) (ci 1)),m 9 15]
def aq6:ae:=.aT [m 12 3,m 13 4,bP 14 1 12 13,⟨none,none,.store 1 (.t 14) (.c (.string ⟨#[48]⟩))⟩]
def aq7:ae:=.seq (.block 1 (ay [m 11 9,m 4 11] aq6)) aq5
def aq8:ae:=.seq (dV 10 0) aq7
def Tg:ae:=ay [b7 10 .lss 9 8] aq8
def aq9:ae:=.block 0 (.loop Tg)
def ara:ae:=.seq (ay [m 7 3,ct 8 7,o 9 (.aM (ci 0))] aq9) aq4
def arb:ae:=ay [m 5 0,o 6 (.mkSlice [(.string ⟨#[]⟩)] 16 (.t 5) (.t 5)),m 3 6] ara
@[simp] def u5:b2:=⟨17,(ay [bZx 2] arb),[.slot 2]⟩
def arc:ae:=ay [m 30 3,m 2 30] .ret
def ard:ae:=.aT [o 29 (.bin .add .aZ (.t 14) (ci 1)),m 14 29]
def Ti:List aE:=[bP 28 1 17 18,c7 1 28 27]
def are:ae:=.aT (m 17 3::m 18 4::m 19 0::dq 20 19::bq 21 2 20::a1 22 21::m 23 4::bP 24 3 22 23::bq 25 2 24::a1 26 25::bX 27 F.mI 26::Ti)
def arf:ae:=.seq (.block 1 (ay [m 16 14,m 4 16] are)) ard
def arh:ae:=.seq (dV 15 0) arf
def Th:ae:=ay [b7 15 .lss 14 13] arh
def ari:ae:=.block 0 (.loop Th)
def arj:ae:=.seq (ay [m 12 3,ct 13 12,o 14 (.aM (ci 0))] ari) arc
def ark:ae:=ay [m 5 0,dq 6 5,bq 7 0 6,bq 8 0 7,a1 9 8,ct 10 9,o 11 (.mkSlice [(.string ⟨#[]⟩)] 16 (.t 10) (.t 10)),m 3 11] arj
@[simp] def u6:b2:=⟨31,(ay [bZx 2] ark),[.slot 2]⟩
def arl:ae:=ay [m 49 5,m 4 49] .ret
def arn:ae:=.aT [o 48 (.bin .add .aZ (.t 20) (ci 1)),m 20 48]
def aro:ae:=.cond (.t 32) (.draw [m 33 5,m 34 7,m 35 0,dq 36 35,bq 37 0 36,bq 38 0 37,a1 39 38,ct 40 39,b7 41 .sub 34 40,m 42 1,m 43 6,bP 44 1 42 43,a1 45 44,bX 46 F.mI 45,bP 47 1 33 41,c7 1 47 46] (some ⟨[0,1,2,3,4,5,6,7,8,9,10,11,12,13,14,15],gn 14 2,[(13,6),(13,7)]⟩)) .skip
def arp:ae:=ay [m 25 7,m 26 0,dq 27 26,bq 28 0 27,bq 29 0 28,a1 30 29,ct 31 30,b7 32 .geq 25 31] aro
def arq:ae:=.seq (.block 1 (ay [m 22 20,bP 23 1 18 20,a1 24 23,m 6 22,m 7 24] arp)) arn
def ars:ae:=.seq (dV 21 0) arq
def Tl:ae:=ay [b7 21 .lss 20 19] ars
def art:ae:=.block 0 (.loop Tl)
def Tj:ae:=.seq (ay [m 15 0,dq 16 15,bq 17 4 16,a1 18 17,ct 19 18,o 20 (.aM (ci 0))] art) arl
def Tk:List aE:=[m 5 14]
def aru:ae:=ay (m 8 0::dq 9 8::bq 10 0 9::bq 11 1 10::a1 12 11::ct 13 12::bX 14 F.u5 13::Tk) Tj
@[simp] def u7:b2:=⟨50,(ay [bZx 4] aru),[.slot 4]⟩
def arv:ae:=ay [m 89 10,m 4 89] .ret
def arw:ae:=.cond (.t 78) (.aT [m 79 10,m 80 5,m 81 0,dq 82 81,bq 83 0 82,bq 84 0 83,a1 85 84,ct 86 85,b7 87 .sub 80 86,bP 88 1 79 87,⟨none,none,.store 1 (.t 88) (.c (.string ⟨#[49]⟩))⟩]) .skip
def arx:ae:=ay [m 78 6] arw
def ary:ae:=.cond (.t 67) (ay [m 68 10,m 69 5,m 70 0,dq 71 70,bq 72 0 71,bq 73 0 72,a1 74 73,ct 75 74,b7 76 .sub 69 75,bP 77 1 68 76,⟨none,none,.store 1 (.t 77) (.c (.string ⟨#[45,49]⟩))⟩] arx) .skip
def Ts:ae:=.seq (ay [m 60 5,m 61 0,dq 62 61,bq 63 0 62,bq 64 0 63,a1 65 64,ct 66 65,b7 67 .geq 60 66] ary) arv
def Tr:List aE:=[m 10 59]
def Tp:ae:=ay (m 57 0::m 58 7::ch 59 F.u7 57 58::Tr) Ts
def arz:ae:=.aT [o 56 (.bin .add .aZ (.t 41) (ci 1)),m 41 56]
def Tq:List aE:=[bP 55 1 51 52,c7 1 55 54]
def arA:ae:=.cond (.t 50) (.aT (m 51 7::m 52 8::m 53 9::bX 54 F.nV 53::Tq)) .skip
def arB:ae:=ay [m 50 6] arA
def arC:ae:=ay [m 46 7,m 47 8,m 48 9,bP 49 1 46 47,c7 1 49 48] arB
def arD:ae:=.seq (.block 1 (ay [m 43 41,bP 44 1 39 41,a1 45 44,m 8 43,m 9 45] arC)) arz
def arE:ae:=.seq (dV 42 0) arD
def To:ae:=ay [b7 42 .lss 41 40] arE
def arF:ae:=.block 0 (.loop To)
def arG:ae:=.seq (ay [m 33 0,dq 34 33,bq 35 5 34,a1 36 35,m 37 1,bP 38 1 36 37,a1 39 38,ct 40 39,o 41 (.aM (ci 0))] arF) Tp
def Tn:ae:=ay [m 27 0,dq 28 27,bq 29 4 28,a1 30 29,ct 31 30,o 32 (.mkSlice [(.pointer none)] 8 (.t 31) (.t 31)),m 7 32] arG
def Tm:List aE:=[o 26 (.bin .gtr .aZ (.t 25) (ci 0)),m 6 26]
def arH:ae:=ay (m 18 0::dq 19 18::bq 20 2 19::a1 21 20::m 22 5::bP 23 3 21 22::eR 24 3 23::bX 25 F.s8 24::Tm) Tn
def arI:ae:=ay [m 11 0,dq 12 11,bq 13 3 12,a1 14 13,m 15 1,bP 16 1 14 15,a1 17 16,m 5 17] arH
@[simp] def w4:b2:=⟨90,(ay [bZx 4] arI),[.slot 4]⟩
def arJ:ae:=ay [m 67 7,m 6 67] .ret
def arK:ae:=.aT [o 66 (.bin .add .aZ (.t 40) (ci 1)),m 40 66]
def arL:ae:=.cond (.t 48) (.draw [m 49 7,m 50 10,m 51 0,dq 52 51,bq 53 5 52,a1 54 53,m 55 9,bP 56 1 54 55,a1 57 56,m 58 1,bP 59 1 57 58,a1 60 59,m 61 2,bX 62 F.kp 61,ch 63 F.ke 60 62,bX 64 F.mI 63,bP 65 1 49 50,c7 1 65 64] (some ⟨[0,1,2,3,4,5,6,7,8,9,10,11,12,13,14,15,16,17],gn 14 4,[(13,5),(13,8),(13,11)]⟩)) .skip
def arM:ae:=ay [m 45 10,m 46 7,ct 47 46,b7 48 .lss 45 47] arL
def arN:ae:=.seq (.block 1 (ay [m 42 40,bP 43 1 38 40,a1 44 43,m 9 42,m 10 44] arM)) arK
def arO:ae:=.seq (dV 41 0) arN
def Tx:ae:=ay [b7 41 .lss 40 39] arO
def arP:ae:=.block 0 (.loop Tx)
def AT:ae:=.seq (ay [m 35 0,dq 36 35,bq 37 3 36,a1 38 37,ct 39 38,o 40 (.aM (ci 0))] arP) arJ
def TA:List aE:=[bP 34 1 29 30,c7 1 34 33]
def Tz:List aE:=bX 33 F.mI 32::TA
def arQ:ae:=.cond (.t 28) (.aT (m 29 7::m 30 8::m 31 2::bX 32 F.kp 31::Tz)) .skip
def arR:ae:=ay [m 25 8,m 26 7,ct 27 26,b7 28 .lss 25 27] arQ
def Tv:ae:=.seq (ay [m 18 0,dq 19 18,bq 20 4 19,a1 21 20,m 22 1,bP 23 1 21 22,a1 24 23,m 8 24] arR) AT
def Tw:List aE:=[m 7 17]
def arS:ae:=ay (m 11 0::dq 12 11::bq 13 0 12::bq 14 0 13::a1 15 14::ct 16 15::bX 17 F.u5 16::Tw) Tv
@[simp] def w5:b2:=⟨68,(ay [bZx 6] arS),[.slot 6]⟩
def Ur:List aE:=[o 57 (.build [(.int .i64 (.ofNat 0)),(.string ⟨#[]⟩),(.slice none 0 0),(.slice none 0 0),(.slice none 0 0)] [(0,1,(ci 1)),(1,1,(.t 51)),(2,1,(.t 52)),(3,1,(.t 56))]),c7 5 2 57,bZu 3]
def Uq:List aE:=ch 56 F.u7 53 55::Ur
def Up:ae:=ay (m 51 10::m 52 9::m 53 4::m 54 4::bX 55 F.u3 54::Uq) .ret
def Uo:List aE:=[m 45 48,b5 49 45 0,b5 50 45 1,m 10 49,m 11 50]
def Um:ae:=ay (eR 46 2 1::m 47 9::ch 48 F.ua 46 47::Uo) Up
def Un:List aE:=[m 9 44]
def Uj:ae:=ay (m 43 4::bX 44 F.u6 43::Un) Um
def Ut:List aE:=[o 42 (.build [(.int .i64 (.ofNat 0)),(.string ⟨#[]⟩),(.slice none 0 0),(.slice none 0 0),(.slice none 0 0)] [(0,1,(ci 3)),(2,1,(.t 37)),(4,1,(.t 41))]),c7 5 2 42,bZu 3]
def Us:List aE:=m 38 4::m 39 7::m 40 8::o9 41 F.w5 38 39 40::Ut
def arT:ae:=.cond (.t 35) (ay (m 36 4::bX 37 F.u6 36::Us) .ret) .skip
def Ui:ae:=ay [m 34 7,o 35 (.bin .geq .aZ (.t 34) (ci 0))] arT
def Uh:List aE:=[m 29 31,b5 32 29 0,b5 33 29 1,m 7 32,m 8 33]
def Ue:ae:=.seq (ay (m 30 4::bX 31 F.w3 30::Uh) Ui) Uj
def Uu:List aE:=[o 28 (.build [(.int .i64 (.ofNat 0)),(.string ⟨#[]⟩),(.slice none 0 0),(.slice none 0 0),(.slice none 0 0)] [(0,1,(ci 2)),(3,1,(.t 27))]),c7 5 2 28,bZu 3]
def arU:ae:=.cond (.t 24) (ay (m 25 4::m 26 5::ch 27 F.w4 25 26::Uu) .ret) .skip
def Ud:ae:=ay [m 23 6,jo 24 23] arU
def Uc:List aE:=[m 18 20,b5 21 18 0,b5 22 18 1,m 5 21,m 6 22]
def T9:ae:=.seq (ay (m 19 4::bX 20 F.wZ 19::Uc) Ud) Ue
def T':List aE:=[m 4 17]
def T6:ae:=ay (eR 16 2 1::bX 17 F.wW 16::T') T9
def T7:ae:=.cond (.t 14) (ay [o 15 (.build [(.int .i64 (.ofNat 0)),(.string ⟨#[]⟩),(.slice none 0 0),(.slice none 0 0),(.slice none 0 0)] []),c7 5 2 15,bZe 3] .ret) .skip
def T8:List aE:=[jo 14 13]
def arV:ae:=.seq (ay (eR 12 2 1::bX 13 F.pv 12::T8) T7) T6
abbrev T.aEp:Nat:=25
abbrev T.aEo:Nat:=30
@[simp] def w6:b2:=⟨58,(ay [hn 1 25 0,o 2 (.alloc 30 [(.int .i64 (.ofNat 0)),(.string ⟨#[]⟩),(.slice none 0 0),(.slice none 0 0),(.slice none 0 0)]),bZe 3] arV),[.cell 2 true 5,.slot 3]⟩
def bVS:ae:=ay [eR 30 2 3,c7 2 2 30] .ret
def bUX:ae:=.aT [o 29 (.bin .add .aZ (.t 16) (ci 1)),m 16 29]
def bVP:ae:=.draw [bq 21 1 3,a1 22 21,m 23 4,bq 24 2 5,a1 25 24,bX 26 F.bYs 25,bP 27 5 22 23,bq 28 2 27,c7 1 28 26] (some ⟨[0,1,2,3,4,5,6,7,8],gn 6 3,[(5,1)]⟩)
def bUY:ae:=.seq (.block 1 (ay [m 18 16,bP 19 5 14 16,eR 20 5 19,o 5 (.alloc 39 [(.string ⟨#[]⟩),(.int .i64 (.ofNat 0)),(.slice none 0 0),(.string ⟨#[]⟩),(.string ⟨#[]⟩)]),m 4 18,c7 5 5 20] bVP)) bUX
def bUZ:ae:=.seq (dV 17 0) bUY
def bVR:ae:=ay [b7 17 .lss 16 15] bUZ
def bQa:ae:=.block 0 (.loop bVR)
def bXs:ae:=.seq (ay [bq 13 1 3,a1 14 13,ct 15 14,o 16 (.aM (ci 0))] bQa) bVS
def bQb:ae:=.seq (.draw [bq 6 0 1,a1 7 6,bX 8 F.bYP 7,bq 9 1 1,a1 10 9,bX 11 F.bYQ 10,o 12 (.build [(.slice none 0 0),(.slice none 0 0)] [(0,1,(.t 8)),(1,1,(.t 11))]),o 3 (.alloc 25 [(.slice none 0 0),(.slice none 0 0)]),c7 2 3 12] (some ⟨[0,1,3,4,7,2,5,6,8],gn 8 1,[(4,1),(4,3),(5,3),(4,5),(4,6)]⟩)) bXs
abbrev T.cZY:Nat:=25
abbrev T.cZZ:Nat:=39
@[simp] def bYg:b2:=⟨31,(ay [hn 1 25 0,o 2 (.alloc 25 [(.slice none 0 0),(.slice none 0 0)])] bQb),[.cell 2 true 2]⟩
def bVV:ae:=.seq (.draw [eR 15 2 1,bX 16 F.bYg 15,o 17 (.build [(.slice none 0 0),(.slice none 0 0)] [(0,2,(.t 16))]),hn 18 79 17,eR 19 5 5,m 2 18,c7 5 3 19,bZu 4] (some ⟨[0,4,1,2,3,5,6,7],gn 6 2,[(2,1),(4,1)]⟩)) .ret
def bQc:ae:=.cond (.t 13) (ay [o 14 (.build [(.int .i64 (.ofNat 0)),(.string ⟨#[]⟩),(.slice none 0 0),(.slice none 0 0),(.slice none 0 0)] []),bZg 2,c7 5 3 14,bZe 4] .ret) .skip
def bVT:ae:=.seq (ay [m 12 6,jo 13 12] bQc) bVV
def bVU:List aE:=[m 7 9,b5 10 7 0,b5 11 7 1,o 5 (.alloc 30 [(.int .i64 (.ofNat 0)),(.string ⟨#[]⟩),(.slice none 0 0),(.slice none 0 0),(.slice none 0 0)]),c7 5 5 10,m 6 11]
def bQd:ae:=ay (eR 8 2 1::bX 9 F.w6 8::bVU) bVT
abbrev T.cYg:Nat:=30
abbrev T.cYh:Nat:=79
@[simp] def bYG:b2:=⟨20,(ay [hn 1 25 0,bZg 2,o 3 (.alloc 30 [(.int .i64 (.ofNat 0)),(.string ⟨#[]⟩),(.slice none 0 0),(.slice none 0 0),(.slice none 0 0)]),bZe 4] bQd),[.slot 2,.cell 3 true 5,.slot 4]⟩
def bVY:List aE:=[b5 16 15 0,b5 17 15 1,c7 5 4 16,m 5 17]
def bQe:ae:=ay (eR 14 2 3::bX 15 F.w6 14::bVY) .ret
def bWA:ae:=ay [m 10 0,eR 11 2 3,dq 12 10,bq 13 0 12,c7 2 13 11] bQe
def bQf:ae:=.cond (.t 8) (ay [o 9 (.build [(.int .i64 (.ofNat 0)),(.string ⟨#[]⟩),(.slice none 0 0),(.slice none 0 0),(.slice none 0 0)] []),c7 5 4 9,bZe 5] .ret) .skip
def bVX:List aE:=[jo 8 7]
def bQg:ae:=.seq (ay (eR 6 2 3::bX 7 F.pv 6::bVX) bQf) bWA
@[simp] def bYH:b2:=⟨18,(ay [hn 3 25 1,o 4 (.alloc 30 [(.int .i64 (.ofNat 0)),(.string ⟨#[]⟩),(.slice none 0 0),(.slice none 0 0),(.slice none 0 0)]),bZe 5] bQg),[.cell 4 true 5,.slot 5]⟩
def bQh:ae:=ay [o 5 (.buildSlice [] 5 0 []),m 6 0,o 7 (.append 5 80 (.t 5) (.t 6)),m 2 7] .ret
def bQi:ae:=.cond (.t 4) (ay [bZx 2] .ret) .skip
def bQj:ae:=.seq (ay [m 3 0,o 4 (.bin .eql (.nil .jN) (.t 3) (.c (.slice none 0 0)))] bQi) bQh
@[simp] def bYQ:b2:=⟨8,(ay [bZx 2] bQj),[.slot 2]⟩
def bQk:ae:=ay [o 5 (.buildSlice [] 2 0 []),m 6 0,o 7 (.append 2 24 (.t 5) (.t 6)),m 2 7] .ret
def bQl:ae:=.cond (.t 4) (ay [bZx 2] .ret) .skip
def bQm:ae:=.seq (ay [m 3 0,o 4 (.bin .eql (.nil .jN) (.t 3) (.c (.slice none 0 0)))] bQl) bQk
@[simp] def bYs:b2:=⟨8,(ay [bZx 2] bQm),[.slot 2]⟩
def Qi:ae:=ay [eR 138 2 3,c7 2 2 138] .ret
def ar6:ae:=.aT [o 137 (.bin .add .aZ (.t 98) (ci 1)),m 98 137]
def P8:ae:=.draw [bq 101 0 3,a1 102 101,m 103 6,bq 104 0 3,a1 105 104,m 106 6,bq 107 0 3,a1 108 107,m 109 6,bq 110 0 3,a1 111 110,m 112 6,bP 113 5 111 112,bq 114 1 113,a1 115 114,o 116 (.call F.ll [(.t 115),(ci 20)]),bq 117 0 3,a1 118 117,m 119 6,bP 120 5 118 119,bq 121 2 120,a1 122 121,o 123 (.call F.ll [(.t 122),(ci 20)]),bq 124 0 3,a1 125 124,m 126 6,bP 127 5 125 126,bq 128 3 127,a1 129 128,o 130 (.call F.ll [(.t 129),(ci 20)]),bP 131 5 102 103,bq 132 1 131,c7 1 132 116,bP 133 5 105 106,bq 134 2 133,c7 1 134 123,bP 135 5 108 109,bq 136 3 135,c7 1 136 130] (some ⟨[0,1,2,3,4,5,6,7,8,9,10,11,12,13,14,16,17,18,19,20,21,23,24,25,26,27,28,15,22,29,30,31,32,33,34,35,36,37,38],gn 36 3,[(27,1),(27,4),(27,7),(27,16),(27,20),(27,22),(27,26),(28,1),(28,4),(28,7),(28,22),(28,26),(29,1),(29,4),(29,7),(32,4),(32,7),(35,7)]⟩)
def ar7:ae:=.seq (.block 5 (ay [m 100 98,m 6 100] P8)) ar6
def ar8:ae:=.seq (dV 99 4) ar7
def Qh:ae:=ay [b7 99 .lss 98 97] ar8
def ar9:ae:=.block 4 (.loop Qh)
def Qe:ae:=.seq (ay [bq 95 0 3,a1 96 95,ct 97 96,o 98 (.aM (ci 0))] ar9) Qi
def asa:ae:=.aT [o 94 (.bin .add .aZ (.t 27) (ci 1)),m 27 94]
def asb:ae:=.aT [o 93 (.bin .add .aZ (.t 70) (ci 1)),m 70 93]
def asc:ae:=.draw [bq 73 1 3,a1 74 73,m 75 4,bP 76 5 74 75,bq 77 2 76,a1 78 77,m 79 5,bq 80 1 3,a1 81 80,m 82 4,bP 83 5 81 82,bq 84 2 83,a1 85 84,m 86 5,bP 87 2 85 86,bq 88 1 87,a1 89 88,o 90 (.call F.ll [(.t 89),(ci 20)]),bP 91 2 78 79,bq 92 1 91,c7 1 92 90] (some ⟨[0,1,2,3,4,5,6,7,8,9,10,11,12,13,14,15,16,17,18,19,20],gn 18 3,[(17,1),(17,5)]⟩)
def asd:ae:=.seq (.block 3 (ay [m 72 70,m 5 72] asc)) asb
def ase:ae:=.seq (dV 71 2) asd
def P3:ae:=ay [b7 71 .lss 70 69] ase
def asf:ae:=.block 2 (.loop P3)
def FB:ae:=ay [bq 63 1 3,a1 64 63,m 65 4,bP 66 5 64 65,bq 67 2 66,a1 68 67,ct 69 68,o 70 (.aM (ci 0))] asf
def JH:ae:=.seq (.draw [bq 51 1 3,a1 52 51,m 53 4,bq 54 1 3,a1 55 54,m 56 4,bP 57 5 55 56,bq 58 3 57,a1 59 58,o 60 (.call F.ll [(.t 59),(ci 30)]),bP 61 5 52 53,bq 62 3 61,c7 1 62 60] (some ⟨[0,1,2,3,4,5,6,7,8,9,10,11,12],gn 10 3,[(9,1)]⟩)) FB
def P0:ae:=.seq (.draw [bq 30 1 3,a1 31 30,m 32 4,bq 33 1 3,a1 34 33,m 35 4,bP 36 5 34 35,bq 37 2 36,a1 38 37,bq 39 1 3,a1 40 39,m 41 4,bP 42 5 40 41,bq 43 2 42,a1 44 43,ct 45 44,o 46 (.min2 (.t 45) (ci 8)),o 47 (.nG 2 (.t 38) none (some (.t 46)) none),o 48 (.append 2 24 (.c (.slice none 0 0)) (.t 47)),bP 49 5 31 32,bq 50 2 49,c7 1 50 48] (some ⟨[0,1,2,3,4,5,6,7,8,9,10,11,12,13,14,15,16,17,18,19,20,21],gn 19 3,[(18,1)]⟩)) JH
def asg:ae:=.seq (.block 1 (ay [m 29 27,m 4 29] P0)) asa
def ash:ae:=.seq (dV 28 0) asg
def Qd:ae:=ay [b7 28 .lss 27 26] ash
def asi:ae:=.block 0 (.loop Qd)
def JM:ae:=.seq (ay [bq 24 1 3,a1 25 24,ct 26 25,o 27 (.aM (ci 0))] asi) Qe
def asj:ae:=.seq (.draw [bq 7 0 1,a1 8 7,bq 9 0 1,a1 10 9,ct 11 10,o 12 (.min2 (.t 11) (ci 6)),o 13 (.nG 5 (.t 8) none (some (.t 12)) none),o 14 (.append 5 72 (.c (.slice none 0 0)) (.t 13)),bq 15 1 1,a1 16 15,bq 17 1 1,a1 18 17,ct 19 18,o 20 (.min2 (.t 19) (ci 6)),o 21 (.nG 5 (.t 16) none (some (.t 20)) none),o 22 (.append 5 80 (.c (.slice none 0 0)) (.t 21)),o 23 (.build [(.slice none 0 0),(.slice none 0 0)] [(0,1,(.t 14)),(1,1,(.t 22))]),o 3 (.alloc 25 [(.slice none 0 0),(.slice none 0 0)]),c7 2 3 23] (some ⟨[0,1,2,3,4,5,6,7,8,9,10,11,12,13,14,15,16,17,18],gn 18 1,[(7,9),(7,11),(7,12),(7,14),(17,1),(17,3),(17,4),(17,6),(17,7),(17,9),(17,11),(17,12),(17,14),(17,15)]⟩)) JM
abbrev T.ayz:Nat:=25
abbrev T.ayA:Nat:=25
abbrev T.ayB:Nat:=25
@[simp] def wk:b2:=⟨139,(ay [hn 1 25 0,o 2 (.alloc 25 [(.slice none 0 0),(.slice none 0 0)])] asj),[.cell 2 true 2]⟩
def bVf:List aE:=[b5 28 27 0,b5 29 27 1,c7 5 4 28,m 5 29]
def bQn:ae:=ay (m 25 0::eR 26 2 6::ch 27 F.bYH 25 26::bVf) .ret
def bWp:ae:=ay [bq 19 1 6,a1 20 19,eR 21 5 3,o 22 (.buildSlice [(.string ⟨#[]⟩),(.int .i64 (.ofNat 0)),(.slice none 0 0),(.string ⟨#[]⟩),(.string ⟨#[]⟩)] 5 1 [(0,5,(.t 21))]),o 23 (.append 5 80 (.t 20) (.t 22)),bq 24 1 6,c7 1 24 23] bQn
def bVc:List aE:=[bq 18 2 3,c7 1 18 17]
def bVa:ae:=ay (bq 15 2 3::a1 16 15::bX 17 F.bYs 16::bVc) bWp
def bWZ:List aE:=[o 6 (.alloc 25 [(.slice none 0 0),(.slice none 0 0)]),c7 2 6 14]
def bQo:ae:=ay (m 10 0::dq 11 10::bq 12 0 11::eR 13 2 12::bX 14 F.bYg 13::bWZ) bVa
def bQp:ae:=.cond (.t 8) (ay [o 9 (.build [(.int .i64 (.ofNat 0)),(.string ⟨#[]⟩),(.slice none 0 0),(.slice none 0 0),(.slice none 0 0)] []),c7 5 4 9,bZe 5] .ret) .skip
def bQq:ae:=.seq (ay [m 7 0,o 8 (.bin .eql (.nil .ptr) (.t 7) (.c (.pointer none)))] bQp) bQo
abbrev T.bUk:Nat:=39
abbrev T.bWm:Nat:=30
abbrev T.bXN:Nat:=25
@[simp] def bYD:b2:=⟨30,(ay [hn 3 39 1,o 4 (.alloc 30 [(.int .i64 (.ofNat 0)),(.string ⟨#[]⟩),(.slice none 0 0),(.slice none 0 0),(.slice none 0 0)]),bZe 5] bQq),[.cell 4 true 5,.slot 5]⟩
def bWV:List aE:=[c7 2 2 10]
def bQr:ae:=ay (m 6 0::dq 7 6::bq 8 0 7::eR 9 2 8::bX 10 F.bYg 9::bWV) .ret
def bQs:ae:=.cond (.t 4) (ay [o 5 (.build [(.slice none 0 0),(.slice none 0 0)] []),c7 2 2 5] .ret) .skip
def bQt:ae:=.seq (ay [m 3 0,o 4 (.bin .eql (.nil .ptr) (.t 3) (.c (.pointer none)))] bQs) bQr
abbrev T.bWT:Nat:=25
@[simp] def bYB:b2:=⟨11,(ay [o 2 (.alloc 25 [(.slice none 0 0),(.slice none 0 0)])] bQt),[.cell 2 true 2]⟩
def bWR:ae:=ay [bZu 4] .ret
def bQu:ae:=.aT [m 46 6,o 47 (.bin .add .aZ (.t 46) (ci 1)),m 6 47]
def bQv:ae:=.cond (.t 59) (ay [bZe 4] .ret) .skip
def bQw:ae:=.seq (.block 3 (.seq (.draw [bq 48 1 2,a1 49 48,m 50 6,bP 51 5 49 50,eR 52 5 51,bq 53 1 3,a1 54 53,m 55 6,bP 56 5 54 55,eR 57 5 56,ch 58 F.bYz 52 57,jo 59 58] (some ⟨[0,1,2,3,4,5,6,7,8,9,10,11],gn 10 2,[]⟩)) bQv)) bQu
def bQx:ae:=dV 45 2
def bWQ:ae:=.seq (ay [m 41 6,bq 42 1 2,a1 43 42,ct 44 43,b7 45 .lss 41 44] bQx) bQw
def bQy:ae:=.block 2 (.loop bWQ)
def bWP:ae:=.seq (ay [o 6 (.aM (ci 0))] bQy) bWR
def bQz:ae:=.aT [m 28 5,o 29 (.bin .add .aZ (.t 28) (ci 1)),m 5 29]
def bQA:ae:=.cond (.t 40) (ay [bZe 4] .ret) .skip
def bQB:ae:=.seq (.block 1 (.seq (.draw [bq 30 0 2,a1 31 30,m 32 5,bP 33 5 31 32,eR 34 5 33,bq 35 0 3,a1 36 35,m 37 5,bP 38 5 36 37,eR 39 5 38,o 40 (.bin .neq (.cells [.s,.s,.s,.s,.b]) (.t 34) (.t 39))] (some ⟨[0,1,2,3,4,5,6,7,8,9,10],gn 10 1,[]⟩)) bQA)) bQz
def bQC:ae:=dV 27 0
def bWO:ae:=.seq (ay [m 23 5,bq 24 0 2,a1 25 24,ct 26 25,b7 27 .lss 23 26] bQC) bQB
def bQD:ae:=.block 0 (.loop bWO)
def bQE:ae:=.seq (ay [o 5 (.aM (ci 0))] bQD) bWP
def bQF:ae:=.cond (.t 22) (ay [bZe 4] .ret) .skip
def bQG:ae:=.seq (ay [bq 7 0 2,a1 8 7,ct 9 8,bq 10 0 3,a1 11 10,ct 12 11,b7 13 .neq 9 12,m 14 13,bZd 15 14 (.fieldAddr 1 (.t 2)),bZd 16 14 (.load false 1 (.t 15)),bZd 17 14 (.len .l (.t 16)),bZd 18 14 (.fieldAddr 1 (.t 3)),bZd 19 14 (.load false 1 (.t 18)),bZd 20 14 (.len .l (.t 19)),bZd 21 14 (.bin .neq .aZ (.t 17) (.t 20)),o 22 (.pick (.t 14) (.c (.bool true)) (.t 21))] bQF) bQE
abbrev T.cZp:Nat:=25
abbrev T.cZq:Nat:=25
@[simp] def bYA:b2:=⟨60,(ay [hn 2 25 0,hn 3 25 1,bZe 4] bQG),[.slot 4]⟩
def bWN:List aE:=[o 37 (.pick (.t 31) (.t 36) (.c (.bool false))),m 4 37]
def bQH:ae:=ay (bq 5 0 2::a1 6 5::bq 7 0 3::a1 8 7::b7 9 .eql 6 8::m 10 9::bZc 11 10 (.fieldAddr 1 (.t 2))::bZc 12 10 (.load false 1 (.t 11))::bZc 13 10 (.fieldAddr 1 (.t 3))::bZc 14 10 (.load false 1 (.t 13))::bZc 15 10 (.bin .eql .aZ (.t 12) (.t 14))::o 16 (.pick (.t 10) (.t 15) (.c (.bool false)))::m 17 16::bZc 18 17 (.fieldAddr 3 (.t 2))::bZc 19 17 (.load false 1 (.t 18))::bZc 20 17 (.fieldAddr 3 (.t 3))::bZc 21 17 (.load false 1 (.t 20))::bZc 22 17 (.bin .eql .aZ (.t 19) (.t 21))::o 23 (.pick (.t 17) (.t 22) (.c (.bool false)))::m 24 23::bZc 25 24 (.fieldAddr 4 (.t 2))::bZc 26 24 (.load false 1 (.t 25))::bZc 27 24 (.fieldAddr 4 (.t 3))::bZc 28 24 (.load false 1 (.t 27))::bZc 29 24 (.bin .eql .aZ (.t 26) (.t 28))::o 30 (.pick (.t 24) (.t 29) (.c (.bool false)))::m 31 30::bZc 32 31 (.fieldAddr 2 (.t 2))::bZc 33 31 (.load false 1 (.t 32))::bZc 34 31 (.fieldAddr 2 (.t 3))::bZc 35 31 (.load false 1 (.t 34))::bZc 36 31 (.call F.bYy [(.t 33),(.t 35)])::bWN) .ret
abbrev T.cZi:Nat:=39
abbrev T.cZj:Nat:=39
@[simp] def bYz:b2:=⟨38,(ay [hn 2 39 0,hn 3 39 1,bZe 4] bQH),[.slot 4]⟩
def bQI:ae:=ay [bZu 4] .ret
def bQJ:ae:=.aT [m 15 5,o 16 (.bin .add .aZ (.t 15) (ci 1)),m 5 16]
def bQK:ae:=.cond (.t 25) (ay [bZe 4] .ret) .skip
def bQL:ae:=.seq (.block 1 (.seq (.draw [m 17 0,m 18 5,bP 19 2 17 18,eR 20 2 19,m 21 1,m 22 5,bP 23 2 21 22,eR 24 2 23,o 25 (.bin .neq (.cells [.i,.s]) (.t 20) (.t 24))] (some ⟨[0,1,2,3,4,5,6,7,8],gn 8 1,[]⟩)) bQK)) bQJ
def bQM:ae:=dV 14 0
def bWM:ae:=.seq (ay [m 11 5,m 12 0,ct 13 12,b7 14 .lss 11 13] bQM) bQL
def bQN:ae:=.block 0 (.loop bWM)
def bQO:ae:=.seq (ay [o 5 (.aM (ci 0))] bQN) bQI
def bQP:ae:=.cond (.t 10) (ay [bZe 4] .ret) .skip
def bQQ:ae:=.seq (ay [m 6 0,ct 7 6,m 8 1,ct 9 8,b7 10 .neq 7 9] bQP) bQO
@[simp] def bYy:b2:=⟨26,(ay [bZe 4] bQQ),[.slot 4]⟩
def bWv:ae:=.seq (.draw [bq 51 0 4,a1 52 51,bq 53 0 7,a1 54 53,b7 55 .eql 52 54,m 56 55,bZc 57 56 (.fieldAddr 1 (.t 4)),bZc 58 56 (.load false 1 (.t 57)),bZc 59 56 (.fieldAddr 1 (.t 7)),bZc 60 56 (.load false 1 (.t 59)),bZc 61 56 (.bin .eql .aZ (.t 58) (.t 60)),o 62 (.pick (.t 56) (.t 61) (.c (.bool false))),m 63 62,bZc 64 63 (.load true 2 (.t 1)),bZc 65 63 (.load true 5 (.t 7)),bZc 66 63 (.call F.s7 [(.t 64),(.t 65)]),o 67 (.pick (.t 63) (.t 66) (.c (.bool false))),m 68 67,bZc 69 68 (.aM (.t 6)),bZc 70 68 (.call F.bYB [(.t 69)]),bZc 71 68 (.load true 2 (.t 1)),bZc 72 68 (.call F.bYA [(.t 70),(.t 71)]),o 73 (.pick (.t 68) (.t 72) (.c (.bool false))),m 2 73] (some ⟨[0,1,2,3,4,5,6,7,8,9,10,11,12,13,14,15,16,17,18,20,19,21,22,23],[false,false,false,false,true,true,false,false,false,false,true,true,true,false,false,true,true,true,false,false,false,true,true,true],[(20,19)]⟩)) .ret
def bQR:ae:=.aT [o 50 (.bin .add .aZ (.t 35) (ci 1)),m 35 50]
def bQS:ae:=.cond (.t 49) (ay [bZe 2] .ret) .skip
def bVI:ae:=ay [m 48 5,jo 49 48] bQS
def bVH:List aE:=[m 38 45,b5 46 38 0,b5 47 38 1,c7 5 7 46,m 5 47]
def bQT:ae:=ay (m 39 6::bq 40 1 1::a1 41 40::m 42 9::bP 43 5 41 42::eR 44 5 43::ch 45 F.bYD 39 44::bVH) bVI
def bQU:ae:=.seq (.block 1 (ay [m 37 35,m 9 37] bQT)) bQR
def bQV:ae:=.seq (dV 36 0) bQU
def bVE:ae:=ay [b7 36 .lss 35 34] bQV
def bQW:ae:=.block 0 (.loop bVE)
def bQX:ae:=.seq (ay [bq 32 1 1,a1 33 32,ct 34 33,o 35 (.aM (ci 0))] bQW) bWv
def bQY:ae:=.cond (.t 31) (ay [bZe 2] .ret) .skip
def bVx:ae:=.seq (ay [m 30 8,jo 31 30] bQY) bQX
def bVw:List aE:=[m 22 26,b5 27 22 0,b5 28 22 1,b5 29 22 2,o 7 (.alloc 30 [(.int .i64 (.ofNat 0)),(.string ⟨#[]⟩),(.slice none 0 0),(.slice none 0 0),(.slice none 0 0)]),m 6 27,c7 5 7 28,m 8 29]
def bVv:ae:=ay (bq 23 0 1::a1 24 23::o 25 (.build [(.slice none 0 0),(.slice none 0 0)] [(0,1,(.t 24))])::bX 26 F.bYG 25::bVw) bVx
def bQZ:ae:=.cond (.t 21) (ay [bZu 2] .ret) .skip
def bVr:ae:=.seq (ay [m 20 5,jo 21 20] bQZ) bVv
def bVq:List aE:=[m 15 17,b5 18 15 0,b5 19 15 1,o 4 (.alloc 30 [(.int .i64 (.ofNat 0)),(.string ⟨#[]⟩),(.slice none 0 0),(.slice none 0 0),(.slice none 0 0)]),c7 5 4 18,m 5 19]
def bVp:ae:=ay (eR 16 2 1::bX 17 F.w6 16::bVq) bVr
def bVo:List aE:=[c7 2 1 14]
def cZa:ae:=ay (eR 13 2 1::bX 14 F.wk 13::bVo) bVp
def cZb:ae:=.cond (.t 12) (ay [bZe 2] .ret) .skip
def bVn:ae:=.seq (ay [m 11 3,jo 12 11] cZb) cZa
def bVm:List aE:=[m 3 10]
def cZc:ae:=ay (o 10 (.call F.O9 [])::bVm) bVn
abbrev T.cZG:Nat:=25
abbrev T.bWs:Nat:=30
abbrev T.bWu:Nat:=30
@[simp] def bYO:b2:=⟨74,(ay [hn 1 25 0,bZe 2] cZc),[.slot 2]⟩
attribute [simp] ac9 ada adb ade adf adg adh adi adj adk adl adm adn ado adp adq adr ads adt adu adv adw adx ady adz adA adB adC adD adE adF adG adH adI adJ adK adL adM adN adO adP adQ adR adS adT adU adV adW adX adY adZ ad0 ad1 ad2 ad3 ad4 ad5 ad6 ad7 ad8 ad9 aea aeb aec aed aee aef aeg aeh aei aej aek ael aem aen aeo aep aeq aer aes aet aeu aev aew aex aey aez aeA aeB aeC aeD aeE aeF aeG aeH aeI aeJ aeK aeL aeM aeN aeO aeP aeQ aeR aeS aeT aeU aeV aeW aeX aeY aeZ ae0 ae1 ae2 ae3 ae4 ae5 ae6 ae7 ae8 ae9 afa afb afc afd afe aff afg afh afi afj afk afl afm afn afo afp afq afr afs aft afu afv afw afx afy afz afA afB afC afD afE afF afG afH afI afJ afK afL afM afN afO afP afQ afR afS afT afU afV afW afX afY afZ af0 af1 af2 af3 af4 af5 af6 af7 af8 af9 aga agb agc agd age agf uT agh agi agj agk agl agm agn ago agp agq agr ags Dg agt agu agv agw agx agy agz Df agA agB agC wQ agD agE agF agG uV agH agI agJ agK agL agM agN agO agP agQ agR agS agT agU agV agW agX agY agZ ag0 ag1 ag2 ag3 ag4 ag5 ag6 ag7 ag8 ag9 aha ahb qW ahc ahd ahe ahf ahg ahh ahi ahj ahk ahl ahm ahn aho ahp ahq ahr ahs aht ahu ahv ahw ahx ahy ahz ahA ahB r0 ahC ahD ahE ahF ahG ahH ahI ahJ ahK ahL ahM ahN ahO ahP ahQ ahR ahS ahT ahU ahV ahW ahX ahY ahZ ah0 ah1 ah2 ah3 ah4 ah5 ah6 ah7 ah8 ah9 aia aib aic aid aie aif aih aii aij aik ail yV Hi Hj aim ain aio aip aiq air ais ait aiu aiv aiw aix aiy aiz aiA aiB aiC aiD aiE aiF aiG aiH aiI aiJ aiK aiL aiM aiN aiO aiP aiQ aiR aiS sq aiT aiU aiV aiW aiX aiY aiZ ai0 ai1 ai2 ai3 ai4 ai5 ai6 ai7 ai8 ai9 aja ajb ajc ajd aje ajf ajg ajh aji ajj ajk ajl ajm ajn ajo ajp ajq tl ajr ajs ajt aju ajv ajw A4 ajx ajy ajz DT ajA ajB ajC ajD ajE ajF ajG ajH ajI ajJ ajK ajL ajM ajN ajO ajP ajQ ajR ajS ajT ajU ajV ajW ajX ajY ajZ aj0 aj1 aj2 aj3 aj4 aj5 aj6 aj7 aj8 aj9 aka akb akc akd ake akf akg akh aki akj akk akl akm akn ako akp akq akr aks akt aku akv akw akx aky akz akA akB akC akD akE rv akF akG akH akI akJ akK akL akM akN akO akP akQ akR akS akT akU akV akW akX akY akZ ak0 ak1 ak2 ak3 ak4 ak5 ak6 ak7 ak8 ak9 ala alb alc ald ale alf alg alh ali alj alk alm aln alo alp alq alr als alu alv alw alx aly alz alA alB alC alD alE alF alG alH alI alJ alK alL alM alN alO alP alQ ng ue Od qv alR alS alT Cc alU alV alW alX alY alZ al0 I7 al1 al2 al3 al4 Oi al5 Fj al6 al7 al8 al9 ama amb Dr amc amd ame amf amg amh ami amj R1 amk aml amm amn amo zF amp amq Cs OM amr ams amt amu OP amv amw amx amy Jm amz amA amB OQ amC Fp amD amE amF amG amH OY amI x6 qF amJ amK amL Jn amM amN O0 amO Cv amP amQ amR amS amT O6 amU amV amW amX O5 amY Jv O8 amZ am0 O7 am1 am2 am3 am4 am5 am6 Ce am7 am8 am9 ana anb Og anc ane anf ang anh ani anj ank anl anm ann bUU bUV bUW I' ano anp anq anr Ja ans ant anu anv anw anx anz anA anB anC Cq anD jX Jg anE anF OD anG Jh anH anI OC anJ anK anL Je an1 an2 an3 an4 Oq an5 Oo an6 an7 an8 an9 Ov aoa aob Ou aoc aod aoe aof OL aog qC aoh aoi aoj aok aol aom aon OJ aoo Ji aop aoq OH aor aos aot R6 Az R' R9 R8 R7 La Sd Sc Sb Sa Lb Se aou aov R5 aow aox aoy aoz aoA aoB aoC aoD aoE aoF aoG aoH aoI aoJ DL TQ Hb aoK aoL aoM TP aoN Ha aoO TS aoP aoQ aoR TR aoS aoT A1 T1 T0 A2 T2 TZ TX TW TT aoU aoV T5 aoW T4 aoX G6 TL DI TK aoY aoZ T3 ao0 ao1 ao2 ao3 Lf ao4 ao5 ao6 ao7 ao8 Si ao9 Le apa Sg Sx apb apc Sl Sn Sm apd ape apf apg Sk aph Dv api Li apj apk apl apm Sy apn Sw apo Sq Sp Su St Ss Sr apq apr aps apt So Lh apu Sv apv apw apx apy apz GB apA apB AA apC apD apE apF apG ve apH apI apJ apK SA apL apM apN apO apP apQ SC apR apS apT SB apU apV apW S9 GY apX apY S7 S6 GX apZ Lw Ls ap0 ap1 S5 S4 S3 ap2 ap3 ap4 ap5 ap6 ap7 ap8 ap9 aqa SV SU aqb aqc aqd SR aqe GV aqf S2 S1 S0 aqg aqh aqi SZ aqj SX aqk SY aql aqm aqn SW aqo aqp aqq SG SF aqr SE aqs aqt vf aqu aqv aqw aqx SD aqy aqz aqA aqB aqC aqD aqE aqF aqG aqH aqI Dz SQ SP aqJ aqK SN SM AM aqL aqM aqN SL aqO GS SJ aqP SI aqQ aqR aqS aqT SH aqU Ll aqV aqW Te G2 aqX aqY aqZ aq0 Td Tc aq1 aq2 Lz Tb Ta S' aq3 aq4 aq5 aq6 aq7 aq8 Tg aq9 ara arb arc ard Ti are arf arh Th ari arj ark arl arn aro arp arq ars Tl art Tj Tk aru arv arw arx ary Ts Tr Tp arz Tq arA arB arC arD arE To arF arG Tn Tm arH arI arJ arK arL arM arN arO Tx arP AT TA Tz arQ arR Tv Tw arS Ur Uq Up Uo Um Un Uj Ut Us arT Ui Uh Ue Uu arU Ud Uc T9 T' T6 T7 T8 arV bVS bUX bVP bUY bUZ bVR bQa bXs bQb bVV bQc bVT bVU bQd bVY bQe bWA bQf bVX bQg bQh bQi bQj bQk bQl bQm Qi ar6 P8 ar7 ar8 Qh ar9 Qe asa asb asc asd ase P3 asf FB JH P0 asg ash Qd asi JM asj bVf bQn bWp bVc bVa bWZ bQo bQp bQq bWV bQr bQs bQt bWR bQu bQv bQw bQx bWQ bQy bWP bQz bQA bQB bQC bWO bQD bQE bQF bQG bWN bQH bQI bQJ bQK bQL bQM bWM bQN bQO bQP bQQ bWv bQR bQS bVI bVH bQT bQU bQV bVE bQW bQX bQY bVx bVw bVv bQZ bVr bVq bVp bVo cZa cZb bVn bVm cZc
section
variable[cn]
def bb:List Nat->Nat
 | []=>0
 | d::ds=>d+4294967296*bb ds
def dg(ds:List Nat)(i:Nat):Nat:=ds[i]?.getD 0
def e'(ds:List Nat):Prop:=∀d∈ds,d<4294967296
def strip:List Nat->List Nat
 | []=>[]
 | d::ds=>if strip ds=[]/\d=0 then[] else d::strip ds
def c4(ds:List Nat):List Value:=ds.map λ(d:Nat)=>Value.int .u32 (d:Int)
def C0(y:cj)(row:List Value):Prop:=y=.cells row (.n 1)∨y=.ro row
def er(H:ah)(v:Value)(ds:List Nat):Prop:=
 e' ds/\((v=.slice none 0 0/\ds=[])∨∃c off cap y row,v=.slice (some ⟨c,off,none⟩) ds.length cap/\H.get c=some y/\C0 y row/\(row.drop off).take ds.length=c4 ds/\off+ds.length<=row.length/\ds.length<=cap/\cn.s c)
def aaq:cj->Bool:=λ_=>true
end
@[simp] theorem aGx(cs:List Value)(t:TypeId):aaq (.cells cs (.t t))=true:=rfl
end Go.Dam.C
namespace Go.Dam.C
open Go Go.Dam
variable[cn]
abbrev NN(x:cj)(l:List Value):Prop:=rowOf x=some l/\aaq x=true
def gm(H:ah)(v:Value)(ds:List Nat):Prop:=
 (v=.pointer none/\ds=[])∨∃b x s,v=.pointer (some ⟨b,0,none⟩)/\H.get b=some x/\NN x [s]/\er H s ds
def Has(X:aY)(f:Nat)(F:b2):Prop:=X.ov f=none/\X.T f=some F
structure fa(X:aY):Prop where
 ja:Has X F.ja C.ja
 fB:Has X F.fB C.fB
 jm:Has X F.jm C.jm
 eK:Has X F.eK C.eK
 oD:Has X F.oD C.oD
 rn:Has X F.rn C.rn
 rp:Has X F.rp C.rp
 na:Has X F.na C.na
 wE:Has X F.wE C.wE
 qR:Has X F.qR C.qR
 rU:Has X F.rU C.rU
 rV:Has X F.rV C.rV
 qS:Has X F.qS C.qS
 uK:Has X F.uK C.uK
 wF:Has X F.wF C.wF
 qm:Has X F.qm C.qm
 uL:Has X F.uL C.uL
 wG:Has X F.wG C.wG
 wH:Has X F.wH C.wH
 uM:Has X F.uM C.uM
 sY:Has X F.sY C.sY
 sZ:Has X F.sZ C.sZ
 wI:Has X F.wI C.wI
 wJ:Has X F.wJ C.wJ
 oE:Has X F.oE C.oE
 lW:Has X F.lW C.lW
 tQ:Has X F.tQ C.tQ
 kp:Has X F.kp C.kp
 pr:Has X F.pr C.pr
 mI:Has X F.mI C.mI
 nx:Has X F.nx C.nx
 tR:Has X F.tR C.tR
 kG:Has X F.kG C.kG
 nV:Has X F.nV C.nV
 nW:Has X F.nW C.nW
 ke:Has X F.ke C.ke
 oG:Has X F.oG C.oG
 k7:Has X F.k7 C.k7
 gE:Has X F.gE C.gE
 tS:Has X F.tS C.tS
 su:Has X F.su C.su
variable{X:aY}{pm:Perm}{H H':ah}
end Go.Dam.C
namespace Go.Dam.C
open Go Go.Dam
variable{X:aY}{pm:Perm}{H H':ah}
theorem Call.has{f:FuncId}{args:List Value}{R:Value->ah->Prop}{F:b2}(al:Has X f F)(aF:Nat.ble args.length F.lL=true)
 (h:wp X pm (.code F.body) (zx args 0 []) H [] λx l H'=>(x=.normal∨x=.ret)/\∃vs,nb l H' F.res=some vs/\R (j5 vs) H'):Call X pm f args H R:=
 Call.func al.1 al.2 (Nat.le_of_ble_eq_true aF) h
theorem C0.row{y:cj}{row:List Value}(h:C0 y row):rowOf y=some row:=by rcases h with rfl | rfl<;>rfl
theorem C0.nG{y:cj}{row:List Value}(bu:C0 y row){l h m cap c off:Nat}(ai:H.get c=some y)(U:l<=h)(aa:h<=m)(aq:m<=cap):
 (nK 1 (some ⟨c,off,none⟩) l h m cap).run pm H=some (.slice (some ⟨c,off+l,none⟩) (h-l) (m-l),H):=by
 rcases bu with rfl | rfl
 ·have:=aar (pm:=pm) (esz:=1) (off:=off) ai (.inl rfl) U aa aq;simpa using this
 ·rw[az9 ai U aa aq];simp
section
variable[cn]
theorem er.take{base:Option Addr}{cap:Nat}{ds:List Nat}(h:er H (.slice base ds.length cap) ds)(k:Nat)(ag:k<=ds.length):er H (.slice base k cap) (ds.take k):=by
 obtain⟨aO,h⟩:=h;refine⟨λd aB=>aO d (bYk aB),?_⟩
 rcases h with⟨U,rfl⟩ | ⟨c,off,dN,y,row,aD,U,aa,aq,a8,cg⟩
 ·cases U;obtain rfl:k=0:=by simpa using ag
  exact .inl ⟨rfl,by simp⟩
 ·cases aD;refine .inr ⟨c,off,cap,y,row,by simp[bYL ag],U,aa,?_,by simp;omega,by have:=cg.1;simp;omega,cg.2⟩;have:=congrArg (List.take k) aq;rw[List.take_take]at this;simp only[bYl];rw[this];simp[c4,List.map_take]
theorem er.form{v:Value}{ds:List Nat}(h:er H v ds):∃base cap,v=.slice base ds.length cap:=by
 obtain⟨_,⟨rfl,rfl⟩ | ⟨c,off,cap,y,row,rfl,_⟩⟩:=h
 ·exact⟨_,_,rfl⟩
 ·exact⟨_,_,rfl⟩
theorem er.nil:er H (.slice none 0 0) []:=⟨λ_ h=>(by cases h),.inl ⟨rfl,rfl⟩⟩
theorem er.bT{v:Value}{ds:List Nat}(h:er H v ds)(au:cU pm H)(ag:b6 pm H H'):er H' v ds:=by
 refine⟨h.1,h.2.imp id ?_⟩;rintro⟨c,off,cap,y,row,U,aa,aq⟩;exact⟨c,off,cap,y,row,U,ag.some au aa,aq⟩
theorem gm.bT{v:Value}{ds:List Nat}(h:gm H v ds)(au:cU pm H)(ag:b6 pm H H'):gm H' v ds:=by
 refine h.imp id ?_;rintro⟨b,x,s,U,aa,aq,a8⟩;exact⟨b,x,s,U,ag.some au aa,aq,a8.bT au ag⟩
end
theorem er.cell{ds:List Nat}{row:List Value}{off i:Nat}(h:(row.drop off).take ds.length=c4 ds)(ad:i<ds.length):row[off+i]? = some (.int .u32 ((ds[i]:Nat):Int)):=by
 have:=congrArg (·[i]?) h;simp only[pT ad,o']at this;rw[this];simp[c4,ad]
theorem e'.get{ds:List Nat}(h:e' ds)(i:Nat):ds[i]?.getD 0<4294967296:=by
 cases e:ds[i]? with
 | none=>simp
 | some d=>exact h d (fR e)
theorem hd{n:Int}(aD:0<=n)(h:n<18446744073709551616):wr .u64 n=n:=by
 rw[vE];simp[IntKind.wrap,IntKind.bits,IntKind.signed];omega
theorem zWc{n:Int}(aD:-9223372036854775808<=n)(h:n<9223372036854775808):wr .i64 n=n:=by
 rw[vE];simp[IntKind.wrap,IntKind.bits,IntKind.signed];split<;>omega
theorem n4{n:Int}:wr .u32 n=n%4294967296:=by
 rw[vE];simp[IntKind.wrap,IntKind.bits,IntKind.signed]
section
variable[cn]
theorem kW(al:Has X F.eK eK){v:Value}{ds:List Nat}(aB:gm H v ds):Call X pm F.eK [v] H λr H'=>H'=H/\er H r ds:=by
 refine Call.has al rfl ?_
 rcases aB with⟨rfl,rfl⟩ | ⟨b,x,s,rfl,U,aa,aq⟩
 ·simp[er,e']
 ·simp[U,aa,aq]
theorem yr(al:Has X F.jm jm){v:Value}{ds:List Nat}(aB:er H v ds)(i:Nat):
 Call X pm F.jm [v,.int .i64 (i:Int)] H λr H'=>H'=H/\r=.int .u64 ((dg ds i:Nat):Int):=by
 refine Call.has al rfl ?_;obtain⟨aO,⟨rfl,rfl⟩ | ⟨c,off,cap,y,row,rfl,U,aa,aq,_⟩⟩:=aB
 ·simp[dg]
 ·have Kp:=aO.get i;by_cases ad:i<ds.length
  ·have af:=er.cell aq ad;have hw:wr .u64 ((ds[i]:Nat):Int)=((ds[i]:Nat):Int):=hd (by omega) (by simp[ad]at Kp;omega);simp[ad,U,aa.row,af,hw,dg]
  ·simp[ad,dg]
end
theorem Q8{ds:List Nat}{k:Nat}(h:∀i,k<=i->ds[i]?.getD 0=0):strip ds=strip (ds.take k):=by
 induction ds generalizing k with
 | nil=>simp
 | cons d ds ih=>
   cases k with
   | zero=>
     have U:strip ds=strip (ds.take 0):=ih λi _=>by simpa using h (i+1) (by omega)
     have aa:d=0:=by simpa using h 0 (by omega)
     simp[strip,U,aa]
   | succ k=>
     have U:strip ds=strip (ds.take k):=ih λi ad=>by simpa using h (i+1) (by omega)
     simp only[List.take_succ_cons,strip,<-U]
theorem aAa{ds:List Nat}(h:ds=[]∨ds[ds.length-1]?.getD 0≠0):strip ds=ds:=by
 induction ds with
 | nil=>rfl
 | cons d ds ih=>
   cases ds with
   | nil=>simp[strip]at h|-;exact h
   | cons e es=>
     have:=ih (.inr (by simpa using h));simp only[strip]at this|-;simp only[this];simp
section
variable[cn]
def aAb(H:ah)(v:Value)(ds:List Nat):Prop:=∃b x s,v=.pointer (some ⟨b,0,none⟩)/\H.get b=some x/\NN x [s]/\er H s ds
theorem Q9(al:Has X F.fB fB)(au:cU pm H){v:Value}{ds:List Nat}(aB:er H v ds)(hlen:ds.length<=1073741824):
 Call X pm F.fB [v] H λr H'=>b6 pm H H'/\aAb H' r (strip ds):=by
 refine Call.has al rfl ?_;have vH:∃base cap,v=.slice base ds.length cap:=by
  obtain⟨_,⟨rfl,rfl⟩ | ⟨c,off,cap,y,row,rfl,_⟩⟩:=aB
  ·exact⟨_,_,rfl⟩
  ·exact⟨_,_,rfl⟩
 obtain⟨base,cap,rfl⟩:=vH;simp;refine hv.of (λk:Nat=>[(3,.int .i64 (k:Int)),(0,.slice base ds.length cap)]) (λk H'=>H'=H/\k<=ds.length/\∀i,k<=i->ds[i]?.getD 0=0) id ds.length (by simp) ⟨rfl,bR _,λi ad=>by simp[ad]⟩ ?_;rintro k H' ⟨rfl,ag,bl⟩;by_cases CH:0<k
 ·obtain⟨Kp,⟨_,rfl⟩ | ⟨c,off,dN,y,row,aD,U,aa,aq,_⟩⟩:=id aB
  ·simp at ag;omega
  cases aD;have hw:wr .i64 ((k:Int)-1)=((k-1:Nat):Int):=by rw[zWc (by omega) (by omega)];omega
  have af:=er.cell aq (show k-1<ds.length by omega);simp[CH,hw,U,aa.row,af,show k-1<ds.length by omega];refine⟨λqj=>.of (k-1) (by simp;omega) (by simp) ⟨rfl,by omega,λi ad=>?_⟩,λqj=>?_⟩
  ·by_cases JP:i=k-1
   ·subst JP;simp[show k-1<ds.length by omega,qj]
   ·exact bl i (by omega)
  ·rw[aa.nG U (by omega) (by omega) (by omega)];simp[au.make,au.pick];refine⟨(b6.refl au).new _,⟨_,_,_,rfl,dT,⟨rfl,rfl⟩,?_⟩⟩;have gz:strip ds=ds.take k:=by
    rw[Q8 bl,aAa];right;simp[bYL ag];rw[pT (by omega)];simpa [show k-1<ds.length by omega]using qj
   rw[gz];exact(er.take aB k ag).bT au ((b6.refl au).new _)
 ·obtain rfl:k=0:=by omega
  have gz:strip ds=[]:=by rw[Q8 bl];rfl
  rw[gz];obtain⟨Kp,⟨cY,rfl⟩ | ⟨c,off,dN,y,row,aD,U,aa,aq,_⟩⟩:=id aB
  ·cases cY;simp[aAc,au.make,au.pick];exact⟨(b6.refl au).new _,⟨_,_,_,rfl,dT,⟨rfl,rfl⟩,.nil⟩⟩
  ·cases aD;simp;rw[aa.nG U (by omega) (by omega) (by omega)];simp[au.make,au.pick];exact⟨(b6.refl au).new _,⟨_,_,_,rfl,dT,⟨rfl,rfl⟩,(er.take aB 0 ag).bT au ((b6.refl au).new _)⟩⟩
theorem qT(al:Has X F.fB fB)(au:cU pm H){v:Value}{ds:List Nat}(aB:er H v ds)(hlen:ds.length<=1073741824):
 Call X pm F.fB [v] H λr H'=>b6 pm H H'/\gm H' r (strip ds):=(Q9 al au aB hlen).mono λ_ _ h=>⟨h.1,.inr h.2⟩
def b3(ds:List Nat):Nat->Nat
 | 0=>0
 | i+1=>b3 ds i+dg ds i*4294967296^i
end
theorem e'.dg{ds:List Nat}(h:e' ds)(i:Nat):dg ds i<4294967296:=h.get i
theorem aAd(d:Nat)(ds:List Nat)(i:Nat):dg (d::ds) (i+1)=dg ds i:=by simp[dg]
theorem aAe(d:Nat)(ds:List Nat)(i:Nat):b3 (d::ds) (i+1)=d+4294967296*b3 ds i:=by
 induction i with
 | zero=>simp[b3,dg]
 | succ i ih=>
   rw[b3,ih,aAd,b3,bZh];grind
theorem kX{ds:List Nat}{i:Nat}(h:ds.length<=i):b3 ds i=bb ds:=by
 induction ds generalizing i with
 | nil=>
   induction i with
   | zero=>rfl
   | succ i ih=>rw[b3,ih (by simp)];simp[dg,bb]
 | cons d ds ih=>
   cases i with
   | zero=>simp at h
   | succ i=>rw[aAe,ih (by simpa using h)];rfl
theorem pF{ds:List Nat}(h:e' ds)(i:Nat):b3 ds i<4294967296^i:=by
 induction i with
 | zero=>simp[b3]
 | succ i ih=>
   have:=h.dg i;rw[b3,bZh];have:dg ds i*4294967296^i<=4294967295*4294967296^i:=hQ _ (by omega);omega
theorem s0{ds:List Nat}(h:e' ds):bb ds<4294967296^ds.length:=by rw[<-kX (bR _)];exact pF h _
theorem qn(ds:List Nat):bb (strip ds)=bb ds:=by
 induction ds with
 | nil=>rfl
 | cons d ds ih=>
   simp only[strip];split
   ·rename_i h;simp[bb,<-ih,h.1,h.2]
   ·simp[bb,ih]
theorem aas{ds:List Nat}(h:e' ds):e' (strip ds):=by
 induction ds with
 | nil=>exact h
 | cons d ds ih=>
   simp only[strip];split
   ·intro d aB;cases aB
   ·intro e he
    rcases lD.1 he with rfl | he
    ·exact h _ (.head _)
    ·exact ih (λd aB=>h d (.tail _ aB)) e he
theorem C1(ds:List Nat):strip (strip ds)=strip ds:=by
 induction ds with
 | nil=>rfl
 | cons d ds ih=>
   simp only[strip];split
   ·rfl
   ·rename_i h;simp only[strip,ih,aU h]
theorem Q'(ds:List Nat):(strip ds).length<=ds.length:=by
 induction ds with
 | nil=>simp[strip]
 | cons d ds ih=>simp only[strip];split<;>simp;omega
section
variable[cn]
def aw(ds:List Nat)(k:Nat):Nat:=bb (ds.drop k)
end
theorem qU(ds:List Nat)(k:Nat):aw ds k=dg ds k+4294967296*aw ds (k+1):=by
 unfold aw dg
 induction ds generalizing k with
 | nil=>simp[bb]
 | cons d ds ih=>
   cases k with
   | zero=>simp[bb]
   | succ k=>simpa using ih k
theorem ys(ds:List Nat):aw ds 0=bb ds:=rfl
theorem Ak{ds:List Nat}{k:Nat}(h:ds.length<=k):aw ds k=0:=by simp[aw,List.drop_eq_nil_of_le h,bb]
theorem aat{as cW:List Nat}(aN:e' as)(ai:e' cW){k:Nat}(h:aw as k<aw cW k):bb as<bb cW:=by
 induction k with
 | zero=>exact h
 | succ k ih=>
   refine ih ?_;rw[qU as k,qU cW k];have:=aN.dg k;have:=ai.dg k;omega
section
variable[cn]
structure c6(H:ah)(v:Value)(n:Nat):Prop where
 ex:∃ds,gm H v ds/\strip ds=ds/\bb ds=n
theorem gm.ej{v:Value}{ds:List Nat}(h:gm H v ds):e' ds:=by
 rcases h with⟨_,rfl⟩ | ⟨b,x,s,_,_,_,h⟩
 ·intro d aB;cases aB
 ·exact h.1
theorem c6.bT{v:Value}{n:Nat}(h:c6 H v n)(au:cU pm H)(ag:b6 pm H H'):c6 H' v n:=⟨h.ex.imp λ_ h=>⟨h.1.bT au ag,h.2⟩⟩
end
theorem C2{ds:List Nat}(h:strip ds=ds)(aD:ds≠[]):4294967296^(ds.length-1)<=bb ds:=by
 induction ds with
 | nil=>exact absurd rfl aD
 | cons d ds ih=>
   have aa:strip ds=ds/\¬(strip ds=[]/\d=0):=by
    simp only[strip]at h;split at h
    ·cases h
    ·rename_i aq;simp only[List.cons.injEq,true_and]at h;exact⟨h,aq⟩
   cases ds with
   | nil=>
     have:d≠0:=by intro e;exact aa.2 ⟨rfl,e⟩
     simp[bb];omega
   | cons e es=>
     have:=ih aa.1 (by simp);simp only[bZt,Nat.add_sub_cancel]at this|-;rw[bb,bZh];omega
theorem yt{ds:List Nat}(h:strip ds=ds){k:Nat}(ag:bb ds<4294967296^k):ds.length<=k:=by
 by_cases aD:ds=[]
 ·simp[aD]
 ·have:=C2 h aD;have aa:4294967296^(ds.length-1)<4294967296^k:=eD this ag;have:=(bYt (by omega:1<4294967296)).1 aa;omega
section
variable[cn]
def Small(n:Nat):Prop:=n<4294967296^134217728
end
theorem Small.len{n:Nat}{ds:List Nat}(h:Small n)(aG:strip ds=ds)(aF:bb ds=n):ds.length<=134217728:=by
 unfold Small at h;generalize 134217728=k at h|-;exact yt aG (aF▸h)
section
variable[cn]
def iu(a b:Nat):Int:=if a<b then -1 else if a=b then 0 else 1
theorem IP(al:fa X){v w:Value}{a b:List Nat}(aN:gm H v a)(ai:gm H w b)(ir:a.length<=1073741824)(iM:b.length<=1073741824):
 Call X pm F.oD [v,w] H λr H'=>H'=H/\r=.int .i64 (iu (bb a) (bb b)):=by
 have hx:=aN.ej;have fM:=ai.ej;refine Call.has al.oD rfl ?_;simp;refine aR.bZb (kW al.eK aN) ?_;rintro va _ ⟨rfl,eL⟩;simp;refine aR.bZb (kW al.eK ai) ?_;rintro vb H ⟨rfl,h'⟩;obtain⟨ab,ac,rfl⟩:=eL.form;obtain⟨oY,dZ,rfl⟩:=h'.form;simp;refine hv.of (λk:Nat=>[(7,.int .i64 ((k:Int)-1)),(5,.slice ab a.length ac),(6,.slice oY b.length dZ)]) (λk H'=>H'=H/\k<=max a.length b.length/\aw a k=aw b k) id (max a.length b.length) ?_ ⟨rfl,bR _,by rw[Ak (by omega),Ak (by omega)]⟩ ?_
 ·simp;have:wr .i64 ((if a.length<b.length then(b.length:Int) else a.length)-1)=((max a.length b.length:Nat):Int)-1:=by
   rw[zWc (by split<;>omega) (by split<;>omega)];split<;>omega
  rw[this]
 rintro k H' ⟨rfl,ag,bl⟩
 cases k with
 | zero=>
   simp;rw[ys,ys]at bl;simp[iu,bl]
 | succ k=>
   simp;refine aR.bZb (yr al.jm eL k) ?_;rintro _ _ ⟨rfl,rfl⟩;simp;refine aR.bZb (yr al.jm h' k) ?_;rintro _ _ ⟨rfl,rfl⟩;simp;have ao:=qU a k;have e2:=qU b k;refine⟨λdr=>⟨λbO=>?_,λhle=>?_⟩,λheq=>.of k (by simp) (by simp;rw[zWc (by omega) (by omega)]) ⟨rfl,by omega,by omega⟩⟩
   ·have:=aat hx fM (k:=k) (by omega);simp[iu,this]
   ·have:=aat fM hx (k:=k) (by omega);have aa:¬bb a<bb b:=by omega
    have aq:¬bb a=bb b:=by omega
    simp[iu,aa,aq]
end
theorem C3(n:Nat):times [.int .u32 0] n=c4 (List.replicate n 0):=by
 induction n with
 | zero=>rfl
 | succ n ih=>simp only[times,ih,List.replicate_succ];rfl
@[simp] theorem uN(ds:List Nat):(c4 ds).length=ds.length:=by simp[c4]
theorem uO(ds:List Nat)(i d:Nat):(c4 ds).set i (.int .u32 (d:Int))=c4 (ds.set i d):=by simp[c4,List.map_set]
theorem aau{ds:List Nat}{i:Nat}(h:i<ds.length):(c4 ds)[i]? = some (.int .u32 ((dg ds i:Nat):Int)):=by simp[c4,dg,h]
section
variable[cn]
theorem yu{c:Nat}{ds:List Nat}{n:Nat}(h:H.get c=some (.cells (c4 ds) (.n 1)))(aO:e' ds)(aF:ds.length=n)(aG:cn.s c):er H (.slice (some ⟨c,0,none⟩) n n) ds:=by
 subst aF;exact⟨aO,.inr ⟨c,0,_,_,_,rfl,h,.inl rfl,by simp[c4,tp],by simp,bR _,aG⟩⟩
end
theorem e'.set{ds:List Nat}(h:e' ds)(i:Nat){d:Nat}(aB:d<4294967296):e' (ds.set i d):=λe he=>(List.mem_or_eq_of_mem_set he).elim (h e) λq=>q▸aB
theorem aav(n:Nat):e' (List.replicate n 0):=λd aB=>by rw[bWb aB];omega
theorem aAf{ds:List Nat}{i j d:Nat}(h:i<=j):b3 (ds.set j d) i=b3 ds i:=by
 induction i with
 | zero=>rfl
 | succ i ih=>rw[b3,b3,ih (by omega)];simp[dg,show ¬j=i by omega]
theorem Gd{ds:List Nat}{i d:Nat}(h:i<ds.length):dg (ds.set i d) i=d:=by simp[dg,h]
theorem s3{ds:List Nat}{i d:Nat}(h:i<ds.length):b3 (ds.set i d) (i+1)=b3 ds i+d*4294967296^i:=by
 rw[b3,aAf (bR _),Gd h]
section
variable[cn]
structure Out(pm:Perm)(H H':ah)(c:Nat)(ds:List Nat)(n:Nat):Prop where
 bT:b6 pm H H'
 get:H'.get c=some (.cells (c4 ds) (.n 1))
 len:ds.length=n
 ej:e' ds
 low:H.next<=c
theorem Out.C4(_aGy:cU pm H)(h:b6 pm H H')(n:Nat):Out pm H (H'.new (.cells (times [.int .u32 0] n) (.n 1))) H'.next (List.replicate n 0) n:=
 ⟨h.new _,by rw[C3];simp,by simp,aav n,h.next⟩
theorem Out.put{c:Nat}{ds:List Nat}{n:Nat}(h:Out pm H H' c ds n)(i:Nat){d:Nat}(aB:d<4294967296):Out pm H (H'.put c (.cells (c4 (ds.set i d)) (.n 1))) c (ds.set i d) n:=
 ⟨h.bT.put h.low h.get _,by simp,by simp[h.len],h.ej.set i aB,h.low⟩
theorem avN(al:fa X)(au:cU pm H){v w:Value}{a b:List Nat}(aN:gm H v a)(ai:gm H w b)(ir:a.length<1073741824)(iM:b.length<1073741824):
 Call X pm F.rn [v,w] H λr H'=>b6 pm H H'/\∃ds,gm H' r (strip ds)/\e' ds/\bb ds=bb a+bb b:=by
 have hx:=aN.ej;have fM:=ai.ej;refine Call.has al.rn rfl ?_;simp;refine aR.bZb (kW al.eK aN) ?_;rintro va _ ⟨rfl,eL⟩;simp;refine aR.bZb (kW al.eK ai) ?_;rintro vb H ⟨rfl,h'⟩;obtain⟨ab,ac,rfl⟩:=eL.form;obtain⟨oY,dZ,rfl⟩:=h'.form;obtain⟨n,aF⟩:=bZa (max a.length b.length+1);have hw:wr .i64 ((if a.length<b.length then(b.length:Int) else a.length)+1)=(n:Int):=by
  rw[zWc (by split<;>omega) (by split<;>omega)];split<;>omega
 simp[hw];rw[rD au (by omega) (by omega)];simp
 refine hv.of (λs:Nat×List Nat×Nat=>[(8,.int .u64 (s.2.2:Int)),(7,.slice (some ⟨H.next,0,none⟩) n n),(5,.slice ab a.length ac),(6,.slice oY b.length dZ),(23,.int .i64 (s.1:Int)),(22,.int .i64 (n:Int))])
  (λs H'=>Out pm H H' H.next s.2.1 n/\s.2.2<=1/\s.1<=n/\b3 s.2.1 s.1+s.2.2*4294967296^s.1=b3 a s.1+b3 b s.1) (λs=>n-s.1) (0,List.replicate n 0,0) (by simp) ⟨Out.C4 au (b6.refl au) n,by simp,by simp,rfl⟩ ?_
 rintro⟨i,outs,c⟩ H' ⟨cf,af,ad,gk⟩;simp only at cf af ad gk;by_cases gB:i<n
 ·simp[gB];refine aR.bZb (yr al.jm (eL.bT au cf.bT) i) ?_;rintro _ _ ⟨rfl,rfl⟩;simp;refine aR.bZb (yr al.jm (h'.bT au cf.bT) i) ?_;rintro _ H' ⟨rfl,rfl⟩;have ck:=hx.dg i;have cJ:=fM.dg i;obtain⟨s,aG⟩:=bZa (c+(dg a i+dg b i));obtain⟨d,aB⟩:=bZa (s%4294967296);have eo:wr .u64 ((c:Int)+wr .u64 ((dg a i:Int)+(dg b i:Int)))=(s:Int):=by
   rw[hd (n:=(dg a i:Int)+dg b i) (by omega) (by omega),hd (by omega) (by omega)];omega
  have lU:wr .u32 (s:Int)=(d:Int):=by rw[n4];omega
  simp[eo,lU,gB,cf.get,cf.len,au.may (bR _),uO];refine .of (i+1,outs.set i d,s/4294967296) (by simp;omega) (by simp;rw[zWc (by omega) (by omega)]) ⟨cf.put i (by omega),by simp;omega,by simp;omega,?_⟩
  ·simp only;rw[s3 (by rw[cf.len];exact gB),b3,b3,bZh];have:s=d+4294967296*(s/4294967296):=by omega
   have cg:d*4294967296^i+s/4294967296*(4294967296^i*4294967296)=s*4294967296^i:=by
    generalize s/4294967296=q at*
    subst this;generalize 4294967296^i=p;grind
   have dj:s*4294967296^i=c*4294967296^i+dg a i*4294967296^i+dg b i*4294967296^i:=by subst aG;grind
   omega
 ·obtain rfl:i=n:=by omega
  simp;have U:b3 a i=bb a:=kX (by omega);have aa:b3 b i=bb b:=kX (by omega);have aq:b3 outs i=bb outs:=kX (by rw[cf.len];exact bR _);have a8:=pF hx (max a.length b.length);have cg:=pF fM (max a.length b.length);rw[kX (by omega)]at a8 cg;have kj:c=0:=by
   rcases bXD c with h | h
   ·exact h
   ·obtain rfl:c=1:=by omega
    rw[aF,bZh]at gk;rw[<-aF]at gk;omega
  subst kj;refine aR.bZb (qT al.fB cf.bT.ok (yu cf.get cf.ej cf.len (au.new _ cf.low)) (by rw[cf.len];omega)) ?_;rintro r aJ ⟨aI,an⟩;simp;exact⟨cf.bT.trans aI,outs,an,cf.ej,by omega⟩
theorem Xa(al:fa X)(au:cU pm H){v w:Value}{a b:List Nat}(aN:gm H v a)(ai:gm H w b)(ir:a.length<1073741824)(iM:b.length<1073741824)(hZ:strip b=b):
 Call X pm F.rp [v,w] H λr H'=>b6 pm H H'/\(bb a<bb b/\r=.tuple #[.pointer none,.bool false]∨bb b<=bb a/\∃p ds,r=.tuple #[p,.bool true]/\gm H' p (strip ds)/\e' ds/\bb ds=bb a-bb b):=by
 have hx:=aN.ej;have fM:=ai.ej;refine Call.has al.rp rfl ?_;simp;refine aR.bZb (IP al aN ai (by omega) (by omega)) ?_;rintro _ H ⟨rfl,rfl⟩;simp;by_cases bO:bb a<bb b
 ·simp[iu,bO];exact b6.refl au
 have BH:(iu (bb a) (bb b)<0)=False:=by
  unfold iu;rw[aU bO];split<;>simp
 simp[BH];intro _;refine aR.bZb (kW al.eK aN) ?_;rintro va _ ⟨rfl,eL⟩;simp;refine aR.bZb (kW al.eK ai) ?_;rintro vb H ⟨rfl,h'⟩;obtain⟨ab,ac,rfl⟩:=eL.form;obtain⟨oY,dZ,rfl⟩:=h'.form;obtain⟨n,aF⟩:=bZa (a.length);simp;rw[<-aF]at eL|-;rw[rD au (by omega) (by omega)];simp
 refine hv.of (λs:Nat×List Nat×Int=>[(9,.int .i64 s.2.2),(8,.slice (some ⟨H.next,0,none⟩) n n),(6,.slice ab n ac),(7,.slice oY b.length dZ),(24,.int .i64 (s.1:Int)),(23,.int .i64 (n:Int))])
  (λs H'=>Out pm H H' H.next s.2.1 n/\-1<=s.2.2/\s.2.2<=0/\s.1<=n/\(b3 s.2.1 s.1:Int)+s.2.2*((4294967296^s.1:Nat):Int)=b3 a s.1-b3 b s.1) (λs=>n-s.1) (0,List.replicate n 0,0) (by simp[aF]) ⟨Out.C4 au (b6.refl au) n,by simp,by simp,by simp,rfl⟩ ?_
 rintro⟨i,outs,c⟩ H' ⟨cf,af,kC,ad,gk⟩;simp only at cf af kC ad gk;by_cases gB:i<n
 ·simp[gB];refine aR.bZb (yr al.jm (eL.bT au cf.bT) i) ?_;rintro _ _ ⟨rfl,rfl⟩;have ck:=hx.dg i;have cJ:=fM.dg i;have aAg:wr .i64 ((dg a i:Nat):Int)=((dg a i:Nat):Int):=zWc (by omega) (by omega);have aaw:wr .i64 ((dg b i:Nat):Int)=((dg b i:Nat):Int):=zWc (by omega) (by omega);simp[aAg];refine aR.bZb (yr al.jm (h'.bT au cf.bT) i) ?_;rintro _ H' ⟨rfl,rfl⟩;obtain⟨s,aG⟩:∃s:Int,s=c+((dg a i:Int)-dg b i):=⟨_,rfl⟩;obtain⟨d,aB⟩:∃d:Nat,(d:Int)=s%4294967296:=⟨(s%4294967296).toNat,by omega⟩;obtain⟨q,aV⟩:∃q:Int,q=s/4294967296:=⟨_,rfl⟩;have eo:wr .i64 (c+wr .i64 ((dg a i:Int)-(dg b i:Int)))=s:=by
   rw[zWc (n:=(dg a i:Int)-dg b i) (by omega) (by omega),zWc (by omega) (by omega)];omega
  have lU:wr .u32 s=(d:Int):=by rw[n4];omega
  have uP:s.fdiv 4294967296=q:=by rw[bWL _ (by omega)];exact aV.symm
  simp[aaw,eo,lU,uP,gB,cf.get,cf.len,au.may (bR _),uO];refine .of (i+1,outs.set i d,q) (by simp;omega) (by simp;rw[zWc (by omega) (by omega)]) ⟨cf.put i (by omega),by simp;omega,by simp;omega,by simp;omega,?_⟩;show((b3 (outs.set i d) (i+1):Nat):Int)+q*((4294967296^(i+1):Nat):Int)=(b3 a (i+1):Int)-(b3 b (i+1):Int);rw[s3 (by rw[cf.len];exact gB),b3,b3,bZh];have:s=d+4294967296*q:=by omega
  generalize 4294967296^i=p at*
  simp only[Int.natCast_add,bXL];have dj:s*p=c*p+dg a i*p-dg b i*p:=by rw[aG];grind
  have j4:s*p=d*p+q*(p*4294967296):=by rw[this];grind
  simp only[Int.cast_ofNat_Int];omega
 ·obtain rfl:i=n:=by omega
  simp;have eP:b.length<=a.length:=yt hZ (eD (by omega) (s0 hx));have U:b3 a i=bb a:=kX (by omega);have aa:b3 b i=bb b:=kX (by omega);have aq:b3 outs i=bb outs:=kX (by rw[cf.len];exact bR _);have a8:=pF cf.ej i;have kj:c=0:=by
   rcases(by omega:c<0∨c≥0) with h | h
   ·obtain rfl:c=-1:=by omega
    omega
   ·omega
  subst kj;refine aR.bZb (qT al.fB cf.bT.ok (yu cf.get cf.ej cf.len (au.new _ cf.low)) (by rw[cf.len];omega)) ?_;rintro r aJ ⟨aI,an⟩;simp;exact⟨cf.bT.trans aI,by omega,outs,an,cf.ej,by omega⟩
theorem er.at{base:Option Addr}{n cap i:Nat}{ds:List Nat}(h:er H (.slice base n cap) ds)(aF:n=ds.length)(ad:i<n):
 ∃c off y row,base=some ⟨c,off,none⟩/\H.get c=some y/\rowOf y=some row/\row[off+i]? = some (.int .u32 ((dg ds i:Nat):Int)):=by
 subst aF;obtain⟨_,⟨U,rfl⟩ | ⟨c,off,dN,y,row,aD,U,aa,aq,_⟩⟩:=h
 ·cases U;simp at ad
 ·cases aD;refine⟨c,off,y,row,rfl,U,aa.row,?_⟩;rw[er.cell aq ad];simp[dg,ad]
theorem er.len{base:Option Addr}{n cap:Nat}{ds:List Nat}(h:er H (.slice base n cap) ds):n=ds.length:=by
 obtain⟨_,⟨U,rfl⟩ | ⟨c,off,dN,y,row,aD,_⟩⟩:=h
 ·cases U;rfl
 ·cases aD;rfl
theorem avO(al:fa X)(au:cU pm H){v w:Value}{a b:List Nat}(aN:gm H v a)(ai:gm H w b)(ir:a.length<536870912)(iM:b.length<536870912):
 Call X pm F.na [v,w] H λr H'=>b6 pm H H'/\∃ds,gm H' r (strip ds)/\e' ds/\bb ds=bb a*bb b:=by
 have hx:=aN.ej;have fM:=ai.ej;refine Call.has al.na rfl ?_;simp;refine aR.bZb (kW al.eK aN) ?_;rintro va _ ⟨rfl,eL⟩;simp;refine aR.bZb (kW al.eK ai) ?_;rintro vb H ⟨rfl,h'⟩;obtain⟨ab,ac,rfl⟩:=eL.form;obtain⟨oY,dZ,rfl⟩:=h'.form;obtain⟨n,aF⟩:=bZa (a.length);obtain⟨m,hm⟩:=bZa (b.length);rw[<-aF]at eL|-;rw[<-hm]at h'|-;obtain⟨N,gd⟩:=bZa (n+m);have hw:wr .i64 ((n:Int)+m)=(N:Int):=by rw[zWc (by omega) (by omega)];omega
 simp[hw];rw[rD au (by omega) (by omega)];simp
 refine hv.of (λs:Nat×List Nat=>[(7,.slice (some ⟨H.next,0,none⟩) N N),(6,.slice oY m dZ),(23,.slice ab n ac),(25,.int .i64 (s.1:Int)),(24,.int .i64 (n:Int))])
  (λs H'=>Out pm H H' H.next s.2 N/\s.1<=n/\b3 s.2 (s.1+m)=b3 a s.1*bb b) (λs=>n-s.1) (0,List.replicate N 0) (by simp) ⟨Out.C4 au (b6.refl au) _,by simp,?_⟩ ?_
 ·simp[b3];have:∀k,b3 (List.replicate N 0) k=0:=by
   intro k
   induction k with
   | zero=>rfl
   | succ k ih=>rw[b3,ih];simp[dg,bXw];split<;>simp
  exact this m
 rintro⟨i,yv⟩ H' ⟨cf,ad,gk⟩;simp only at cf ad gk;by_cases gB:i<n
 ·obtain⟨aAh,aAi,aGz,aGA,rfl,g1,g2,g3⟩:=(eL.bT au cf.bT).at aF gB;have yi:=hx.dg i;simp[gB,g1,g2,g3]
  refine hv.of (λs:Nat×List Nat×Nat=>[(10,.int .u64 (s.2.2:Int)),(9,.int .u32 (dg a i:Int)),(8,.int .i64 (i:Int)),(7,.slice (some ⟨H.next,0,none⟩) N N),(6,.slice oY m dZ),(30,.slice oY m dZ),(32,.int .i64 (s.1:Int)),(31,.int .i64 (m:Int)),(23,.slice (some ⟨aAh,aAi,none⟩) n ac),(25,.int .i64 (i:Int)),(24,.int .i64 (n:Int))])
   (λs H'=>Out pm H H' H.next s.2.1 N/\s.1<=m/\s.2.2<4294967296/\b3 s.2.1 (i+s.1)+s.2.2*4294967296^(i+s.1)=b3 yv (i+s.1)+dg a i*(4294967296^i*b3 b s.1)/\∀j,i+s.1<=j->dg s.2.1 j=dg yv j) (λs=>m-s.1) (0,yv,0) (by simp) ⟨cf,by simp,by simp,by simp[b3],by simp⟩ ?_
  rintro⟨k,outs,c⟩ H' ⟨cf,ag,af,tP,uQ⟩;simp only at cf ag af tP uQ;by_cases aax:k<m
  ·obtain⟨cb,n5,kO,yw,rfl,f1,f2,f3⟩:=(h'.bT au cf.bT).at hm aax;have Kq:=fM.dg k;have lo:=cf.ej.dg (i+k);have EE:dg a i*dg b k<=4294967295*4294967295:=ie (by omega) (by omega);obtain⟨Al,Ra⟩:=bZa (dg a i*dg b k);rw[<-Ra]at EE;obtain⟨s,aG⟩:=bZa (c+(Al+dg outs (i+k)));obtain⟨d,aB⟩:=bZa (s%4294967296);have cS:wr .u64 ((dg a i:Nat):Int)=((dg a i:Nat):Int):=hd (by omega) (by omega);have bL:wr .u64 ((dg b k:Nat):Int)=((dg b k:Nat):Int):=hd (by omega) (by omega);have kF:wr .u64 ((dg outs (i+k):Nat):Int)=((dg outs (i+k):Nat):Int):=hd (by omega) (by omega);have Am:wr .u64 ((dg a i:Int)*(dg b k:Int))=(Al:Int):=by
    have e:(dg a i:Int)*(dg b k:Int)=(Al:Int):=by rw[Ra];simp
    rw[e];exact hd (by omega) (by omega)
   have aAj:wr .u64 ((c:Int)+wr .u64 ((Al:Int)+(dg outs (i+k):Int)))=(s:Int):=by
    rw[hd (n:=(Al:Int)+(dg outs (i+k):Int)) (by omega) (by omega),hd (by omega) (by omega)];omega
   have Rb:wr .u32 (s:Int)=(d:Int):=by rw[n4];omega
   have zW:wr .i64 ((i:Int)+(k:Int))=((i+k:Nat):Int):=by rw[zWc (by omega) (by omega)];omega
   have qd:=aau (ds:=outs) (i:=i+k) (by rw[cf.len];omega);have lN:=setCells_one (cs:=c4 outs) (i:=i+k) (v:=.int .u32 (d:Int)) (by rw[uN,cf.len];omega);simp[aax,f1,f2,f3,cS,bL,Am,aAj,Rb,zW,cf.get,qd,kF,show i+k<N by omega,lN,au.may (bR _),uO];refine .of (k+1,outs.set (i+k) d,s/4294967296) (by simp;omega) (by simp;rw[zWc (by omega) (by omega)]) ⟨cf.put (i+k) (by omega),by simp;omega,by simp;omega,?_,λj aH=>?_⟩
   ·show b3 (outs.set (i+k) d) (i+k+1)+s/4294967296*4294967296^(i+k+1)=b3 yv (i+k+1)+dg a i*(4294967296^i*b3 b (k+1));rw[s3 (by rw[cf.len];omega),b3,b3,<-uQ (i+k) (bR _),bZh];have ao:4294967296^i*(dg b k*4294967296^k)=dg b k*4294967296^(i+k):=by rw[hT];generalize 4294967296^i=p;generalize 4294967296^k=q;grind
    have e2:s=d+4294967296*(s/4294967296):=by omega
    have bd:d*4294967296^(i+k)+s/4294967296*(4294967296^(i+k)*4294967296)=s*4294967296^(i+k):=by
     generalize s/4294967296=q at*
     subst e2;generalize 4294967296^(i+k)=p;grind
    have b1:s*4294967296^(i+k)=c*4294967296^(i+k)+dg a i*(dg b k*4294967296^(i+k))+dg outs (i+k)*4294967296^(i+k):=by
     subst aG Ra;generalize 4294967296^(i+k)=p;grind
    rw[bYZ (4294967296^i),ao,bYZ];omega
   ·show dg (outs.set (i+k) d) j=dg yv j;have aH:i+(k+1)<=j:=aH;rw[<-uQ j (by omega)];simp[dg,show ¬i+k=j by omega]
  ·obtain rfl:k=m:=by omega
   have Rb:wr .u32 (c:Int)=(c:Int):=by rw[n4];omega
   have zW:wr .i64 ((i:Int)+(k:Int))=((i+k:Nat):Int):=by rw[zWc (by omega) (by omega)];omega
   simp[Rb,zW,show i+k<N by omega,cf.get,cf.len,au.may (bR _),uO];refine .of (i+1,outs.set (i+k) c) (by simp;omega) (by simp;rw[zWc (by omega) (by omega)]) ⟨cf.put (i+k) (by omega),by simp;omega,?_⟩;show b3 (outs.set (i+k) c) (i+1+k)=b3 a (i+1)*bb b;rw[show i+1+k=i+k+1 by omega,s3 (by rw[cf.len];omega),tP,gk,b3,kX (ds:=b) (by omega)];generalize 4294967296^i=p;grind
 ·obtain rfl:i=n:=by omega
  simp;have U:b3 a i=bb a:=kX (by omega);have aq:b3 yv (i+m)=bb yv:=kX (by rw[cf.len];omega);refine aR.bZb (qT al.fB cf.bT.ok (yu cf.get cf.ej cf.len (au.new _ cf.low)) (by rw[cf.len];omega)) ?_;rintro r aJ ⟨aI,an⟩;simp;exact⟨cf.bT.trans aI,yv,an,cf.ej,by rw[<-aq,gk,U]⟩
theorem IQ(al:fa X)(au:cU pm H){x:Nat}(az:x<18446744073709551616):
 Call X pm F.ja [.int .u64 (x:Int)] H λr H'=>b6 pm H H'/\gm H' r (strip [x%4294967296,x/4294967296]):=by
 refine Call.has al.ja rfl ?_;have cS:wr .u32 (x:Int)=((x%4294967296:Nat):Int):=by rw[n4];omega
 have bL:wr .u32 ((x/4294967296:Nat):Int)=((x/4294967296:Nat):Int):=by rw[n4];omega
 obtain⟨a,aN⟩:=bZa (x%4294967296);obtain⟨b,ai⟩:=bZa (x/4294967296);rw[<-aN]at cS|-;rw[<-ai]at bL|-;have kF:((x:Int)).fdiv 4294967296=(b:Int):=by rw[ai];exact Kr x
 simp[cS,bL,kF,au.make,au.pick];have aO:e' [a,b]:=by intro d aB;simp at aB;omega
 refine aR.bZb (qT al.fB ((b6.refl au).new (.cells (c4 [a,b]) (.n 1))).ok (yu (ds:=[a,b]) dT aO rfl (au.new _ (bR _))) (by simp)) ?_;rintro r aJ ⟨aI,an⟩;simp;exact⟨((b6.refl au).new _).trans aI,an⟩
end
theorem IS(x:Nat):bb (strip [x%4294967296,x/4294967296])=x:=by
 rw[qn];simp[bb];omega
section
variable[cn]
theorem Ge(al:fa X){v:Value}{a:List Nat}(aN:gm H v a)(ir:a.length<=1073741824):
 Call X pm F.rU [v] H λr H'=>H'=H/\r=if a.length<=2 then .tuple #[.int .u64 ((bb a:Nat):Int),.bool true] else .tuple #[.int .u64 0,.bool false]:=by
 have hx:=aN.ej;refine Call.has al.rU rfl ?_;simp;refine aR.bZb (kW al.eK aN) ?_;rintro va H ⟨rfl,eL⟩;obtain⟨ab,ac,rfl⟩:=eL.form;obtain⟨n,aF⟩:=bZa (a.length);rw[<-aF]at eL|-;by_cases aa:n<=2
 ·simp[show ¬2<n by omega,aa];refine hv.of (λi:Nat=>[(4,.int .u64 ((b3 a i:Nat):Int)),(13,.slice ab n ac),(14,.int .i64 (n:Int)),(15,.int .i64 (i:Int))]) (λi H'=>H'=H/\i<=n) (λi=>n-i) 0 (by simp[b3]) ⟨rfl,by omega⟩ ?_;rintro i H ⟨rfl,ad⟩;by_cases gB:i<n
  ·obtain⟨c,off,y,row,rfl,g1,g2,g3⟩:=eL.at aF gB;have ck:=hx.dg i;have cJ:=pF hx i;have cS:wr .u64 ((dg a i:Nat):Int)=((dg a i:Nat):Int):=hd (by omega) (by omega);rcases(by omega:i=0∨i=1) with rfl | rfl
   ·have bL:wr .i64 0=0:=rfl;have aq:(0:Nat) ||| dg a 0=dg a 0:=by simp
    have a8:=C5 (a:=0) (b:=dg a 0) (by omega) (by omega);rw[aq]at a8;have a8:iI .or .u64 0 ((dg a 0:Nat):Int)=some (.int .u64 ((dg a 0:Nat):Int)):=a8;have g3:row[off]? = some (.int .u32 ((dg a 0:Nat):Int)):=g3;simp[gB,g1,g2,g3,cS,bL,b3,a8];refine .of 1 (by show n-1<n-0;omega) ?_ ⟨rfl,by omega⟩;simp[b3];rfl
   ·have bL:wr .i64 32=32:=rfl;obtain⟨t,aS⟩:=bZa (dg a 1*4294967296);have kF:wr .u64 (((dg a 1:Nat):Int)*4294967296)=(t:Int):=by rw[hd (by omega) (by omega)];omega
    have a8:=C5 (a:=b3 a 1) (b:=t) (by simp at cJ;omega) (by omega);have cg:b3 a 1 ||| t=b3 a 2:=by
     rw[Nat.or_comm,aS];have:=C6 (a:=dg a 1) (i:=32) (b:=b3 a 1) (by simpa using cJ);simp only[Nat.reducePow]at this;rw[this,b3.eq_2 a 1];simp;omega
    rw[cg]at a8;simp[gB,g1,g2,g3,cS,bL,kF,a8];refine .of 2 (by show n-2<n-1;omega) ?_ ⟨rfl,by omega⟩;simp;rfl
  ·obtain rfl:i=n:=by omega
   simp[kX (ds:=a) (i:=i) (by omega)]
 ·simp[show 2<n by omega,aa]
def aA(x:Nat):Nat:=if x=0 then 0 else x.log2+1
end
theorem Rc(x:Nat):x<2^aA x:=by
 unfold aA;split
 ·subst x;simp
 ·exact Nat.lt_log2_self
theorem Ks{x:Nat}(h:x≠0):2^(aA x-1)<=x:=by
 unfold aA;rw[aU h];exact Nat.log2_self_le h
theorem Rd{x n:Nat}(U:2^n<=x)(aa:x<2^(n+1)):aA x=n+1:=by
 have aD:x≠0:=by have:=lC n;omega
 have a:=Rc x;have b:=Ks aD;have c:=(bYt (by omega:1<2)).1 (eD U a);have d:=(bYt (by omega:1<2)).1 (eD b aa);omega
section
variable[cn]
def C7(k:Nat):Nat:=2^k/2
def s4(x n:Nat):Nat:=x/2^n
end
theorem Re(al:fa X){x:Nat}(az:x<18446744073709551616):Call X pm F.sZ [.int .u64 (x:Int)] H λr H'=>H'=H/\r=.int .i64 ((aA x:Nat):Int):=by
 refine Call.has al.sZ rfl ?_;simp
 refine hv.of (λs:Nat×Nat=>[(0,.int .u64 ((s4 x s.2:Nat):Int)),(3,.int .i64 (s.2:Int)),(4,.int .i64 ((C7 s.1:Nat):Int))])
  (λs H'=>H'=H/\s.1<=6/\s.2+2^s.1<=64/\s4 x s.2<2^(2^s.1)/\(s.2=0∨s4 x s.2≠0)) (λs=>s.1) (6,0) (by simp[C7,s4]) ⟨rfl,by simp,by simp,by simpa [s4]using az,.inl rfl⟩ ?_
 rintro⟨k,n⟩ H ⟨rfl,ag,aF,bO,bl⟩;simp only at ag aF bO bl
 cases k with
 | zero=>
   have aD:C7 0=0:=rfl;rw[aD];obtain⟨q,aV⟩:=bZa (s4 x n);rw[<-aV]at bO bl|-;have cS:wr .i64 (q:Int)=(q:Int):=zWc (by omega) (by simp at bO;omega);unfold s4 at aV;have bL:wr .i64 ((n:Int)+(q:Int))=((n+q:Nat):Int):=by rw[zWc (by omega) (by simp at bO;omega)];simp
   simp[cS,bL];have vM:q=0∨q=1:=by simp at bO;omega
   rcases vM with rfl | rfl
   ·have:n=0:=by rcases bl with h | h;exact h;exact absurd rfl h
    subst this;simp at aV;subst aV;simp[aA]
   ·have U:2^n<=x:=by
     have:=Nat.div_mul_le_self x (2^n);rw[<-aV]at this;omega
    have aa:x<2^(n+1):=by
     have:=Nat.lt_mul_div_succ x (lC n);rw[<-aV]at this;rw[bZh];omega
    rw[Rd U aa];simp
 | succ k=>
   have ai:C7 (k+1)=2^k:=by simp[C7,bZh]
   have aC:0<2^k:=lC k;have Rf:2^k<=32:=iH (n:=2) (i:=k) (j:=5) (by omega) (by omega);rw[ai];have nR:(0:Int)<((2^k:Nat):Int):=by omega
   obtain⟨by',hK⟩:=bZa (2^k);have rj:n+by'*2<=64:=by rw[hK];simpa [bZh]using aF
   rw[<-hK]at aC Rf|-;have fM:C7 k=by'/2:=by rw[hK];rfl
   obtain⟨q,aV⟩:=bZa (s4 x n);rw[<-aV]at bO bl|-;have C8:min by' 64=by':=by omega
   have bc:((q:Int)).fdiv (2^by')=((q/2^by':Nat):Int):=by
    have:=Rg q (2^by');simpa using this
   obtain⟨p,lk⟩:=bZa (q/2^by');rw[<-lk]at bc;have bL:wr .i64 ((n:Int)+(by':Int))=((n+by':Nat):Int):=by rw[zWc (by omega) (by omega)];simp
   have Gf:wr .i64 ((by':Int)/2)=((by'/2:Nat):Int):=by rw[zWc (by omega) (by omega)];omega
   by_cases jR:p=0
   ·simp[aC,C8,bc,jR,Gf];refine .of (k,n) (by simp) (by simp[<-aV,fM]) ⟨rfl,by simp;omega,?_,?_,by simpa [<-aV]using bl⟩
    ·simp;rw[<-hK];omega
    ·simp only;rw[<-aV,<-hK];rw[jR]at lk;exact(Nat.div_eq_zero_iff_lt (lC _)).1 lk.symm
   ·simp[aC,C8,bc,jR,bL,Gf];have Rh:p=s4 x (n+by'):=by rw[lk,aV,s4,s4,bXy,hT]
    refine .of (k,n+by') (by simp) (by simp[<-Rh,fM]) ⟨rfl,by simp;omega,?_,?_,.inr (by simp only;rw[<-Rh];exact jR)⟩
    ·simp;rw[<-hK];omega
    ·simp only;rw[<-Rh,lk,<-hK];rw[Nat.div_lt_iff_lt_mul (lC _),<-hT];rw[show by'+by'=2^(k+1) by rw[bZh,<-hK];omega];exact bO
theorem aAk{x:Nat}(h:x≠0):∃z q,x=2^z*(2*q+1):=by
 induction x using Nat.strongRecOn with
 | ind x ih=>
   by_cases aa:x%2=1
   ·exact⟨0,x/2,by simp;omega⟩
   ·obtain⟨z,q,e⟩:=ih (x/2) (by omega) (by omega);exact⟨z+1,q,by rw[bZh];generalize 2^z=p at *;have:x=2*(x/2):=(by omega);rw[this,e];grind⟩
theorem aAl{x z q:Nat}(az:x=2^z*(2*q+1))(bl:z<64)(bO:x<18446744073709551616):x &&& (18446744073709551616-x)=2^z:=by
 have aay:18446744073709551616=2^z*(2*2^(63-z)):=by
  rw[show 2*2^(63-z)=2^(64-z) by rw[<-Nat.pow_succ'];congr 1;omega,<-hT,show z+(64-z)=64 by omega]
 have aC:=lC z;have aV:q<2^(63-z):=by
  rw[az,aay]at bO;have:=Nat.lt_of_mul_lt_mul_left bO;omega
 have an:18446744073709551616-x=2^z*(2*(2^(63-z)-(q+1))+1):=by
  rw[az,aay,<-Nat.mul_sub];congr 1;omega
 rw[an,az];rw[gw (2^z),gw (2^z),<-Nat.shiftLeft_eq,<-Nat.shiftLeft_eq,<-Nat.shiftLeft_and_distrib];have hand:(2*q+1) &&& (2*(2^(63-z)-(q+1))+1)=1:=by
  apply Nat.eq_of_testBit_eq;intro i;rw[Nat.testBit_and]
  cases i with
  | zero=>simp[Nat.testBit_zero]
  | succ i=>
    rw[Nat.testBit_succ,Nat.testBit_succ,Nat.testBit_succ];rw[show(2*q+1)/2=q by omega,show(2*(2^(63-z)-(q+1))+1)/2=2^(63-z)-(q+1) by omega];rw[Nat.testBit_two_pow_sub_succ aV];simp;intro h _;simpa using h
 rw[hand,Nat.shiftLeft_eq,Nat.one_mul]
theorem aAm(z:Nat):aA (2^z)=z+1:=Rd (bR _) (by rw[bZh];have:=lC z;omega)
theorem aAn(al:fa X){x z q:Nat}(az:x=2^z*(2*q+1))(bO:x<18446744073709551616):Call X pm F.wI [.int .u64 (x:Int)] H λr H'=>H'=H/\r=.int .i64 (z:Int):=by
 have aC:=lC z;have aD:x≠0:=by
  rw[az];have:0<2^z*(2*q+1):=bYM aC (by omega);omega
 have bl:z<64:=by
  have:2^z<=x:=by rw[az];exact bXg _ (by omega)
  exact(bYt (by omega:1<2)).1 (eD this (by simpa using bO))
 have Gg:=aAl az bl bO;refine Call.has al.wI rfl ?_;have cS:wr .u64 (-(x:Int))=((18446744073709551616-x:Nat):Int):=by
  rw[vE];simp[IntKind.wrap,IntKind.bits,IntKind.signed];omega
 obtain⟨n,aF⟩:=bZa (18446744073709551616-x);rw[<-aF]at cS Gg;have a8:=aAo (a:=x) (b:=n) bO (by omega);rw[Gg]at a8;obtain⟨p,vO⟩:=bZa (2^z);rw[<-vO]at a8;simp[aD,cS,a8];have eP:aA p=z+1:=by rw[vO];exact aAm z
 refine aR.bZb (Re al (x:=p) ?_) ?_
 ·rw[vO];have:=(bYt (by omega:1<2)).2 bl;simpa using this
 rintro _ H ⟨rfl,rfl⟩;rw[eP];have bL:wr .i64 (z:Int)=(z:Int):=zWc (by omega) (by omega);simp[bL]
theorem Kt(a b:List Nat):bb (a++b)=bb a+4294967296^a.length*bb b:=by
 induction a with
 | nil=>simp[bb]
 | cons d a ih=>simp only[bZQ,bb,ih,bZt,bZh];generalize 4294967296^a.length=p;grind
section
variable[cn]
theorem avQ(al:fa X){v:Value}{a:List Nat}(aN:gm H v a)(aG:strip a=a)(ir:a.length<=1073741824):Call X pm F.wE [v] H λr H'=>H'=H/\r=.int .i64 ((aA (bb a):Nat):Int):=by
 have hx:=aN.ej;refine Call.has al.wE rfl ?_;simp;refine aR.bZb (kW al.eK aN) ?_;rintro va H ⟨rfl,eL⟩;obtain⟨ab,ac,rfl⟩:=eL.form;obtain⟨n,aF⟩:=bZa (a.length);rw[<-aF]at eL|-
 cases n with
 | zero=>
   obtain rfl:a=[]:=List.length_eq_zero_iff.1 aF.symm;simp[bb,aA]
 | succ n=>
   obtain⟨c,off,y,row,rfl,g1,g2,g3⟩:=eL.at aF (i:=n) (by omega);have ck:=hx.dg n;have cS:wr .u64 ((dg a n:Nat):Int)=((dg a n:Nat):Int):=hd (by omega) (by omega);have bL:wr .i64 (n:Int)=(n:Int):=zWc (by omega) (by omega);have kF:wr .i64 (32*(n:Int))=((32*n:Nat):Int):=by rw[zWc (by omega) (by omega)];simp
   have dr:¬((n:Int)+1=0):=by omega
   simp[dr,bL,kF,g1,g2,g3,cS];refine aR.bZb (Re al (x:=dg a n) (by omega)) ?_;rintro _ H ⟨rfl,rfl⟩;have gh:dg a n≠0:=by
    intro aD;have U:strip a=strip (a.take n):=Q8 λi ad=>by
     by_cases gB:i=n
     ·subst gB;exact aD
     ·simp[show a.length<=i by omega]
    have aa:=Q' (a.take n);rw[<-U,aG]at aa;simp at aa;omega
   have eP:aA (bb a)=32*n+aA (dg a n):=by
    have aw:bb a=b3 a n+dg a n*4294967296^n:=by rw[<-kX (ds:=a) (i:=n+1) (by omega),b3]
    have aS:=pF hx n;have cg:(4294967296:Nat)^n=2^(32*n):=by rw[bYr]
    rw[cg]at aw aS;have cR:=Rc (dg a n);have b9:=Ks gh;have fK:aA (dg a n)≠0:=by unfold aA;rw[aU gh];omega
    obtain⟨k,ag⟩:∃k,aA (dg a n)=k+1:=⟨aA (dg a n)-1,by omega⟩;rw[ag]at cR b9|-;rw[show 32*n+(k+1)=(32*n+k)+1 by omega];simp only[Nat.add_sub_cancel]at b9;refine Rd ?_ ?_
    ·rw[hT,aw,gw];have:=hQ (2^(32*n)) b9;omega
    ·rw[show 32*n+k+1=(k+1)+32*n by omega,hT,aw];have:=hQ (2^(32*n)) (Nat.succ_le_of_lt cR);rw[bZz]at this;omega
   rw[eP];have C9:aA (dg a n)<=64:=by
    have:=Ks gh;have dj:(2:Nat)^(aA (dg a n)-1)<2^32:=by omega
    have:=(bYt (by omega:1<2)).1 dj;omega
   have Am:wr .i64 (32*(n:Int)+((aA (dg a n):Nat):Int))=((32*n+aA (dg a n):Nat):Int):=by rw[zWc (by omega) (by omega)];simp
   simp[Am]
end
theorem Ri{a:List Nat}{k:Nat}(h:∀i,i<k->dg a i=0):b3 a k=0:=by
 induction k with
 | zero=>rfl
 | succ k ih=>rw[b3,ih λi ad=>h i (by omega),h k (by omega)];simp
theorem C'(a:List Nat)(k:Nat):bb a=b3 a k+4294967296^k*aw a k:=by
 induction k with
 | zero=>simp[b3,ys]
 | succ k ih=>
   rw[ih,b3,qU a k,bZh];generalize 4294967296^k=p;grind
section
variable[cn]
theorem Gh(al:fa X){v:Value}{a:List Nat}(aN:gm H v a)(ir:a.length<=1073741824):
 Call X pm F.qR [v] H λr H'=>H'=H/\∃z:Nat,r=.int .i64 (z:Int)/\z<=34359738368/\(bb a=0/\z=0∨∃q,bb a=2^z*(2*q+1)):=by
 have hx:=aN.ej;refine Call.has al.qR rfl ?_;simp;refine aR.bZb (kW al.eK aN) ?_;rintro va H ⟨rfl,eL⟩;obtain⟨ab,ac,rfl⟩:=eL.form;obtain⟨n,aF⟩:=bZa (a.length);rw[<-aF]at eL|-;simp;refine hv.of (λi:Nat=>[(6,.slice ab n ac),(7,.int .i64 (n:Int)),(8,.int .i64 (i:Int))]) (λi H'=>H'=H/\i<=n/\∀j,j<i->dg a j=0) (λi=>n-i) 0 (by simp) ⟨rfl,by omega,λj aH=>by omega⟩ ?_;rintro i H ⟨rfl,ad,bl⟩;by_cases gB:i<n
 ·obtain⟨c,off,y,row,rfl,g1,g2,g3⟩:=eL.at aF gB;have ck:=hx.dg i;have cS:wr .u64 ((dg a i:Nat):Int)=((dg a i:Nat):Int):=hd (by omega) (by omega);have bL:wr .i64 ((i:Int)+1)=((i+1:Nat):Int):=by rw[zWc (by omega) (by omega)];simp
  have kF:wr .i64 (32*(i:Int))=((32*i:Nat):Int):=by rw[zWc (by omega) (by omega)];simp
  by_cases aB:dg a i=0
  ·simp[gB,g1,g2,g3,aB,bL];exact .of (i+1) (by show n-(i+1)<n-i;omega) (by simp) ⟨rfl,by omega,λj aH=>by rcases(by omega:j<i∨j=i) with h | rfl;exact bl j h;exact aB⟩
  ·obtain⟨z,q,Rj⟩:=aAk aB;simp[gB,g1,g2,g3,aB,cS,kF];refine aR.bZb (aAn al Rj (by omega)) ?_;rintro _ H ⟨rfl,rfl⟩;have aGB:z<32:=by
    have:2^z<=dg a i:=by rw[Rj];exact bXg _ (by omega)
    exact(bYt (by omega:1<2)).1 (eD this (by simpa using ck))
   have Am:wr .i64 (32*(i:Int)+(z:Int))=((32*i+z:Nat):Int):=by rw[zWc (by omega) (by omega)];simp
   simp[Am];refine⟨32*i+z,by simp,by omega,.inr ⟨q+2^(31-z)*aw a (i+1),?_⟩⟩;rw[C' a i,Ri bl,qU a i,Rj,hT,show(4294967296:Nat)^i=2^(32*i) by rw[bYr]];have:(4294967296:Nat)=2^z*(2*2^(31-z)):=by
    rw[show 2*2^(31-z)=2^(32-z) by rw[<-Nat.pow_succ'];congr 1;omega,<-hT,show z+(32-z)=32 by omega]
   rw[this];generalize 2^(32*i)=p;generalize 2^z=r;generalize 2^(31-z)=s;generalize aw a (i+1)=t;grind
 ·obtain rfl:i=n:=by omega
  simp;exact⟨0,by simp,by omega,.inl ⟨by rw[<-kX (ds:=a) (i:=i) (by omega),Ri bl],rfl⟩⟩
theorem Ku(al:fa X)(au:cU pm H){v:Value}{a:List Nat}(aN:gm H v a)(ir:a.length<536870912){k:Nat}(ag:k<8589934592):
 Call X pm F.rV [v,.int .i64 (k:Int)] H λr H'=>b6 pm H H'/\∃ds,gm H' r (strip ds)/\e' ds/\bb ds=bb a*2^k/\ds.length=a.length+k/32+1:=by
 have hx:=aN.ej;refine Call.has al.rV rfl ?_;simp;refine aR.bZb (kW al.eK aN) ?_;rintro va H ⟨rfl,eL⟩;obtain⟨ab,ac,rfl⟩:=eL.form;obtain⟨n,aF⟩:=bZa (a.length);rw[<-aF]at eL|-;obtain⟨q,aV⟩:=bZa (k/32);obtain⟨s,aG⟩:=bZa (k%32);obtain⟨N,gd⟩:=bZa (n+q+1);have d1:((k:Int)).tdiv 32=(q:Int):=by rw[aV];rfl
 have d2:((k:Int)).tmod 32=(s:Int):=by rw[aG];rfl
 have w0:wr .i64 (q:Int)=(q:Int):=zWc (by omega) (by omega);have cS:wr .i64 (wr .i64 ((n:Int)+(q:Int))+1)=(N:Int):=by rw[zWc (n:=(n:Int)+q) (by omega) (by omega),zWc (by omega) (by omega)];omega
 have Kv:(2:Nat)^k=4294967296^q*2^s:=by rw[show(4294967296:Nat)=2^32 by rfl,<-bYr,<-hT];congr 1;omega
 have tP:2^s*2^(32-s)=4294967296:=by rw[<-hT,show s+(32-s)=32 by omega]
 have Rk:=lC s;have aGC:2^s<=2147483648:=iH (n:=2) (i:=s) (j:=31) (by omega) (by omega);simp[d1,w0,cS];rw[rD au (by omega) (by omega)];simp
 refine hv.of (λs:Nat×List Nat=>[(6,.slice (some ⟨H.next,0,none⟩) N N),(1,.int .i64 (k:Int)),(19,.slice ab n ac),(20,.int .i64 (n:Int)),(21,.int .i64 (s.1:Int))])
  (λt H'=>Out pm H H' H.next t.2 N/\t.1<=n/\b3 t.2 (t.1+q+1)=b3 a t.1*2^k/\dg t.2 (t.1+q)<2^s) (λs=>n-s.1) (0,List.replicate N 0) (by simp) ⟨Out.C4 au (b6.refl au) _,by simp,?_,?_⟩ ?_
 ·simp only[Nat.zero_add,b3,Nat.zero_mul];rw[Ri (λi ad=>by simp[dg,bXw];split<;>simp)];simp[dg,bXw];split<;>simp
 ·simp[dg,bXw];split<;>simp<;>omega
 rintro⟨i,outs⟩ H' ⟨cf,ad,gk,Gg⟩;simp only at cf ad gk Gg;by_cases gB:i<n
 ·obtain⟨c,off,y,row,rfl,g1,g2,g3⟩:=(eL.bT au cf.bT).at aF gB;have ck:=hx.dg i;have cJ:=cf.ej.dg (i+q);obtain⟨mi,bu⟩:=bZa (dg a i*2^s);have lx:mi<4294967296*2^s:=by rw[bu];exact bXY ck Rk
  obtain⟨lo,ey⟩:=bZa (mi%4294967296);obtain⟨hi',aaz⟩:=bZa (mi/4294967296);have aAp:hi'<2^s:=by rw[aaz];exact bYI lx
  have df:wr .u64 ((dg a i:Nat):Int)=((dg a i:Nat):Int):=hd (by omega) (by omega);have dW:wr .i64 ((i:Int)+1)=((i+1:Nat):Int):=by rw[zWc (by omega) (by omega)];simp
  have gZ:wr .i64 ((i:Int)+(q:Int))=((i+q:Nat):Int):=by rw[zWc (by omega) (by omega)];simp
  have jz:wr .i64 (((i:Int)+(q:Int))+1)=((i+q+1:Nat):Int):=by rw[zWc (by omega) (by omega)];simp
  have C8:min s 64=s:=by omega
  have nn:wr .u64 (((dg a i:Nat):Int)*2^s)=(mi:Int):=by
   have e:((dg a i:Nat):Int)*2^s=(mi:Int):=by rw[bu];simp
   rw[e];exact hd (by omega) (by omega)
  have nq:wr .u32 (mi:Int)=(lo:Int):=by rw[n4];omega
  have pG:((mi:Int)).fdiv 4294967296=(hi':Int):=by rw[aaz];exact Kr mi
  have An:wr .u32 (hi':Int)=(hi':Int):=by rw[n4];omega
  obtain⟨j,aH⟩:=bZa (i+q+1);have Gi:wr .i64 ((i:Int)+(q:Int)+1)=(j:Int):=by rw[jz,aH]
  have qd:=aau (ds:=outs) (i:=i+q) (by rw[cf.len];omega);obtain⟨e,he⟩:=bZa (dg outs (i+q)+lo);have hmul:∃t,lo=t*2^s:=by
   refine⟨dg a i%2^(32-s),?_⟩;rw[ey,bu,<-tP,gw (dg a i),Nat.mul_mod_mul_left,gw]
  have yx:dg outs (i+q) ||| lo=e:=by
   obtain⟨t,aS⟩:=hmul;rw[Nat.or_comm,aS,C6 Gg,he,aS];omega
  have eU:e<4294967296:=by rw[<-yx];exact Nat.or_lt_two_pow (n:=32) cJ (by omega)
  have Gj:=aAq (a:=dg outs (i+q)) (b:=lo) cJ (by omega);rw[yx]at Gj;have lN:=setCells_one (cs:=c4 outs) (i:=i+q) (v:=.int .u32 (e:Int)) (by rw[uN,cf.len];omega);have aaA:=setCells_one (cs:=c4 (outs.set (i+q) e)) (i:=j) (v:=.int .u32 (hi':Int)) (by rw[uN,bXn,cf.len];omega);rw[uO]at lN aaA;simp[gB,g1,g2,g3,df,dW,gZ,d1,d2,w0,C8,nn,nq,cf.get,qd,Gj,lN,au.may (bR _),pG,An,Gi,aaA,show i+q<N by omega,show j<N by omega];subst aH;refine .of (i+1,(outs.set (i+q) e).set (i+q+1) hi') (by show n-(i+1)<n-i;omega) (by simp) ⟨(cf.put (i+q) eU).put (i+q+1) (by omega),by simp;omega,?_,?_⟩
  ·show b3 ((outs.set (i+q) e).set (i+q+1) hi') (i+1+q+1)=b3 a (i+1)*2^k;rw[show i+1+q+1=(i+q+1)+1 by omega,s3 (by rw[bXn,cf.len];omega),s3 (by rw[cf.len];omega),b3];rw[b3]at gk;rw[bYw,<-gk,bZh,Kv,he];have ao:dg a i*4294967296^i*(4294967296^q*2^s)=mi*4294967296^(i+q):=by
    rw[bu,hT];generalize 4294967296^i=bJ;generalize 4294967296^q=bG;generalize 2^s=cO;grind
   rw[ao];have e2:mi=lo+4294967296*hi':=by omega
   rw[e2];generalize 4294967296^(i+q)=p;grind
  ·show dg ((outs.set (i+q) e).set (i+q+1) hi') (i+1+q)<2^s;rw[show i+1+q=i+q+1 by omega,Gd (by rw[bXn,cf.len];omega)];exact aAp
 ·obtain rfl:i=n:=by omega
  simp;have aq:b3 outs (i+q+1)=bb outs:=kX (by rw[cf.len];omega);refine aR.bZb (qT al.fB cf.bT.ok (yu cf.get cf.ej cf.len (au.new _ cf.low)) (by rw[cf.len];omega)) ?_;rintro r aJ ⟨aI,an⟩;simp;exact⟨cf.bT.trans aI,outs,an,cf.ej,by rw[<-aq,gk,kX (ds:=a) (by omega)],by rw[cf.len];omega⟩
theorem er.drop{c off cap:Nat}{n:Nat}{a:List Nat}(h:er H (.slice (some ⟨c,off,none⟩) n cap) a)(q:Nat)(aV:q<=n):er H (.slice (some ⟨c,off+q,none⟩) (n-q) (cap-q)) (a.drop q):=by
 have aF:=h.len;obtain⟨aO,⟨U,rfl⟩ | ⟨ek,aAr,dN,y,row,aD,U,aa,aq,a8,cg⟩⟩:=h
 ·cases U
 ·cases aD;refine⟨λd aB=>aO d (bWe aB),.inr ⟨c,off+q,cap-q,y,row,by simp,U,aa,?_,by simp;omega,by have:=cg.1;simp;omega,cg.2⟩⟩;have:=congrArg (List.drop q) aq;rw[List.drop_take,List.drop_drop]at this;simp only[bWd];rw[this];simp[c4,List.map_drop]
end
theorem Gk(a:List Nat)(k:Nat)(aO:e' a):aw a k=bb a/4294967296^k:=by
 rw[C' a k,L2 _ _ (bYY (by omega)),bYV (pF aO k)];omega
section
variable[cn]
theorem aaB(al:fa X)(au:cU pm H){v:Value}{a:List Nat}(aN:gm H v a)(ir:a.length<1073741824){k:Nat}(ag:k<137438953472):
 Call X pm F.qS [v,.int .i64 (k:Int)] H λr H'=>b6 pm H H'/\∃ds,gm H' r (strip ds)/\e' ds/\bb ds=bb a/2^k/\ds.length<=a.length:=by
 have hx:=aN.ej;refine Call.has al.qS rfl ?_;simp;refine aR.bZb (kW al.eK aN) ?_;rintro va H ⟨rfl,eL⟩;obtain⟨ab,ac,rfl⟩:=eL.form;obtain⟨n,aF⟩:=bZa (a.length);rw[<-aF]at eL|-;obtain⟨q,aV⟩:=bZa (k/32);obtain⟨s,aG⟩:=bZa (k%32);have d1:((k:Int)).tdiv 32=(q:Int):=by rw[aV];rfl
 have d2:((k:Int)).tmod 32=(s:Int):=by rw[aG];rfl
 have w0:wr .i64 (q:Int)=(q:Int):=zWc (by omega) (by omega);have Kv:(2:Nat)^k=4294967296^q*2^s:=by rw[show(4294967296:Nat)=2^32 by rfl,<-bYr,<-hT];congr 1;omega
 have tP:2^s*2^(32-s)=4294967296:=by rw[<-hT,show s+(32-s)=32 by omega]
 have Rk:=lC s;by_cases aGD:n<=q
 ·simp[d1,w0,show ¬q<n by omega];refine aR.bZb (qT al.fB au .nil (by simp)) ?_;rintro r aJ ⟨aI,an⟩;simp;refine⟨aI,[],an,λd aB=>(by cases aB),?_,by simp⟩;rw[Kv,<-bXy,<-Gk a q hx,Ak (by omega)];simp[bb]
 ·obtain⟨kH,aaC,tv,aGE,rfl,f1,_,_⟩:=eL.at aF (i:=q) (by omega);have vH:n<=ac/\∃row,C0 tv row:=by
   obtain⟨_,⟨U,_⟩ | ⟨ek,aAr,dN,y,row,aD,U,aa,aq,a8,cg⟩⟩:=id eL
   ·cases U
   ·cases aD;rw[f1]at U;cases U;exact⟨by omega,row,aa⟩
  obtain⟨vH,Rl,n6⟩:=vH;have qi:=n6.nG (pm:=pm) (H:=H) (l:=q) (h:=n) (m:=ac) (cap:=ac) (off:=aaC) f1 (by omega) vH (bR _);have h':=eL.drop q (by omega);obtain⟨b,ai⟩:=bZa (a.drop q);obtain⟨N,gd⟩:=bZa (n-q);rw[<-ai,<-gd]at h';rw[<-gd]at qi;have fM:e' b:=h'.1;have eP:b.length=N:=by rw[ai,bWd];omega
  simp[d1,w0,show q<n by omega,qi];rw[rD au (by omega) (by omega)];simp
  refine hv.of (λt:Nat×List Nat=>[(6,.slice (some ⟨H.next,0,none⟩) N N),(1,.int .i64 (k:Int)),(5,.slice (some ⟨kH,aaC+q,none⟩) N (ac-q)),(24,.int .i64 (N:Int)),(25,.int .i64 (t.1:Int))])
   (λt H'=>Out pm H H' H.next t.2 N/\t.1<=N/\b3 t.2 t.1+4294967296^t.1*(aw b t.1/2^s)=bb b/2^s) (λs=>N-s.1) (0,List.replicate N 0) (by simp) ⟨Out.C4 au (b6.refl au) _,by simp,by simp[b3,ys]⟩ ?_
  rintro⟨i,outs⟩ H' ⟨cf,ad,gk⟩;simp only at cf ad gk;by_cases gB:i<N
  ·simp[gB];refine aR.bZb (yr al.jm (h'.bT au cf.bT) i) ?_;rintro _ H' ⟨rfl,rfl⟩;have df:wr .i64 ((i:Int)+1)=((i+1:Nat):Int):=by rw[zWc (by omega) (by omega)];simp
   obtain⟨j,aH⟩:=bZa (i+1);rw[<-aH]at df;simp[df];refine aR.bZb (yr al.jm (h'.bT au cf.bT) j) ?_;rintro _ H' ⟨rfl,rfl⟩;have ck:=fM.dg i;have cJ:=fM.dg j;obtain⟨t,aS⟩:=bZa (dg b j*4294967296);have dW:wr .u64 (((dg b j:Nat):Int)*4294967296)=(t:Int):=by rw[hd (by omega) (by omega)];omega
   obtain⟨u,hu⟩:=bZa (t+dg b i);have gZ:=C5 (a:=dg b i) (b:=t) (by omega) (by omega);have yx:dg b i ||| t=u:=by
    rw[Nat.or_comm,aS,hu];have:=C6 (a:=dg b j) (i:=32) (b:=dg b i) (by simpa using ck);simp only[Nat.reducePow]at this;omega
   rw[yx]at gZ;have C8:min s 64=s:=by omega
   obtain⟨w,hw⟩:=bZa (u/2^s);have jz:((u:Int)).fdiv (2^s)=(w:Int):=by
    have:=Rg u (2^s);rw[hw];simpa using this
   obtain⟨d,aB⟩:=bZa (w%4294967296);have nn:wr .u32 (w:Int)=(d:Int):=by rw[n4];omega
   have lN:=setCells_one (cs:=c4 outs) (i:=i) (v:=.int .u32 (d:Int)) (by rw[uN,cf.len];omega);rw[uO]at lN;simp[dW,gZ,d2,C8,jz,nn,lN,gB,cf.get,au.may (bR _),df];refine .of (j,outs.set i d) (by show N-j<N-i;omega) (by simp) ⟨cf.put i (by omega),by simp;omega,?_⟩;show b3 (outs.set i d) j+4294967296^j*(aw b j/2^s)=bb b/2^s;rw[<-gk,aH,s3 (by rw[cf.len];omega),bZh];have key:aw b i/2^s=d+4294967296*(aw b (i+1)/2^s):=by
    have ao:(aw b i/2^s)/4294967296=aw b (i+1)/2^s:=by
     rw[bXy,gw,<-bXy,qU b i,L2 _ _ (by omega),bYV ck];simp
    have e2:(aw b i/2^s)%4294967296=d:=by
     rw[aB,hw,hu,aS,qU b i,qU b (i+1),<-aH];have:dg b i+4294967296*(dg b j+4294967296*aw b (j+1))=(dg b j*4294967296+dg b i)+2^s*(4294967296*(2^(32-s)*aw b (j+1))):=by
      have e:4294967296*(4294967296*aw b (j+1))=2^s*(4294967296*(2^(32-s)*aw b (j+1))):=by
       generalize aw b (j+1)=z;have:2^s*2^(32-s)*(4294967296*z)=4294967296*(4294967296*z):=by rw[tP]
       generalize 2^s=x at*
       generalize 2^(32-s)=y at*
       grind
      omega
     rw[this,L2 _ _ Rk,Nat.add_mul_mod_self_left]
    omega
   rw[key];generalize 4294967296^i=p;generalize aw b (i+1)/2^s=r;grind
  ·obtain rfl:i=N:=by omega
   simp;have aq:b3 outs i=bb outs:=kX (by rw[cf.len];omega);refine aR.bZb (qT al.fB cf.bT.ok (yu cf.get cf.ej cf.len (au.new _ cf.low)) (by rw[cf.len];omega)) ?_;rintro r aJ ⟨aI,an⟩;simp;refine⟨cf.bT.trans aI,outs,an,cf.ej,?_,by rw[cf.len];omega⟩;rw[Ak (by omega),aq]at gk;simp at gk;rw[gk,Kv,<-bXy,<-Gk a q hx,ai,aw]
end
theorem aaD{ds:List Nat}{j k d:Nat}(h:j<k):aw (ds.set j d) k=aw ds k:=by
 unfold aw;rw[List.drop_set,bm h]
section
variable[cn]
theorem aaE(al:fa X)(au:cU pm H){v:Value}{a:List Nat}(eL:er H v a)(ir:a.length<=1073741824){y:Nat}(yy:0<y)(bu:y<4294967296):
 Call X pm F.uK [v,.int .u64 (y:Int)] H λr H'=>b6 pm H H'/\∃s fr,r=.tuple #[s,.int .u64 ((bb a%y:Nat):Int)]/\er H' s fr/\bb fr=bb a/y/\fr.length=a.length:=by
 have hx:=eL.1;refine Call.has al.uK rfl ?_;obtain⟨ab,ac,rfl⟩:=eL.form;obtain⟨n,aF⟩:=bZa (a.length);rw[<-aF]at eL|-;simp;rw[rD au (by omega) (by omega)];simp
 refine hv.of (λt:Nat×List Nat×Nat=>[(0,.slice ab n ac),(1,.int .u64 (y:Int)),(6,.slice (some ⟨H.next,0,none⟩) n n),(7,.int .u64 (t.2.2:Int)),(8,.int .i64 ((t.1:Int)-1))])
  (λt H'=>Out pm H H' H.next t.2.1 n/\t.1<=n/\t.2.2<y/\aw a t.1=aw t.2.1 t.1*y+t.2.2) (λt=>t.1) (n,List.replicate n 0,0) (by simp;rw[zWc (by omega) (by omega)]) ⟨Out.C4 au (b6.refl au) _,by simp,yy,?_⟩ ?_
 ·simp only;rw[Ak (by omega),Ak (by simp)];simp
 rintro⟨k,outs,r⟩ H' ⟨cf,ag,an,gk⟩;simp only at cf ag an gk
 cases k with
 | zero=>
   simp;rw[ys,ys]at gk;have ao:bb a/y=bb outs:=by
    rw[gk,gw,Nat.mul_add_div yy,bYV an];omega
   have e2:bb a%y=r:=by
    rw[gk,gw,Nat.mul_add_mod,q4 an]
   exact⟨cf.bT,_,⟨rfl,by omega⟩,outs,yu cf.get cf.ej cf.len (au.new _ cf.low),ao.symm,by rw[cf.len,aF]⟩
 | succ k=>
   obtain⟨c,off,kO,row,rfl,g1,g2,g3⟩:=(eL.bT au cf.bT).at aF (i:=k) (by omega);have ck:=hx.dg k;have df:wr .u64 ((dg a k:Nat):Int)=((dg a k:Nat):Int):=hd (by omega) (by omega);obtain⟨t,aS⟩:=bZa (r*4294967296);have dW:wr .u64 ((r:Int)*4294967296)=(t:Int):=by rw[hd (by omega) (by omega)];omega
   obtain⟨u,hu⟩:=bZa (t+dg a k);have gZ:=C5 (a:=t) (b:=dg a k) (by omega) (by omega);have yx:t ||| dg a k=u:=by
    rw[aS,hu];have:=C6 (a:=r) (i:=32) (b:=dg a k) (by simpa using ck);simp only[Nat.reducePow]at this;omega
   rw[yx]at gZ;obtain⟨d,aB⟩:=bZa (u/y);have rh:d<4294967296:=by
    rw[aB];exact bYI (by
     have:(r+1)*4294967296<=y*4294967296:=hQ _ an;omega)
   have jz:((u:Int)).tdiv (y:Int)=(d:Int):=by rw[aB];rfl
   obtain⟨r',oV⟩:=bZa (u%y);have nn:((u:Int)).tmod (y:Int)=(r':Int):=by rw[oV];rfl
   have nq:wr .u64 (d:Int)=(d:Int):=hd (by omega) (by omega);have pG:wr .u32 (d:Int)=(d:Int):=by rw[n4];omega
   have rW:¬y=0:=by omega
   have aaF:=Rm .u64 (u:Int) (y:Int) (by omega);have aaG:=Rn .u64 (u:Int) (y:Int) (by omega);rw[jz,nq]at aaF;rw[nn]at aaG;have An:wr .i64 ((k:Int)-1)=(k:Int)-1:=zWc (by omega) (by omega);have lN:=setCells_one (cs:=c4 outs) (i:=k) (v:=.int .u32 (d:Int)) (by rw[uN,cf.len];omega);rw[uO]at lN;simp[df,dW,gZ,aaF,pG,An,aaG,g1,g2,g3,show k<n by omega,cf.get,lN,au.may (bR _)];have aAs:r'<y:=by rw[oV];exact bYe _ yy
   refine .of (k,outs.set k d,r') (by simp) (by simp) ⟨cf.put k rh,by simp;omega,aAs,?_⟩;show aw a k=aw (outs.set k d) k*y+r';rw[qU a k,gk,qU (outs.set k d) k,Gd (by rw[cf.len];omega),aaD (by omega)];have e:y*d+r'=u:=by rw[aB,oV];exact bXl u y
   have:u=r*4294967296+dg a k:=by omega
   generalize aw outs (k+1)=z at*
   grind
end
theorem aAt(w:List Nat)(m:Nat):b3 w (m+3)=b3 w m+4294967296^m*(dg w m+4294967296*(dg w (m+1)+4294967296*dg w (m+2))):=by
 simp only[b3,bZh];generalize 4294967296^m=p;grind
theorem aAu(w:List Nat)(m:Nat):b3 w (m+2)=b3 w m+4294967296^m*(dg w m+4294967296*dg w (m+1)):=by
 simp only[b3,bZh];generalize 4294967296^m=p;grind
section
variable[cn]
structure oZ(A V:Nat)(two v1 v2 a0:Nat):Prop where
 ex:∃P Kw yz,0<P/\A=Kw+P*(a0+4294967296*two)/\V=yz+P*(v2+4294967296*v1)/\Kw<P/\yz<P
 a0:a0<4294967296
 v2:v2<4294967296
 v1:0<v1
 lt:A<4294967296*V
end
theorem oZ.pos{A V two v1 v2 a0:Nat}(g:oZ A V two v1 v2 a0):0<V:=by have:=g.lt;omega
theorem oZ.low{A V two v1 v2 a0:Nat}(g:oZ A V two v1 v2 a0):A/V*(v2+4294967296*v1)<=a0+4294967296*two:=by
 obtain⟨P,Kw,yz,zt,nd,eI,U,aa⟩:=g.ex;have h:=Nat.div_mul_le_self A V;generalize A/V=Q at*
 have e:Q*(P*(v2+4294967296*v1))<=Q*V:=r8 Q (by omega);have e2:P*(Q*(v2+4294967296*v1))<P*(a0+4294967296*two+1):=by
  have:P*(Q*(v2+4294967296*v1))=Q*(P*(v2+4294967296*v1)):=by grind
  rw[this,bYZ P _ 1];omega
 have:=Nat.lt_of_mul_lt_mul_left e2;omega
theorem oZ.top{A V two v1 v2 a0:Nat}(g:oZ A V two v1 v2 a0):A/V*v1<=two:=by
 have h:=g.low;have aN:=g.a0;generalize A/V=Q at*
 have e:Q*(v2+4294967296*v1)=Q*v2+4294967296*(Q*v1):=by grind
 omega
theorem oZ.mask{A V two v1 v2 a0:Nat}(g:oZ A V two v1 v2 a0):A/V<=4294967295:=by
 have:=bYI (k:=4294967296) (by rw[gw];exact g.lt:A<V*4294967296);omega
theorem oZ.start{A V two v1 v2 a0:Nat}(g:oZ A V two v1 v2 a0):A/V<=min (two/v1) 4294967295:=by
 have:=g.top;have aa:=(Nat.le_div_iff_mul_le g.v1).2 this;have:=g.mask;omega
theorem oZ.dec{A V two v1 v2 a0 q r:Nat}(g:oZ A V two v1 v2 a0)(h:A/V<=q)(an:r+q*v1=two)(Ro:r*4294967296+a0<q*v2):A/V<=q-1:=by
 have aO:=g.low
 rcases bXo (A/V) q with U | U
 ·omega
 ·obtain aa:A/V=q:=by omega
  rw[aa]at aO;have e:q*(v2+4294967296*v1)=q*v2+4294967296*(q*v1):=by grind
  omega
theorem oZ.stop{A V two v1 v2 a0 q r:Nat}(g:oZ A V two v1 v2 a0)(aV:q<=4294967295)(an:r+q*v1=two)(hle:4294967296<=r∨q*v2<=r*4294967296+a0):q<=A/V+1:=by
 have BG:=g.v2;have mj:=g.v1;have aq:q*v2<=r*4294967296+a0:=by
  rcases hle with h | h
  ·have:q*v2<=4294967295*4294967295:=ie aV (by omega);omega
  ·exact h
 obtain⟨P,Kw,yz,zt,nd,eI,U,aa⟩:=g.ex;have e:q*(v2+4294967296*v1)<=a0+4294967296*two:=by
  have:q*(v2+4294967296*v1)=q*v2+4294967296*(q*v1):=by grind
  omega
 have e2:q*V<A+V:=by
  have bd:q*V=q*yz+P*(q*(v2+4294967296*v1)):=by rw[eI];grind
  have b1:P*(q*(v2+4294967296*v1))<=P*(a0+4294967296*two):=r8 P e;have cK:q*yz<=4294967295*yz:=hQ yz aV;have il:P*(4294967296*1)<=P*(v2+4294967296*v1):=r8 P (by omega);omega
 rcases bXo (A/V+1) q with a8 | a8
 ·exfalso;have cg:(A/V+2)*V<=q*V:=hQ V a8;have dj:=Nat.lt_mul_div_succ A g.pos;rw[gw]at dj;have:(A/V+2)*V=(A/V+1)*V+V:=by grind
  omega
 ·exact a8
section
variable[cn]
def uR(cb:Nat)(H:ah)(v:Value)(ds:List Nat):Prop:=
 e' ds/\∃off cap y row,v=.slice (some ⟨cb,off,none⟩) ds.length cap/\H.get cb=some y/\rowOf y=some row/\∀i,i<ds.length->row[off+i]? = some (.int .u32 ((dg ds i:Nat):Int))
structure kY(pm:Perm)(c:Nat)(H H':ah):Prop where
 ok:cU pm H'
 next:H.next<=H'.next
 get:∀x,x≠c->H'.get x=H.get x
theorem kY.refl(au:cU pm H)(c:Nat):kY pm c H H:=⟨au,bR _,λ_ _=>rfl⟩
theorem kY.trans{c:Nat}{cL:ah}(h:kY pm c H H')(g:kY pm c H' cL):kY pm c H cL:=⟨g.ok,bH h.next g.next,λx az=>(g.get x az).trans (h.get x az)⟩
theorem _root_.Go.Dam.cU.up(h:cU pm H)(n:Nat):cU pm (H.up n):=⟨h.num,bH h.lo (hS _ _),λb ai=>h.wf b (bH (hS _ _) ai),λb ai=>h.new b (bH (hS _ _) ai)⟩
theorem kY.up{c:Nat}(h:kY pm c H H')(n:Nat):kY pm c H (H'.up n):=⟨h.ok.up n,bH h.next (hS _ _),h.get⟩
theorem kY.put{c:Nat}(h:kY pm c H H'){y:cj}(bu:H'.get c=some y)(x:cj):kY pm c H (H'.put c x):=
 ⟨⟨h.ok.num,h.ok.lo,λb ai=>by have ai:H'.next<=b:=ai;have:=h.ok.lt bu;rw[cq (by omega)];exact h.ok.wf b ai,λb ai=>h.ok.new b ai⟩,h.next,λz bl=>by rw[cq bl];exact h.get z bl⟩
theorem uR.only{cb c:Nat}{v:Value}{ds:List Nat}(h:uR cb H v ds)(dr:cb≠c)(au:kY pm c H H'):uR cb H' v ds:=by
 obtain⟨aO,off,cap,y,row,U,aa,aq⟩:=h;exact⟨aO,off,cap,y,row,U,(au.get cb dr).trans aa,aq⟩
end
theorem e'.wK{ds:List Nat}(h:e' ds)(i:Nat):wr .u64 ((C.dg ds i:Nat):Int)=((C.dg ds i:Nat):Int):=by
 have:=h.dg i;exact hd (by omega) (by omega)
theorem e'.Rp{ds:List Nat}(h:e' ds)(i:Nat):wr .i64 ((C.dg ds i:Nat):Int)=((C.dg ds i:Nat):Int):=by
 have:=h.dg i;exact zWc (by omega) (by omega)
theorem Ao{p w:List Nat}{j i:Nat}(aH:p.length=j)(ad:i<w.length):(c4 (p++w))[j+i]? = some (.int .u32 ((dg w i:Nat):Int)):=by
 subst aH;simp[c4,dg,ad]
theorem Ky{p w:List Nat}{j i d:Nat}(aH:p.length=j)(ad:i<w.length):setCells (c4 (p++w)) (j+i) [.int .u32 (d:Int)]=some (c4 (p++w.set i d)):=by
 subst aH;rw[setCells_one (by simp;omega),uO];rw[List.set_append_right _ _ (by omega)];simp
theorem Da{w:List Nat}{i t d:Nat}(h:i≠t):dg (w.set i d) t=dg w t:=by simp[dg,h]
section
variable[cn]
def Kz(pm:Perm)(c:Nat)(H:ah)(p w:List Nat)(n A V:Nat):c':=λx l H'=>
 (x=gr.normal∨x=gr.ret)/\∃vs,nb l H' [.slot 4]=some vs/\(j5 vs=.int .u32 ((A/V:Nat):Int)/\kY pm c H H'/\∃w',H'.get c=some (.cells (c4 (p++w')) (.n 1))/\e' w'/\w'.length=w.length/\
  b3 w' (n+1)=A%V/\∀i,n<i->dg w' i=dg w i)
theorem aaH{H0:ah}{c cb j n cap n5 uS:Nat}(aAv:kY pm c H0 H)(hm:pm.may c=true)(dr:cb≠c){p w b:List Nat}{A V q:Nat}{kO:cj}{yw:List Value}(aH:p.length=j)(af:H.get c=some (.cells (c4 (p++w)) (.n 1)))
 (mJ:e' w) (fM:e' b) (f1:H0.get cb=some kO) (f2:rowOf kO=some yw) (f3:∀i,i<n->yw[n5+i]? = some (.int .u32 ((dg b i:Nat):Int))) (hL:n<1073741824) (wL:n+1<=w.length) (_aGF:j<1073741824)
 (nd:A=b3 w (n+1)) (eI:V=b3 b n) (Db:0<V) (lK:A/V<=q) (vM:q<=A/V+1) (aAw:q<=4294967295) {l:bQ}
 (c0:a7 0 l=some (.slice (some ⟨c,j,none⟩) (n+1) cap)) (ck:a7 1 l=some (.slice (some ⟨cb,n5,none⟩) n uS)) (lf:a7 5 l=some (.int .i64 (n:Int))) (dO:a7 7 l=some (.int .u64 (q:Int))):
 wp X pm (.code uT) l H [] (Kz pm c H0 p w n A V):=by
 simp[ck]
 refine hv.of (λs:Nat×List Nat×Nat×Int=>[(0,.slice (some ⟨c,j,none⟩) (n+1) cap),(1,.slice (some ⟨cb,n5,none⟩) n uS),(5,.int .i64 (n:Int)),(7,.int .u64 (q:Int)),(9,.int .u64 (s.2.2.1:Int)),(10,.int .i64 s.2.2.2),(82,.slice (some ⟨cb,n5,none⟩) n uS),(83,.int .i64 (n:Int)),(84,.int .i64 (s.1:Int))])
  (λs H'=>kY pm c H0 H'/\H'.get c=some (.cells (c4 (p++s.2.1)) (.n 1))/\e' s.2.1/\s.2.1.length=w.length/\s.1<=n/\(∀t,s.1<=t->dg s.2.1 t=dg w t)/\s.2.2.1<4294967296/\-1<=s.2.2.2/\s.2.2.2<=0/\
   (b3 s.2.1 s.1:Int)+s.2.2.2*((4294967296^s.1:Nat):Int)=b3 w s.1-q*b3 b s.1+s.2.2.1*((4294967296^s.1:Nat):Int)) (λs=>n-s.1) (0,w,0,0) (by simp[c0,ck,lf,dO]) ⟨aAv,af,mJ,rfl,by simp,λ_ _=>rfl,by simp,by simp,by simp,by simp[b3]⟩ ?_
 rintro⟨i,w',s5,rs⟩ H1 ⟨kZ,hb,rX,Dc,ad,uQ,aAx,aAy,aAz,gk⟩;simp only at hb rX Dc ad uQ aAx aAy aAz gk;have uk:=(kZ.get cb dr).trans f1;by_cases gB:i<n
 ·have cY:=f3 i gB;have g0:=Ao (p:=p) (w:=w') aH (i:=i) (by omega);have iM:=fM.dg i;have lw:=rX.dg i;obtain⟨s1,aaI⟩:=bZa (s5+q*dg b i);have aAA:q*dg b i<=4294967295*4294967295:=ie aAw (by omega);obtain⟨KA,Rq⟩:=bZa (q*dg b i);rw[<-Rq]at aaI aAA;have df:wr .u64 ((q:Int)*((dg b i:Nat):Int))=(KA:Int):=by
   have e:(q:Int)*((dg b i:Nat):Int)=(KA:Int):=by rw[Rq];simp
   rw[e];exact hd (by omega) (by omega)
  have dW:wr .u64 ((s5:Int)+(KA:Int))=(s1:Int):=by rw[hd (by omega) (by omega)];omega
  obtain⟨d1,gQ⟩:=bZa (s1%4294967296);have gZ:wr .u32 (s1:Int)=(d1:Int):=by rw[n4];omega
  have jz:wr .i64 (d1:Int)=(d1:Int):=zWc (by omega) (by omega);obtain⟨s2,tP⟩:∃s:Int,s=rs+((dg w' i:Int)-d1):=⟨_,rfl⟩;have nn:wr .i64 (rs+wr .i64 (((dg w' i:Nat):Int)-(d1:Int)))=s2:=by
   rw[zWc (n:=(dg w' i:Int)-d1) (by omega) (by omega),zWc (by omega) (by omega)];omega
  obtain⟨d2,kd⟩:∃d:Nat,(d:Int)=s2%4294967296:=⟨(s2%4294967296).toNat,by omega⟩;have nq:wr .u32 s2=(d2:Int):=by rw[n4];omega
  obtain⟨pH,aAB⟩:∃r:Int,r=s2/4294967296:=⟨_,rfl⟩;have pG:s2.fdiv 4294967296=pH:=by rw[bWL _ (by omega)];exact aAB.symm
  obtain⟨Gl,aAC⟩:=bZa (s1/4294967296);have An:((s1:Int)).fdiv 4294967296=(Gl:Int):=by rw[aAC];exact Kr s1
  have Gi:wr .i64 ((i:Int)+1)=((i+1:Nat):Int):=by rw[zWc (by omega) (by omega)];simp
  have gz:=Ky (p:=p) (w:=w') (d:=d2) aH (i:=i) (by omega);simp[gB,uk,f2,cY,hb,g0,rX.Rp,fM.wK,df,dW,gZ,jz,nn,nq,pG,An,Gi,gz,show i<n+1 by omega,hm];refine .of (i+1,w'.set i d2,Gl,pH) (by show n-(i+1)<n-i;omega) (by simp) ⟨kZ.put hb _,by simp,rX.set i (by omega),by simp[Dc],by simp;omega,λt aS=>?_,by simp;omega,by simp;omega,by simp;omega,?_⟩
  ·have aS:i+1<=t:=aS;show dg (w'.set i d2) t=dg w t;rw[Da (by omega)];exact uQ t (by omega)
  ·show((b3 (w'.set i d2) (i+1):Nat):Int)+pH*((4294967296^(i+1):Nat):Int)=(b3 w (i+1):Int)-q*(b3 b (i+1):Int)+Gl*((4294967296^(i+1):Nat):Int);rw[s3 (by omega),b3,b3,<-uQ i (bR _),bZh];have ao:s2=d2+4294967296*pH:=by omega
   have e2:(s1:Int)=d1+4294967296*Gl:=by omega
   have bd:(s1:Int)=s5+q*dg b i:=by rw[aaI,Rq];simp
   generalize 4294967296^i=P at*
   simp only[Int.natCast_add,bXL,Int.cast_ofNat_Int];have b1:(d2:Int)*P+pH*(P*4294967296)=s2*P:=by rw[ao];grind
   have cK:s2*P=rs*P+(dg w' i:Int)*P-d1*P:=by rw[tP];grind
   have il:(d1:Int)*P+Gl*(P*4294967296)=s1*P:=by rw[e2];grind
   have nM:(s1:Int)*P=s5*P+q*(dg b i*P):=by rw[bd];grind
   have mh:(q:Int)*((b3 b i:Int)+dg b i*P)=q*b3 b i+q*(dg b i*P):=by grind
   rw[mh];omega
 ·obtain rfl:i=n:=by omega
  have g0:=Ao (p:=p) (w:=w') aH (i:=i) (by omega);have lw:=rX.dg i;have sc:wr .i64 (s5:Int)=(s5:Int):=zWc (by omega) (by omega);obtain⟨de,E1⟩:∃s:Int,s=rs+((dg w' i:Int)-s5):=⟨_,rfl⟩;have df:wr .i64 (rs+wr .i64 (((dg w' i:Nat):Int)-(s5:Int)))=de:=by
   rw[zWc (n:=(dg w' i:Int)-s5) (by omega) (by omega),zWc (by omega) (by omega)];omega
  obtain⟨d3,Ap⟩:∃d:Nat,(d:Int)=de%4294967296:=⟨(de%4294967296).toNat,by omega⟩;have dW:wr .u32 de=(d3:Int):=by rw[n4];omega
  have gz:=Ky (p:=p) (w:=w') (d:=d3) aH (i:=i) (by omega);have zt:0<4294967296^i:=bYY (by omega);have o0:=pF fM i;rw[<-eI]at o0;have aGG:=pF rX i;have aAD:A=b3 w i+dg w i*4294967296^i:=by rw[nd,b3]
  have aAE:=uQ i (bR _);have mq:(b3 w' i:Int)+de*((4294967296^i:Nat):Int)=A-q*V:=by
   rw[aAD,eI];generalize 4294967296^i=P at*
   rw[E1,aAE];simp only[Int.natCast_add,bXL];have ao:(rs+((dg w i:Int)-s5))*P=rs*P+dg w i*P-s5*P:=by grind
   rw[ao];omega
  have aaJ:=bXl A V;have dD:A%V<V:=bYe _ Db;obtain⟨Q,bU⟩:=bZa (A/V);obtain⟨R,KB⟩:=bZa (A%V);rw[<-bU,<-KB]at aaJ;rw[<-KB]at dD;rw[<-bU]at lK vM;have KC:(A:Int)=Q*V+R:=by rw[<-aaJ];simp;grind
  have aaK:q=Q∨q=Q+1:=by omega
  by_cases mX:de<0
  ·have aV:q=Q+1:=by
    rcases aaK with rfl | h
    ·exfalso;rw[KC]at mq;have ao:de*((4294967296^i:Nat):Int)<=-1*((4294967296^i:Nat):Int):=bWJ (by omega) (by omega);omega
    ·exact h
   have KD:(b3 w' i:Int)+de*((4294967296^i:Nat):Int)=R-V:=by
    rw[mq,KC,aV];simp;grind
   have aAF:de=-1:=by
    rcases(by omega:de=-1∨de<=-2) with h | h
    ·exact h
    ·exfalso;have ao:de*((4294967296^i:Nat):Int)<=-2*((4294967296^i:Nat):Int):=bWJ h (by omega);omega
   rw[aAF]at KD Ap df dW;have aAG:d3=4294967295:=by omega
   have mS:¬((0:Int)<=de):=by omega
   simp[g0,rX.Rp,hb,sc,df,dW,gz,hm]
   refine hv.of (λs:Nat×List Nat×Nat=>[(0,.slice (some ⟨c,j,none⟩) (i+1) cap),(5,.int .i64 (i:Int)),(7,.int .u64 (q:Int)),(13,.int .u64 (s.2.2:Int)),(135,.slice (some ⟨cb,n5,none⟩) i uS),(136,.int .i64 (i:Int)),(137,.int .i64 (s.1:Int))])
    (λs H'=>kY pm c H0 H'/\H'.get c=some (.cells (c4 (p++s.2.1)) (.n 1))/\e' s.2.1/\s.2.1.length=w.length/\s.1<=i/\(∀t,s.1<=t->dg s.2.1 t=dg (w'.set i d3) t)/\s.2.2<=1/\
     b3 s.2.1 s.1+s.2.2*4294967296^s.1=b3 w' s.1+b3 b s.1) (λs=>i-s.1) (0,w'.set i d3,0) (by simp) ⟨kZ.put hb _,by simp,rX.set i (by omega),by simp[Dc],by simp,λ_ _=>rfl,by simp,by simp[b3]⟩ ?_
   rintro⟨k,bL,sm⟩ aJ ⟨Rr,kC,Dd,Rs,ag,Gm,rB,aaL⟩;simp only at kC Dd Rs ag Gm rB aaL;have KE:=(Rr.get cb dr).trans f1;by_cases aaM:k<i
   ·have cY:=f3 k aaM;have g1:=Ao (p:=p) (w:=bL) aH (i:=k) (by omega);have iM:=fM.dg k;have aAH:=Dd.dg k;obtain⟨rY,aAI⟩:=bZa (sm+(dg bL k+dg b k));have s6:wr .u64 ((sm:Int)+wr .u64 (((dg bL k:Nat):Int)+((dg b k:Nat):Int)))=(rY:Int):=by
     rw[hd (n:=((dg bL k:Nat):Int)+((dg b k:Nat):Int)) (by omega) (by omega),hd (by omega) (by omega)];omega
    obtain⟨d4,aGH⟩:=bZa (rY%4294967296);have iL:wr .u32 (rY:Int)=(d4:Int):=by rw[n4];omega
    obtain⟨Gn,aAJ⟩:=bZa (rY/4294967296);have qV:((rY:Int)).fdiv 4294967296=(Gn:Int):=by rw[aAJ];exact Kr rY
    have wM:wr .i64 ((k:Int)+1)=((k+1:Nat):Int):=by rw[zWc (by omega) (by omega)];simp
    have aAK:=Ky (p:=p) (w:=bL) (d:=d4) aH (i:=k) (by omega);simp[aaM,KE,f2,cY,kC,g1,Dd.wK,fM.wK,s6,iL,qV,wM,aAK,show k<i+1 by omega,hm];refine .of (k+1,bL.set k d4,Gn) (by show i-(k+1)<i-k;omega) (by simp) ⟨Rr.put kC _,by simp,Dd.set k (by omega),by simp[Rs],by simp;omega,λt aS=>?_,by simp;omega,?_⟩
    ·have aS:k+1<=t:=aS;show dg (bL.set k d4) t=_;rw[Da (by omega)];exact Gm t (by omega)
    ·show b3 (bL.set k d4) (k+1)+Gn*4294967296^(k+1)=b3 w' (k+1)+b3 b (k+1);have gh:dg bL k=dg w' k:=by rw[Gm k (bR _),Da (by omega)]
     rw[s3 (by omega),b3,b3,<-gh,bZh];have e2:rY=d4+4294967296*Gn:=by omega
     generalize 4294967296^k=P at*
     have b1:d4*P+Gn*(P*4294967296)=rY*P:=by rw[e2];grind
     have cK:rY*P=sm*P+dg bL k*P+dg b k*P:=by rw[aAI];grind
     omega
   ·obtain rfl:k=i:=by omega
    have g1:=Ao (p:=p) (w:=bL) aH (i:=k) (by omega);have aAL:dg bL k=4294967295:=by rw[Gm k (bR _),Gd (by omega),aAG]
    rw[aAL]at g1;have aGI:=pF Dd k;have aAM:sm=1/\b3 bL k=R:=by
     rw[<-eI]at aaL;rcases(by omega:sm=0∨sm=1) with rfl | rfl
     ·exfalso;omega
     ·exact⟨rfl,by omega⟩
    obtain⟨rfl,aAN⟩:=aAM;have s6:wr .u32 (4294967295+wr .u32 1)=0:=by decide
    have Rt:=Ky (p:=p) (w:=bL) (d:=0) aH (i:=k) (by omega);have iL:wr .u64 ((q:Int)-1)=(Q:Int):=by rw[hd (by omega) (by omega)];omega
    have qV:wr .u32 (Q:Int)=(Q:Int):=by rw[n4];omega
    have Rt:setCells (c4 (p++bL)) (j+k) [.int .u32 0]=some (c4 (p++bL.set k 0)):=Rt;simp[g1,kC,s6,iL,qV,Rt,hm,Kz];refine⟨by rw[bU];simp,Rr.put kC _,bL.set k 0,rfl,Dd.set k (by omega),by simp[Rs],?_,λt aS=>?_⟩
    ·rw[s3 (by omega),aAN,KB];simp
    ·rw[Da (by omega),Gm t (by omega),Da (by omega),uQ t (by omega)]
  ·have aV:q=Q:=by
    rcases aaK with h | h
    ·exact h
    ·exfalso;have KD:(b3 w' i:Int)+de*((4294967296^i:Nat):Int)=R-V:=by
      rw[mq,KC,h];simp;grind
     have ao:0<=de*((4294967296^i:Nat):Int):=Int.mul_nonneg (by omega) (by omega);omega
   have KD:(b3 w' i:Int)+de*((4294967296^i:Nat):Int)=R:=by rw[mq,KC,aV];grind
   have aAO:de=0:=by
    rcases(by omega:de=0∨1<=de) with h | h
    ·exact h
    ·exfalso;have ao:1*((4294967296^i:Nat):Int)<=de*((4294967296^i:Nat):Int):=bWJ h (by omega);omega
   rw[aAO]at KD Ap df dW;have qV:wr .u32 (q:Int)=(q:Int):=by rw[n4];omega
   simp[g0,rX.Rp,hb,sc,df,dW,qV,gz,hm,Kz];refine⟨by rw[aV,bU];simp,kZ.put hb _,w'.set i d3,rfl,rX.set i (by omega),by simp[Dc],?_,λt aS=>?_⟩
   ·rw[s3 (by omega)];have:d3=0:=by omega
    rw[this,<-KB];omega
   ·rw[Da (by omega),uQ t (by omega)]
theorem aAP(al:fa X)(au:cU pm H){c cb j n cap:Nat}(hm:pm.may c=true)(dr:cb≠c){p w b:List Nat}(aH:p.length=j)(af:H.get c=some (.cells (c4 (p++w)) (.n 1)))
 (mJ:e' w) {vb:Value} (ai:uR cb H vb b) (aF:n=b.length) (rj:2<=n) (hL:n<1073741824) (wL:n+1<=w.length) (KF:j<1073741824) (mj:dg b (n-1)≠0) (nd:b3 w (n+1)<4294967296*bb b):
 Call X pm F.wF [.slice (some ⟨c,j,none⟩) (n+1) cap,vb] H λr H'=>r=.int .u32 ((b3 w (n+1)/bb b:Nat):Int)/\kY pm c H H'/\∃w',H'.get c=some (.cells (c4 (p++w')) (.n 1))/\e' w'/\w'.length=w.length/\
  b3 w' (n+1)=b3 w (n+1)%bb b/\∀i,n<i->dg w' i=dg w i:=by
 obtain⟨m,rfl⟩:∃m,n=m+2:=⟨n-2,by omega⟩;have fM:=ai.1;have eI:bb b=b3 b (m+2):=(kX (by omega)).symm;have N5:=pF mJ m;have Db:=pF fM m
 have g:oZ (b3 w (m+2+1)) (bb b) (dg w (m+1)+4294967296*dg w (m+2)) (dg b (m+1)) (dg b m) (dg w m):=
  ⟨⟨4294967296^m,b3 w m,b3 b m,bYY (by omega),aAt w m,by rw[eI];exact aAu b m,N5,Db⟩,mJ.dg m,fM.dg m,tq (by simpa using mj),nd⟩
 obtain⟨A,Ru⟩:=bZa (b3 w (m+2+1));obtain⟨V,Rv⟩:=bZa (bb b);rw[<-Ru,<-Rv]at g|-;obtain⟨n5,uS,kO,yw,rfl,f1,f2,f3⟩:=ai.2;rw[<-aF];have aAQ:=mJ.dg m;have aAR:=mJ.dg (m+1);have aAH:=mJ.dg (m+2);have Rw:=fM.dg m;have aAS:=fM.dg (m+1);obtain⟨two,aAT⟩:=bZa (dg w (m+1)+4294967296*dg w (m+2));rw[<-aAT]at g;have g1:=Ao (p:=p) (w:=w) aH (i:=m+1) (by omega);have g2:=Ao (p:=p) (w:=w) aH (i:=m+2) (by omega);have g0:=Ao (p:=p) (w:=w) aH (i:=m) (by omega);have ao:=f3 (m+1) (by omega);have cY:=f3 m (by omega);have df:wr .i64 ((m:Int)+2-1)=((m+1:Nat):Int):=by rw[zWc (by omega) (by omega)];omega
 have dW:wr .i64 (m:Int)=(m:Int):=zWc (by omega) (by omega);refine Call.has al.wF rfl ?_;show wp X pm _ _ _ _ (Kz pm c H p w (m+2) A V);simp[-uT];refine eg.E7 au rfl rfl rfl ?_;obtain⟨t,aS⟩:=bZa (dg w (m+2)*4294967296);have gZ:wr .u64 (((dg w (m+2):Nat):Int)*4294967296)=(t:Int):=by rw[hd (by omega) (by omega)];omega
 have jz:=C5 (a:=t) (b:=dg w (m+1)) (by omega) (by omega);have yx:t ||| dg w (m+1)=two:=by
  have:=C6 (a:=dg w (m+2)) (i:=32) (b:=dg w (m+1)) (by simpa using aAR);simp only[Nat.reducePow]at this;rw[aS];omega
 rw[yx]at jz;have gN:dg b (m+1)≠0:=by simpa using mj
 have nn:=Rm .u64 (two:Int) ((dg b (m+1):Nat):Int) (by omega);obtain⟨hB,sS⟩:=bZa (two/dg b (m+1));have nq:((two:Int)).tdiv ((dg b (m+1):Nat):Int)=(hB:Int):=by rw[sS];rfl
 have aGJ:hB<=two:=by rw[sS];exact oe _ _
 rw[nq,hd (by omega) (by omega)]at nn;obtain⟨bn,lK⟩:=bZa (min hB 4294967295);have pG:(if 4294967295<hB then(4294967295:Int) else(hB:Int))=(bn:Int):=by rw[lK];split<;>omega
 have aGK:bn*dg b (m+1)<=two:=by
  have U:bn*dg b (m+1)<=hB*dg b (m+1):=hQ _ (by omega);have aa:hB*dg b (m+1)<=two:=by rw[sS];exact Nat.div_mul_le_self _ _
  omega
 obtain⟨yA,Aq⟩:=bZa (bn*dg b (m+1));have An:wr .u64 ((bn:Int)*((dg b (m+1):Nat):Int))=(yA:Int):=by
  have e:(bn:Int)*((dg b (m+1):Nat):Int)=(yA:Int):=by rw[Aq];simp
  rw[e];exact hd (by omega) (by omega)
 obtain⟨b4,kb⟩:=bZa (two-yA);have Gi:wr .u64 ((two:Int)-(yA:Int))=(b4:Int):=by rw[hd (by omega) (by omega)];omega
 simp[-uT,af,g1,g2,mJ.wK,df,gZ,jz,ao,f1,f2,fM.wK,nn,pG,An,Gi];have aAU:∀q:Nat,q<=4294967295->q*dg b m<=4294967295*4294967295:=λq aV=>ie aV (by omega)
 refine hv.of (λs:Nat×Nat=>[(0,.slice (some ⟨c,j,none⟩) (m+2+1) cap),(1,.slice (some ⟨cb,n5,none⟩) (m+2) uS),(5,.int .i64 ((m:Int)+2)),(7,.int .u64 (s.1:Int)),(8,.int .u64 (s.2:Int))])
  (λs H'=>kY pm c H H'/\H'.get c=H.get c/\A/V<=s.1/\s.1<=4294967295/\s.2+s.1*dg b (m+1)=two) (λs=>s.1) (bn,b4) (by simp) ⟨(kY.refl au c).up _,rfl,by have:=g.start;simp only;rw[<-sS,<-lK]at this;exact this,by simp;omega,by simp only;omega⟩ ?_
 rintro⟨q,r⟩ H1 ⟨kZ,hb,bU,Ar,an⟩;simp only at bU Ar an;simp[-uT];refine eg.E7 kZ.ok rfl rfl rfl ?_;have uk:=(kZ.get cb dr).trans f1;have x4:=hb.trans af;by_cases lh:¬4294967295<r
 ·have Gj:wr .u64 ((r:Int)*4294967296)=((r*4294967296:Nat):Int):=by rw[hd (by omega) (by omega)];omega
  obtain⟨t2,eb⟩:=bZa (r*4294967296);rw[<-eb]at Gj;have aaN:=C5 (a:=t2) (b:=dg w m) (by omega) (by omega);have aAV:t2 ||| dg w m=t2+dg w m:=by
   have:=C6 (a:=r) (i:=32) (b:=dg w m) (by simpa using aAQ);simp only[Nat.reducePow]at this;rw[eb];omega
  obtain⟨fm,mo⟩:=bZa (t2+dg w m);rw[aAV,<-mo]at aaN;obtain⟨Rx,KG⟩:=bZa (q*dg b m);have aGL:=aAU q Ar;have aAW:wr .u64 ((q:Int)*((dg b m:Nat):Int))=(Rx:Int):=by
   have e:(q:Int)*((dg b m:Nat):Int)=(Rx:Int):=by rw[KG];simp
   rw[e];exact hd (by omega) (by omega)
  simp[-uT,show m<m+2+1 by omega,lh,uk,f2,x4,g0,cY,ao,df,dW,Gj,aaN,aAW,mJ.wK,fM.wK];by_cases Ro:fm<Rx
  ·have aaO:=g.dec bU an (by rw[<-KG];omega);have Zu:0<q:=by rcases bXD q with h | h;subst h;simp at KG;omega;exact h
   have aaP:wr .u64 ((q:Int)-1)=((q-1:Nat):Int):=by rw[hd (by omega) (by omega)];omega
   have aaQ:wr .u64 ((r:Int)+((dg b (m+1):Nat):Int))=((r+dg b (m+1):Nat):Int):=by rw[hd (by omega) (by omega)];omega
   obtain⟨kv,ju⟩:=bZa (q-1);rw[<-ju]at aaP aaO;obtain⟨r',oV⟩:=bZa (r+dg b (m+1));rw[<-oV]at aaQ;simp[-uT,Ro,aaP,aaQ];refine⟨.of (kv,r') (by simp;omega) (by simp) ⟨kZ.up _,hb,aaO,by simp;omega,?_⟩,λh=>by omega⟩;show r'+kv*dg b (m+1)=two;have:q=kv+1:=by omega
   subst this;rw[bYw]at an;omega
  ·simp[-uT,Ro];intro _;exact aaH (H0:=H) (b:=b) (cap:=cap) (uS:=uS) (kZ.up _) hm dr aH x4 mJ fM f1 f2 (λi ad=>f3 i (by omega)) (by omega) (by omega) KF Ru (by rw[Rv,eI]) g.pos bU (g.stop Ar an (.inr (by rw[<-KG];omega))) Ar (by simp) (by simp) (by simp) (by simp)
 ·have lh:4294967295<r:=by omega
  simp[-uT,lh];exact aaH (H0:=H) (b:=b) (cap:=cap) (uS:=uS) (kZ.up _) hm dr aH x4 mJ fM f1 f2 (λi ad=>f3 i (by omega)) (by omega) (by omega) KF Ru (by rw[Rv,eI]) g.pos bU (g.stop Ar an (.inl (by omega))) Ar (by simp) (by simp) (by simp) (by simp)
end
end Go.Dam.C
