/- What the functions of the program compute, for every input. -/
import Derived.Test.YtkjakecbclpfpaaGreatDoorCDamB
namespace Go.Dam
open Go
def la(p:Nat->Nat->Prop):Prop:=∃N,∀m d,N<=m->N<=d->p m d
theorem la.of{p:Nat->Nat->Prop}(h:∀m d,p m d):la p:=⟨0,λm d _ _=>h m d⟩
theorem la.map{p q:Nat->Nat->Prop}(h:la p)(f:∀m d,p m d->q m d):la q:=let ⟨N,h⟩:=h;⟨N,λm d a b=>f m d (h m d a b)⟩
theorem la.nN{p q r:Nat->Nat->Prop}(h:la p)(g:la q)(f:∀m d,p m d->q m d->r m d):la r:=by
 obtain⟨N,h⟩:=h;obtain⟨M,g⟩:=g;exact⟨N+M,λm d _ _=>f m d (h m d (by omega) (by omega)) (g m d (by omega) (by omega))⟩
abbrev sF:=Perm->List Value->ae->Option (Value×ae)
structure aA where
 T:Nat->Option bg
 gv:Nat->Option sF
def aA.S(X:aA):cv->cv:=λK a f b H=>match X.gv f with
 | some g=>g a b H
 | none=>K a f b H
def aA.K(X:aA)(m d:Nat):cv:=runK X.T X.S m d
def x'(X:aA)(pm:Perm)(f:FuncId)(args:List Value)(H:ae)(v:Value)(ab:ae):Prop:=la λm d=>X.K m d pm f args H=some (v,ab)
def Call(X:aA)(pm:Perm)(f:FuncId)(args:List Value)(H:ae)(R:Value->ae->Prop):Prop:=∃v a,x' X pm f args H v a/\R v a
abbrev bn:=List (Nat×Value)
def aF(k:Nat):bn->Option Value
 | []=>none
 | (j,v)::l=>bif Nat.beq k j then some v else aF k l
def iT(e:Env)(l:bn):Prop:=∀k v,aF k l=some v->e.get k=some v
def jC:bn->Env
 | []=>.ag
 | (k,v)::l=>(jC l).set v k
theorem Ra(l:bn)(k:Nat):(jC l).get k=aF k l:=by
 induction l with
 | nil=>rfl
 | cons p l ih=>
   obtain⟨_,_⟩:=p;simp only[jC,b6.lS,aF,dc,ih];grind
def kk(l:bn)(d:Option Nat)(v:Value):bn:=match d with
 | some d=>(d,v)::l
 | none=>l
theorem iT.put{e:Env}{l:bn}(h:iT e l)(d:Option Nat)(v:Value):iT (putDst e d v) (kk l d v):=by
 cases d with
 | none=>exact h
 | some d=>
   intro k u a;simp only[kk,aF,dc]at a;simp only[putDst,b6.lS];by_cases b:k=d
   ·grind
   ·simp only[b,decide_false,cond_false]at a;simp only[b,if_false];exact h k u a
def Sub:bn->bn->Prop
 | [],_=>True
 | (k,v)::L,l=>aF k l=some v/\Sub L l
theorem Sub.aF{L l:bn}(h:Sub L l){k:Nat}{v:Value}(e:aF k L=some v):aF k l=some v:=by
 induction L with
 | nil=>cases e
 | cons p L ih=>
   obtain⟨j,_⟩:=p;simp only[Dam.aF,dc]at e;by_cases a:k=j
   ·subst a;simp only[decide_true,cond_true,aJ]at e;subst e;exact h.1
   ·simp only[a,decide_false,cond_false]at e;exact ih h.2 e
theorem iT.sub{e:Env}{L l:bn}(h:iT e l)(a:Sub L l):iT e L:=λk v b=>h k v (a.aF b)
def k'(e a:Env):Prop:=∀k v,e.get k=some v->a.get k=some v
theorem iT.rk{e:Env}{l:bn}(h:iT e l):k' (jC l) e:=λk v a=>h k v (by rwa [Ra]at a)
theorem k'.a7{e a:Env}(h:k' e a){r:b0}{v:Value}(q:a7 e r=some v):a7 a r=some v:=by
 cases r with
 | t n=>exact h n v q
 | c _=>exact q
theorem k'.eO{e b:Env}(h:k' e b):∀{a:List b0} {aq:List Value},eO e a=some aq->eO b a=some aq
 | [],_,q=>q
 | r::a,aq,q=>by
   simp only[Dam.eO]at q|-
   cases c:Dam.a7 e r with
   | none=>grind
   | some _=>
     rw[c]at q
     cases d:Dam.eO e a with
     | none=>grind
     | some _=>simp only[d]at q;simp only[h.a7 c,h.eO d];exact q
theorem k'.parts{e b:Env}(h:k' e b):∀{a:List (Nat×Nat×b0)} {aq:List (Nat×Nat×Value)},kK e a=some aq->kK b a=some aq
 | [],_,q=>q
 | (_,_,r)::a,aq,q=>by
   simp only[Dam.kK]at q|-
   cases c:Dam.a7 e r with
   | none=>grind
   | some _=>
     rw[c]at q
     cases d:Dam.kK e a with
     | none=>grind
     | some _=>simp only[d]at q;simp only[h.a7 c,h.parts d];exact q
theorem k'.c8{e b:Env}(h:k' e b){r:b0}{n:Nat}(q:Dam.c8 (Dam.a7 e r)=some n):Dam.c8 (Dam.a7 b r)=some n:=by
 cases a:Dam.a7 e r with
 | none=>rw[a]at q;cases q
 | some _=>rw[a]at q;rw[h.a7 a];exact q
theorem k'.ed{e a:Env}(h:k' e a){d n:Nat}{o:Option b0}(q:Dam.ed e d o=some n):Dam.ed a d o=some n:=by
 cases o with
 | none=>exact q
 | some _=>exact h.c8 q
def k9(a b:bf):Prop:=(∀(c:Perm) (H:ae),a.run c H=none)∨b=a
theorem k9.refl(a:bf):k9 a a:=.inr rfl
theorem k9.fail(b:bf):k9 .fail b:=.inl λ_ _=>rfl
theorem k9.on{e a:Env}(h:k' e a)(r:b0)(f:Option Value->bf)(b:f none=.fail):k9 (f (Dam.a7 e r)) (f (Dam.a7 a r)):=by
 cases q:a7 e r with
 | none=>rw[b];exact .fail _
 | some _=>rw[h.a7 q];exact .refl _
theorem k9.oU{e a:Env}(h:k' e a)(r s:b0)(f:Option Value->Option Value->bf)(b7:∀y,f none y=.fail)(cH:∀x,f x none=.fail):k9 (f (a7 e r) (a7 e s)) (f (a7 a r) (a7 a s)):=by
 cases q:a7 e r with
 | none=>rw[b7];exact .fail _
 | some _=>
   cases b:a7 e s with
   | none=>rw[cH];exact .fail _
   | some _=>rw[h.a7 q,h.a7 b];exact .refl _
theorem k9.iP{e a:Env}(h:k' e a)(r:b0)(k:Value->bf):k9 (dC (Dam.a7 e r) k) (dC (Dam.a7 a r) k):=.on h r (λy=>dC y k) rfl
theorem k9.run{a b:bf}(h:k9 a b){pm:Perm}{H:ae}{r:Value×ae}(q:a.run pm H=some r):b.run pm H=some r:=by
 rcases h with h | rfl
 ·grind
 ·exact q
theorem k9.runT{a b:bf}(h:k9 a b){pm:Perm}{H:ae}{r:Value×ae×List Nat×List Nat}(q:a.runT pm H=some r):b.runT pm H=some r:=by
 rcases h with h | rfl
 ·obtain⟨_,_,_,_⟩:=r;have:=Ss q;grind
 ·exact q
theorem OI{e u:Env}(h:k' e u)(o:bh):k9 (o.J e) (o.J u):=by
 cases o
 case dw x=>exact .on h x gx rfl
 case pick j a b=>
  simp only[bh.J]
  cases o:a7 e j with
  | none=>exact .fail _
  | some v=>
    rw[h.a7 o];simp only[dC];split
    ·exact .on h a gx rfl
    ·exact .on h b gx rfl
    ·exact .fail _
 case alloc=>exact .refl _
 case box B x=>exact .iP h x _
 case build z q=>
  simp only[bh.J]
  cases o:kK e q with
  | none=>exact .fail _
  | some l=>rw[h.parts o];exact .refl _
 case buildSlice z c w q=>
  simp only[bh.J]
  cases o:kK e q with
  | none=>exact .fail _
  | some l=>rw[h.parts o];exact .refl _
 case load r n a=>exact .on h a (mr r n) rfl
 case store n a x=>
  refine .oU h a x (nH n) (λy=>rfl) (λx=>?_);unfold nH;grind
 case nilCheck x=>exact .iP h x _
 case bin A k x y=>exact .oU h x y (λa b=>dC a λa=>dC b λb=>gx (binOp A k a b)) (λ_=>rfl) (λx=>by cases x<;>rfl)
 case un A x=>exact .iP h x _
 case conv j x=>exact .iP h x _
 case CB B x=>exact .iP h x _
 case uM _ l=>
  simp only[bh.J]
  cases o:eO e l with
  | none=>exact .fail _
  | some l=>rw[h.eO o];exact .refl _
 case mkMap=>exact .refl _
 case mkSlice z p l j=>
  simp only[bh.J]
  cases o:c8 (a7 e l) with
  | none=>exact .fail _
  | some v=>
    cases C:c8 (a7 e j) with
    | none=>exact .fail _
    | some _=>rw[h.c8 o,h.c8 C];exact .refl _
 case k2 x d f=>
  simp only[bh.J]
  cases o:a7 e x with
  | none=>exact .fail _
  | some v=>
    cases C:ed e 0 d with
    | none=>cases v<;>exact .fail _
    | some n=>
      rw[h.a7 o,h.ed C];cases v<;>first | (exact .fail _) | skip
      rename_i s;simp only[oE]
      cases D:ed e s.size f with
      | none=>exact .fail _
      | some _=>rw[h.ed D];exact .refl _
 case ji c x d f E=>
  simp only[bh.J]
  cases o:a7 e x with
  | none=>exact .fail _
  | some v=>
    rw[h.a7 o];simp only[dC];cases v<;>first | (exact .fail _) | skip
    rename_i a w F;simp only
    cases C:ed e 0 d with
    | none=>exact .fail _
    | some n=>
      cases D:ed e w f with
      | none=>exact .fail _
      | some _=>
        cases G:ed e F E with
        | none=>exact .fail _
        | some _=>rw[h.ed C,h.ed D,h.ed G];exact .refl _
 case Al n c x d f=>
  simp only[bh.J]
  cases o:a7 e x with
  | none=>exact .fail _
  | some v=>
    rw[h.a7 o];cases v<;>first | (exact .fail _) | skip
    rename_i a;cases a<;>first | (exact .fail _) | skip
    cases C:ed e 0 d with
    | none=>exact .fail _
    | some _=>
      cases D:ed e n f with
      | none=>exact .fail _
      | some _=>rw[h.ed C,h.ed D];exact .refl _
 case fieldAddr H x=>exact .iP h x _
 case field r H n x=>exact .iP h x _
 case lV c x i=>
  simp only[bh.J]
  cases o:a7 e x with
  | none=>exact .fail _
  | some v=>
    cases C:c8 (a7 e i) with
    | none=>cases v<;>first | exact .fail _ | (rename_i a _ _;cases a<;>exact .fail _)
    | some _=>rw[h.a7 o,h.c8 C];exact .refl _
 case uH n c x i=>
  simp only[bh.J]
  cases o:a7 e x with
  | none=>exact .fail _
  | some v=>
    cases C:c8 (a7 e i) with
    | none=>cases v<;>first | exact .fail _ | (rename_i a;cases a<;>exact .fail _)
    | some _=>rw[h.a7 o,h.c8 C];exact .refl _
 case mB x i=>
  simp only[bh.J]
  cases o:a7 e x with
  | none=>exact .fail _
  | some v=>
    cases C:c8 (a7 e i) with
    | none=>cases v<;>exact .fail _
    | some _=>rw[h.a7 o,h.c8 C];exact .refl _
 case Cn r n c x i=>
  simp only[bh.J]
  cases o:a7 e x with
  | none=>exact .fail _
  | some v=>
    cases C:c8 (a7 e i) with
    | none=>cases v<;>exact .fail _
    | some _=>rw[h.a7 o,h.c8 C];exact .refl _
 case lookup g z I x k=>exact .oU h k x (λa b=>dC a λa=>ur g z I a b) (λ_=>rfl) (λx=>by cases x<;>rfl)
 case mapUpdate g m k x=>
  simp only[bh.J]
  cases o:a7 e k with
  | none=>exact .fail _
  | some v=>rw[h.a7 o];exact .oU h x m (λa b=>dC a λa=>B6 g v a b) (λ_=>rfl) (λx=>by cases x<;>rfl)
 case mapEntry g z m k=>exact .oU h k m (λa b=>dC a λa=>B3 g z a b) (λ_=>rfl) (λx=>by cases x<;>rfl)
 case entryStore m s x=>
  simp only[bh.J]
  cases o:c8 (a7 e s) with
  | none=>exact .fail _
  | some v=>rw[h.c8 o];exact .oU h x m (λa b=>dC a λa=>B5 v a b) (λ_=>rfl) (λx=>by cases x<;>rfl)
 case z6 x=>exact .iP h x _
 case zp J=>exact .on h J B4 rfl
 case extract x i=>exact .iP h x _
 case len k x=>exact .on h x (sU k) (by cases k<;>rfl)
 case append c p s x=>exact .oU h x s (λa b=>dC a λx=>dC b λs=>fz c x λK n=>fj c p s K n) (λ_=>rfl) (λx=>by cases x<;>rfl)
 case vM L p s x=>exact .oU h x s (λa b=>dC a λx=>dC b λs=>B0 L p s x) (λ_=>rfl) (λx=>by cases x<;>rfl)
 case copy c t s=>exact .oU h s t (λa b=>dC a λs=>dC b λt=>fz c s λM n=>B2 c t M n) (λ_=>rfl) (λx=>by cases x<;>rfl)
 case vW z x=>exact .on h x (y1 z) rfl
 case yM x=>exact .on h x B1 rfl
 case min2 x y=>exact .oU h x y (mu false) (λ_=>by rfl) (λx=>by cases x<;>first | rfl | (rename_i v;cases v<;>rfl))
 case max2 x y=>exact .oU h x y (mu true) (λ_=>by rfl) (λx=>by cases x<;>first | rfl | (rename_i v;cases v<;>rfl))
 case call=>exact .refl _
 case ka=>exact .refl _
 case bad=>exact .refl _
inductive Fr where
 | seq (b:aG)
 | bj (id:Nat)
inductive nn where
 | code (c:aG)
 | ops (os:List aE)
 | res (x:e1)
abbrev cl:=e1->bn->ae->Prop
section
variable(X:aA)(pm:Perm)
def ez(x:e1)(e:Env)(H:ae):List Fr->cl->Prop
 | [],Q=>∃l,iT e l/\Q x l H
 | .seq f::a,Q=>match x with
   | .normal=>∃b c d,la (λm g=>eval (X.K m g) pm m f e H=some (b,c,d))/\ez b c d a Q
   | x=>ez x e H a Q
 | .bj id::a,Q=>match x with
   | .exit i=>if i=id then ez .normal e H a Q else ez (.exit i) e H a Q
   | x=>ez x e H a Q
def Sem(c:nn)(e:Env)(H:ae)(aD:List Fr)(Q:cl):Prop:=match c with
 | .code c=>∃a b d,la (λm f=>eval (X.K m f) pm m c e H=some (a,b,d))/\ez X pm a b d aD Q
 | .ops c=>∃a b,la (λm d=>ke (X.K m d) pm c e H=some (a,b))/\ez X pm .normal a b aD Q
 | .res x=>ez X pm x e H aD Q
def jr(c:nn)(l:bn)(H:ae)(aD:List Fr)(Q:cl):Prop:=∀e,iT e l->Sem X pm c e H aD Q
def al(o:aE)(f:FuncId)(args:List b0)(os:List aE)(l:bn)(H:ae)(aD:List Fr)(Q:cl):Prop:=
 jr X pm (.ops ({o with op:=.call f args}::os)) l H aD Q
def vt(o:aE)(f:b0)(args:List b0)(os:List aE)(l:bn)(H:ae)(aD:List Fr)(Q:cl):Prop:=
 jr X pm (.ops ({o with op:=.ka f args}::os)) l H aD Q
def fh(b:aG)(l:bn)(H:ae)(aD:List Fr)(Q:cl):Prop:=jr X pm (.code (.loop b)) l H aD Q
def cx(os:List aE)(a:Option lK)(l:bn)(H:ae)(aD:List Fr)(Q:cl):Prop:=jr X pm (.code (.draw os a)) l H aD Q
def aG.aV:aG->Nat
 | .skip | .exit _ | .ret | .bad _=>2
 | .bs os | .draw os _=>os.length+3
 | .seq a b=>a.aV+b.aV+3
 | .cond _ a b=>a.aV+b.aV+3
 | .block _ b=>b.aV+3
 | .loop b=>b.aV+3
def Fr.aV:Fr->Nat
 | .seq b=>b.aV+1
 | .bj _=>1
def JG:List Fr->Nat
 | []=>0
 | k::a=>k.aV+JG a
def nn.aV:nn->Nat
 | .code c=>c.aV
 | .ops a=>a.length+2
 | .res _=>1
def kN(o:aE)(l:bn):Option Bool:=match o.guard with
 | none=>some true
 | some (j,a)=>match aF j l with
   | some (.bool b)=>some (b==a)
   | some _=>some false
   | none=>none
def DS(o:aE)(l:bn)(H:ae):Option (Value×ae):=match kN o l with
 | some true=>(o.op.J (jC l)).run pm H
 | some false=>some (aR,H)
 | none=>none
def zf:bh->Bool
 | .call .. | .ka ..=>true
 | _=>false
def wp(c:nn)(l:bn)(H:ae)(aD:List Fr)(Q:cl):Prop:=match c with
 | .code .skip=>wp (.res .normal) l H aD Q
 | .code (.bs a)=>wp (.ops a) l H aD Q
 | .code (.draw a b)=>cx X pm a b l H aD Q
 | .code (.seq a b)=>wp (.code a) l H (.seq b::aD) Q
 | .code (.cond c a b)=>match a7 (jC l) c with
   | some (.bool t)=>(t=true->wp (.code a) l H aD Q)/\(t=false->wp (.code b) l H aD Q)
   | _=>False
 | .code (.block id b)=>wp (.code b) l H (.bj id::aD) Q
 | .code (.loop b)=>fh X pm b l H aD Q
 | .code (.exit id)=>wp (.res (.exit id)) l H aD Q
 | .code .ret=>wp (.res .ret) l H aD Q
 | .code (.bad _)=>False
 | .ops []=>wp (.res .normal) l H aD Q
 | .ops (o::a)=>match o.op with
   | .call f b=>al X pm o f b a l H aD Q
   | .ka f b=>vt X pm o f b a l H aD Q
   | _=>match DS pm o l H with
     | some (v,b)=>wp (.ops a) (kk l o.dst v) b aD Q
     | none=>False
 | .res x=>match aD with
   | []=>Q x l H
   | .seq b::aD=>match x with
     | .normal=>wp (.code b) l H aD Q
     | x=>wp (.res x) l H aD Q
   | .bj id::aD=>match x with
     | .exit i=>if i=id then wp (.res .normal) l H aD Q else wp (.res (.exit i)) l H aD Q
     | x=>wp (.res x) l H aD Q
termination_by c.aV+JG aD
decreasing_by all_goals (simp_wf;simp[nn.aV,aG.aV,JG,Fr.aV];try omega)
end
section
variable{X:aA}{pm:Perm}
theorem Sem.bs{os:List aE}{e:Env}{H:ae}{aD:List Fr}{Q:cl}(h:Sem X pm (.ops os) e H aD Q):Sem X pm (.code (.bs os)) e H aD Q:=by
 obtain⟨a,b,c,d⟩:=h;exact⟨.normal,a,b,c.map λ_ _ q=>by simp only[eval,q],d⟩
theorem Sem.seq{a b:aG}{e:Env}{H:ae}{aD:List Fr}{Q:cl}(h:Sem X pm (.code a) e H (.seq b::aD) Q):Sem X pm (.code (.seq a b)) e H aD Q:=by
 obtain⟨x,c,d,a,b⟩:=h
 cases x with
 | normal=>
   obtain⟨e,f,g,h,i⟩:=b;exact⟨e,f,g,a.nN h λ_ _ p q=>by simp only[eval,p,q],i⟩
 | exit i=>exact⟨.exit i,c,d,a.map λ_ _ p=>by simp only[eval,p],b⟩
 | ret=>exact⟨.ret,c,d,a.map λ_ _ p=>by simp only[eval,p],b⟩
theorem Sem.block{id:Nat}{b:aG}{e:Env}{H:ae}{aD:List Fr}{Q:cl}(h:Sem X pm (.code b) e H (.bj id::aD) Q):Sem X pm (.code (.block id b)) e H aD Q:=by
 obtain⟨x,b,c,d,a⟩:=h
 cases x with
 | normal=>exact⟨.normal,b,c,d.map λ_ _ p=>by simp only[eval,p],a⟩
 | ret=>exact⟨.ret,b,c,d.map λ_ _ p=>by simp only[eval,p],a⟩
 | exit i=>
   simp only[ez]at a;by_cases e:i=id
   ·rw[aL e]at a;exact⟨.normal,b,c,d.map λ_ _ p=>by simp only[eval,p,dc,e,decide_true,cond_true],a⟩
   ·rw[aw e]at a;exact⟨.exit i,b,c,d.map λ_ _ p=>by simp only[eval,p,dc,e,decide_false,cond_false],a⟩
theorem ps{e:Env}{l:bn}(h:iT e l){o:aE}{b:Bool}(q:kN o l=some b):o.wanted e=some b:=by
 unfold kN at q;unfold aE.wanted;split at q
 ·grind
 ·rename_i j _ a;rw[a];simp only
  cases b:aF j l with
  | none=>grind
  | some v=>rw[h j v b];grind
theorem Sy{K:cv}{e:Env}{H:ae}:∀{o:bh},zf o=false->o.run K pm e H=(o.J e).run pm H:=by
 intro o h;cases o<;>first | rfl | cases h
theorem nj{c:nn}{l:bn}{H:ae}{aD:List Fr}{Q:cl}:wp X pm c l H aD Q->jr X pm c l H aD Q:=by
 fun_induction wp X pm c l H aD Q with
 | case1 l H aD ih=>exact λh e a=>⟨.normal,e,H,.of λ_ _=>rfl,ih h e a⟩
 | case2 l H aD _ ih=>exact λh e a=>(ih h e a).bs
 | case3=>exact λh=>h
 | case4 l H aD _ _ ih=>exact λh e a=>(ih h e a).seq
 | case5 l H aD c _ _ t a d f=>
   intro h e b;have a:=b.rk.a7 a
   cases t with
   | true=>
     obtain⟨x,c,g,i,j⟩:=d (h.1 rfl) e b;exact⟨x,c,g,i.map λ_ _ p=>by simp only[eval,a,p],j⟩
   | false=>
     obtain⟨x,c,g,i,j⟩:=f (h.2 rfl) e b;exact⟨x,c,g,i.map λ_ _ p=>by simp only[eval,a,p],j⟩
 | case6=>grind
 | case7 l H aD id _ ih=>exact λh e a=>(ih h e a).block
 | case8=>exact λh=>h
 | case9 l H aD id ih=>exact λh e a=>⟨.exit id,e,H,.of λ_ _=>rfl,ih h e a⟩
 | case10 l H aD ih=>exact λh e a=>⟨.ret,e,H,.of λ_ _=>rfl,ih h e a⟩
 | case11=>grind
 | case12 l H aD ih=>exact λh e a=>⟨e,H,.of λ_ _=>rfl,ih h e a⟩
 | case13 l H aD o _ f b a=>
   intro h e c;have:({o with op:=.call f b}:aE)=o:=by cases o;simp only at a;subst a;rfl
   unfold al at h;rw[this]at h;exact h e c
 | case14 l H aD o _ f b a=>
   intro h e c;have:({o with op:=.ka f b}:aE)=o:=by cases o;simp only at a;subst a;rfl
   unfold vt at h;rw[this]at h;exact h e c
 | case15 l H aD o _ v c a _ _ ih=>
   intro h e b;have d:zf o.op=false:=by
    cases r:o.op<;>first | rfl | grind | grind
   obtain⟨f,g,i,j⟩:=ih h _ (b.put o.dst v);refine⟨f,g,i.map λm k p=>?_,j⟩;have l:o.run (X.K m k) pm e H=some (v,c):=by
    unfold DS at a;unfold aE.run;split at a
    ·rename_i n;rw[ps b n];simp only;rw[Sy d];exact(OI b.rk _).run a
    ·rename_i q;rw[ps b q];exact a
    ·cases a
   simp only[ke,l,p]
 | case16=>grind
 | case17 l H _=>exact λh _ a=>⟨l,a,h⟩
 | case18 l H _ aD ih=>exact λh e a=>ih h e a
 | case19 l H _ aD x _ ih=>
   intro h e a;have:=ih h e a
   cases x with
   | normal=>grind
   | exit _=>exact this
   | ret=>exact this
 | case20 l H id aD ih=>
   intro h e a;have:=ih h e a;simp only[Sem,ez]at this|-;grind
 | case21 l H id aD _ _ ih=>
   intro h e a;have:=ih h e a;simp only[Sem,ez]at this|-;grind
 | case22 l H id aD x _ ih=>
   intro h e a;have:=ih h e a
   cases x with
   | normal=>exact this
   | exit _=>grind
   | ret=>exact this
end
end Go.Dam
namespace Go.Dam
open Go
section
variable{X:aA}{pm:Perm}
theorem al.of{o:aE}{f:FuncId}{args:List b0}{os:List aE}{l:bn}{H:ae}{aD:List Fr}{Q:cl}{aq:List Value}{R:Value->ae->Prop}
 (h:Call X pm f aq H R) (k:∀v a,R v a->wp X pm (.ops os) (kk l o.dst v) a aD Q) (a':kN o l=some true:=by simp) (aI:eO (jC l) args=some aq:=by simp):al X pm o f args os l H aD Q:=by
 intro e b;obtain⟨v,a,c,d⟩:=h;obtain⟨g,i,j,m⟩:=nj (k v a d) _ (b.put o.dst v);refine⟨g,i,c.nN j λ_ _ p q=>?_,m⟩;have a:({o with op:=.call f args}:aE).wanted e=some true:=ps b a';have c:=b.rk.eO aI;simp only[ke,aE.run,a,bh.run,c,p,q]
theorem al.not{o:aE}{f:FuncId}{args:List b0}{os:List aE}{l:bn}{H:ae}{aD:List Fr}{Q:cl}
 (k:wp X pm (.ops os) (kk l o.dst aR) H aD Q) (a':kN o l=some false:=by simp):al X pm o f args os l H aD Q:=by
 intro e a;obtain⟨b,c,d,g⟩:=nj k _ (a.put o.dst aR);refine⟨b,c,d.map λ_ _ q=>?_,g⟩;have b:({o with op:=.call f args}:aE).wanted e=some false:=ps a a';simp only[ke,aE.run,b,q]
theorem vt.of{o:aE}{f:b0}{args:List b0}{os:List aE}{l:bn}{H:ae}{aD:List Fr}{Q:cl}{aq:List Value}{R:Value->ae->Prop}{g:FuncId}{c2 cs:Array Value}
 (a':kN o l=some true) (c:a7 (jC l) f=some (.func (.func g) c2 cs)) (aI:eO (jC l) args=some aq) (h:Call X pm g (aq++cs.toList) H R)
 (k:∀v a,R v a->wp X pm (.ops os) (kk l o.dst v) a aD Q):vt X pm o f args os l H aD Q:=by
 intro e b;obtain⟨v,a,d,i⟩:=h;obtain⟨j,m,n,p⟩:=nj (k v a i) _ (b.put o.dst v);refine⟨j,m,d.nN n λ_ _ a q=>?_,p⟩;have d:({o with op:=.ka f args}:aE).wanted e=some true:=ps b a';have e:=b.rk.eO aI;have c:=b.rk.a7 c;simp only[ke,aE.run,d,bh.run,c,e,a,q]
def kt{σ:Type}(L:σ->bn)(I:σ->ae->Prop)(μ:σ->Nat)(s:σ)(l:bn)(H:ae):Prop:=∃a,μ a<μ s/\Sub (L a) l/\I a H
theorem kt.of{σ:Type}{L:σ->bn}{I:σ->ae->Prop}{μ:σ->Nat}{s:σ}{l:bn}{H:ae}(a:σ)(h:μ a<μ s)(b:Sub (L a) l)(c:I a H):kt L I μ s l H:=⟨a,h,b,c⟩
theorem fh.of{σ:Type}{b:aG}{l:bn}{H:ae}{aD:List Fr}{Q:cl}(L:σ->bn)(I:σ->ae->Prop)(μ:σ->Nat)(h:σ)(j:Sub (L h) l)(o:I h H)
 (i:∀s H,I s H->wp X pm (.code b) (L s) H [] λx aU ab=>match x with
  | .normal=>kt L I μ s aU ab
  | x=>wp X pm (.res x) aU ab aD Q):fh X pm b l H aD Q:=by
 have p:∀n s e H,μ s<=n->iT e (L s)->I s H->∃x a ab,(la λm d=>∀k,n+1<=k->iter (eval (X.K m d) pm m b) k e H=some (x,a,ab))/\ez X pm x a ab aD Q:=by
  intro n
  induction n with
  | zero=>
    intro s e H _ g l;obtain⟨x,a,ab,f,aU,c,b⟩:=nj (i s H l) e g
    cases x with
    | normal=>obtain⟨_,_,_⟩:=b;omega
    | exit q=>exact⟨.exit q,a,ab,f.map λm d r k _=>by obtain⟨k,rfl⟩:∃l,k=l+1:=⟨k-1,by omega⟩;simp only[iter,r],nj b a c⟩
    | ret=>exact⟨.ret,a,ab,f.map λm d q k _=>by obtain⟨k,rfl⟩:∃l,k=l+1:=⟨k-1,by omega⟩;simp only[iter,q],nj b a c⟩
  | succ n ih=>
    intro s e H _ g l;obtain⟨x,a,ab,f,aU,c,b⟩:=nj (i s H l) e g
    cases x with
    | normal=>
      obtain⟨i,_,l,n⟩:=b;obtain⟨q,r,s,t,u⟩:=ih i a ab (by omega) (c.sub l) n;exact⟨q,r,s,f.nN t λm d v _ k _=>by obtain⟨k,rfl⟩:∃i,k=i+1:=⟨k-1,by omega⟩;simp only[iter,v];grind,u⟩
    | exit q=>exact⟨.exit q,a,ab,f.map λm d r k _=>by obtain⟨k,rfl⟩:∃i,k=i+1:=⟨k-1,by omega⟩;simp only[iter,r],nj b a c⟩
    | ret=>exact⟨.ret,a,ab,f.map λm d q k _=>by obtain⟨k,rfl⟩:∃i,k=i+1:=⟨k-1,by omega⟩;simp only[iter,q],nj b a c⟩
 intro e g;obtain⟨x,a,ab,⟨N,f⟩,c⟩:=p _ h e H (bc _) (g.sub j) o;exact⟨x,a,ab,⟨N+(μ h+1),λm d _ _=>by simp only[eval];grind⟩,c⟩
def ub:List Value->Nat->bn->bn
 | [],_,l=>l
 | v::a,n,l=>ub a (n+1) ((n,v)::l)
theorem Nd:∀(aq:List Value) (n:Nat) (e:Env) (l:bn),iT e l->iT (pV aq n e) (ub aq n l)
 | [],_,_,_,h=>h
 | v::aq,n,_,_,h=>Nd aq (n+1) _ _ (h.put (some n) v)
def kn(l:bn)(H:ae):List n'->Option (List Value)
 | []=>some []
 | r::a=>match (match r with | .slot t=>aF t l | .cell t g n=>ft H g n (aF t l)) with
   | some v=>(match kn l H a with | some l=>some (v::l) | none=>none)
   | none=>none
theorem iT.res{e:Env}{l:bn}(h:iT e l){H:ae}:∀{a:List n'} {aq:List Value},kn l H a=some aq->lE e H a=some aq
 | [],_,q=>q
 | r::a,aq,q=>by
   simp only[kn]at q;simp only[lE]
   cases r with
   | slot t=>
     simp only at q|-
     cases b:aF t l with
     | none=>grind
     | some v=>
       rw[b]at q;rw[h t v b]
       cases c:kn l H a with
       | none=>grind
       | some l=>simp only[c]at q;simp only[h.res c];exact q
   | cell t g n=>
     simp only at q|-
     cases b:aF t l with
     | none=>rw[b]at q;simp[ft]at q
     | some v=>
       rw[b]at q;rw[h t v b]
       cases d:ft H g n (some v) with
       | none=>grind
       | some _=>
         rw[d]at q;simp only at q|-
         cases c:kn l H a with
         | none=>grind
         | some l=>simp only[c]at q;simp only[h.res c];exact q
theorem Call.func{f:FuncId}{args:List Value}{H:ae}{R:Value->ae->Prop}{F:bg}(b:X.gv f=none)(c:X.T f=some F)(e:args.length<=F.kh)
 (h:wp X pm (.code F.body) (ub args 0 []) H [] λx l ab=>(x=.normal∨x=.ret)/\∃aq,kn l ab F.res=some aq/\R (iw aq) ab):Call X pm f args H R:=by
 obtain⟨x,g,ab,⟨N,a⟩,_,i,_,aq,j,k⟩:=nj h _ (Nd args 0 .ag [] λ_ _ n=>by cases n);refine⟨iw aq,ab,⟨N+1,λm d _ _=>?_⟩,k⟩;obtain⟨d,rfl⟩:∃k,d=k+1:=⟨d-1,by omega⟩;have a:=a m d (by omega) (by omega);have k:∀(K:cv),X.S K pm f args H=K pm f args H:=λK=>by unfold aA.S;rw[b]
 simp only[aA.K,runK];rw[k];simp only[c];unfold wc;have b:(!Nat.ble args.length F.kh)=false:=by rw[cJ];simp[e]
 rw[b];have b:=i.res j;have b:eval (runK X.T X.S m d) pm m F.body (pV args 0 .ag) H=some (x,g,ab):=a;grind
theorem Call.over{f:FuncId}{args:List Value}{H ab:ae}{v:Value}{R:Value->ae->Prop}{g:sF}(a:X.gv f=some g)(a':g pm args H=some (v,ab))(h:R v ab):Call X pm f args H R:=by
 refine⟨v,ab,⟨1,λ_ d _ _=>?_⟩,h⟩;obtain⟨d,rfl⟩:∃j,d=j+1:=⟨d-1,by omega⟩;simp only[aA.K,runK];unfold aA.S;grind
theorem Call.mono{f:FuncId}{args:List Value}{H:ae}{R a:Value->ae->Prop}(h:Call X pm f args H R)(g:∀v ab,R v ab->a v ab):Call X pm f args H a:=
 let ⟨v,ab,a,b⟩:=h;⟨v,ab,a,g v ab b⟩
end
class bL where
 s:Nat->Prop
variable[bL]
structure ck(pm:Perm)(H:ae):Prop where
 num:pm.num=none
 ah:pm.ah<=H.next
 wf:∀b,H.next<=b->H.get b=none
 new:∀b,H.next<=b->bL.s b
theorem ck.lt{pm:Perm}{H:ae}(h:ck pm H){b:Nat}{x:bz}(e:H.get b=some x):b<H.next:=by
 apply o3;intro _;rw[h.wf b (by omega)]at e;cases e
theorem ck.may{pm:Perm}{H:ae}(h:ck pm H){b:Nat}(a:H.next<=b):pm.may b=true:=by
 unfold Perm.may;rw[cJ];have:pm.ah<=b:=a8 h.ah a;simp[this]
structure bx(pm:Perm)(H ab:ae):Prop where
 ok:ck pm ab
 next:H.next<=ab.next
 get:∀b,b<H.next->ab.get b=H.get b
theorem bx.refl{pm:Perm}{H:ae}(h:ck pm H):bx pm H H:=⟨h,bc _,λ_ _=>rfl⟩
theorem bx.trans{pm:Perm}{H ab a:ae}(h:bx pm H ab)(g:bx pm ab a):bx pm H a:=
 ⟨g.ok,a8 h.next g.next,λb a=>(g.get b (fK a h.next)).trans (h.get b a)⟩
theorem bx.new{pm:Perm}{H ab:ae}(h:bx pm H ab)(x:bz):bx pm H (ab.new x) where
 ok:=⟨h.ok.num,a8 h.ok.ah (rQ _),λb a=>by
  have a:ab.next+1<=b:=a;rw[ae.mw,aw (by omega)];exact h.ok.wf b (by omega),λb a=>h.ok.new b (Nat.le_of_succ_le a)⟩
 next:=a8 h.next (rQ _)
 get:=λb a=>by rw[ae.mw,aw (by have:=h.next;omega)];exact h.get b a
theorem bx.put{pm:Perm}{H ab:ae}(h:bx pm H ab){b:Nat}{y:bz}(d:H.next<=b)(e:ab.get b=some y)(x:bz):bx pm H (ab.put b x) where
 ok:=⟨h.ok.num,h.ok.ah,λc a=>by
  have a:ab.next<=c:=a;have:=h.ok.lt e;rw[ae.eP,aw (by omega)];exact h.ok.wf c a,λb d=>h.ok.new b d⟩
 next:=h.next
 get:=λc a=>by rw[ae.eP,aw (by omega)];exact h.get c a
theorem bx.some{pm:Perm}{H ab:ae}(h:bx pm H ab)(a:ck pm H){b:Nat}{x:bz}(e:H.get b=some x):ab.get b=some x:=by rw[h.get b (a.lt e)];exact e
end Go.Dam
namespace Go.Dam
open Go
section
variable{X:aA}{pm:Perm}
@[simp] theorem wp_skip{l:bn}{H:ae}{aD:List Fr}{Q:cl}:wp X pm (.code .skip) l H aD Q=wp X pm (.res .normal) l H aD Q:=by rw[wp]
@[simp] theorem ad0{os:List aE}{l:bn}{H:ae}{aD:List Fr}{Q:cl}:wp X pm (.code (.bs os)) l H aD Q=wp X pm (.ops os) l H aD Q:=by rw[wp]
@[simp] theorem adX{os:List aE}{a:Option lK}{l:bn}{H:ae}{aD:List Fr}{Q:cl}:wp X pm (.code (.draw os a)) l H aD Q=cx X pm os a l H aD Q:=by rw[wp]
@[simp] theorem wp_seq{a b:aG}{l:bn}{H:ae}{aD:List Fr}{Q:cl}:wp X pm (.code (.seq a b)) l H aD Q=wp X pm (.code a) l H (.seq b::aD) Q:=by rw[wp]
@[simp] theorem wp_block{i:Nat}{b:aG}{l:bn}{H:ae}{aD:List Fr}{Q:cl}:wp X pm (.code (.block i b)) l H aD Q=wp X pm (.code b) l H (.bj i::aD) Q:=by rw[wp]
@[simp] theorem wp_loop{b:aG}{l:bn}{H:ae}{aD:List Fr}{Q:cl}:wp X pm (.code (.loop b)) l H aD Q=fh X pm b l H aD Q:=by rw[wp]
@[simp] theorem wp_exit{i:Nat}{l:bn}{H:ae}{aD:List Fr}{Q:cl}:wp X pm (.code (.exit i)) l H aD Q=wp X pm (.res (.exit i)) l H aD Q:=by rw[wp]
@[simp] theorem wp_ret{l:bn}{H:ae}{aD:List Fr}{Q:cl}:wp X pm (.code .ret) l H aD Q=wp X pm (.res .ret) l H aD Q:=by rw[wp]
@[simp] theorem adY{l:bn}{H:ae}{aD:List Fr}{Q:cl}:wp X pm (.ops []) l H aD Q=wp X pm (.res .normal) l H aD Q:=by rw[wp]
@[simp] theorem J0{x:e1}{l:bn}{H:ae}{Q:cl}:wp X pm (.res x) l H [] Q=Q x l H:=by rw[wp]
@[simp] theorem ad1{b:aG}{l:bn}{H:ae}{aD:List Fr}{Q:cl}:wp X pm (.res .normal) l H (.seq b::aD) Q=wp X pm (.code b) l H aD Q:=by rw[wp]
@[simp] theorem J1{i:Nat}{b:aG}{l:bn}{H:ae}{aD:List Fr}{Q:cl}:wp X pm (.res (.exit i)) l H (.seq b::aD) Q=wp X pm (.res (.exit i)) l H aD Q:=by rw[wp];intro h;cases h
@[simp] theorem Ec{b:aG}{l:bn}{H:ae}{aD:List Fr}{Q:cl}:wp X pm (.res .ret) l H (.seq b::aD) Q=wp X pm (.res .ret) l H aD Q:=by rw[wp];intro h;cases h
@[simp] theorem JZ{i:Nat}{l:bn}{H:ae}{aD:List Fr}{Q:cl}:wp X pm (.res .normal) l H (.bj i::aD) Q=wp X pm (.res .normal) l H aD Q:=by rw[wp];intro i h;cases h
@[simp] theorem Eb{i:Nat}{l:bn}{H:ae}{aD:List Fr}{Q:cl}:wp X pm (.res .ret) l H (.bj i::aD) Q=wp X pm (.res .ret) l H aD Q:=by rw[wp];intro i h;cases h
@[simp] theorem AD{i j:Nat}{l:bn}{H:ae}{aD:List Fr}{Q:cl}:wp X pm (.res (.exit i)) l H (.bj j::aD) Q=if i=j then wp X pm (.res .normal) l H aD Q else wp X pm (.res (.exit i)) l H aD Q:=by rw[wp]
@[simp] theorem wp_cond{c:b0}{a b:aG}{l:bn}{H:ae}{aD:List Fr}{Q:cl}:wp X pm (.code (.cond c a b)) l H aD Q=(match a7 (jC l) c with
  | some (.bool t)=>(t=true->wp X pm (.code a) l H aD Q)/\(t=false->wp X pm (.code b) l H aD Q)
  | _=>False):=by rw[wp]<;>rfl
@[simp] theorem adZ{o:aE}{os:List aE}{l:bn}{H:ae}{aD:List Fr}{Q:cl}:wp X pm (.ops (o::os)) l H aD Q=(match o.op with
  | .call f args=>al X pm o f args os l H aD Q
  | .ka f args=>vt X pm o f args os l H aD Q
  | _=>match DS pm o l H with
    | some (v,ab)=>wp X pm (.ops os) (kk l o.dst v) ab aD Q
    | none=>False):=by rw[wp]<;>rfl
end
@[simp] theorem adz(l:bn)(k:Nat):(jC l).get k=aF k l:=Ra l k
@[simp] theorem HG(k j:Nat)(v:Value)(l:bn):aF k ((j,v)::l)=if k=j then some v else aF k l:=by
  simp only[aF,dc];by_cases h:k=j<;>simp[h]
@[simp] theorem adm(k:Nat):aF k []=none:=rfl
@[simp] theorem ac0(e:Env)(k:Nat):a7 e (.t k)=e.get k:=rfl
@[simp] theorem acZ(e:Env)(v:Value):a7 e (.c v)=some v:=rfl
@[simp] theorem adI(l:bn)(d:Nat)(v:Value):kk l (some d) v=(d,v)::l:=rfl
@[simp] theorem adH(l:bn)(v:Value):kk l none v=l:=rfl
@[simp] theorem ac2(e:Env):eO e []=some []:=rfl
@[simp] theorem ac1(e:Env)(r:b0)(a:List b0):eO e (r::a)=(match a7 e r with | some v=>(match eO e a with | some l=>some (v::l) | none=>none) | none=>none):=rfl
@[simp] theorem acM(l:bn):Sub [] l=True:=rfl
@[simp] theorem yc(k:Nat)(v:Value)(L l:bn):Sub ((k,v)::L) l=(aF k l=some v/\Sub L l):=rfl
@[simp] theorem ac5(d:Option Nat)(x:bh)(l:bn):kN ⟨d,none,x⟩ l=some true:=rfl
@[simp] theorem ac6(d:Option Nat)(j:Nat)(b:Bool)(x:bh)(l:bn):kN ⟨d,some (j,b),x⟩ l=(match aF j l with | some (.bool c)=>some (c==b) | some _=>some false | none=>none):=rfl
@[simp] theorem adQ(pm:Perm)(o:aE)(l:bn)(H:ae):DS pm o l H=(match kN o l with
  | some true=>(o.op.J (jC l)).run pm H
  | some false=>some (aR,H)
  | none=>none):=rfl
attribute [simp] jD bh.J dC gx bf.run mr nH putRow sU rh rf ri nG oE mu fz
@[simp] theorem Sn(cs:List Value)(z:cM):rowOf (.cells cs z)=some cs:=rfl
@[simp] theorem adL(cs:List Value):rowOf (.ro cs)=some cs:=rfl
attribute [simp] rM kK ed fill iw kn ub unOp binOp w8 k4 kJ IP
@[simp] theorem ad6(k:Nat):(cM.n k).val=k:=rfl
@[simp] theorem ad7(t:TypeId):(cM.t t).val=0:=rfl
attribute [simp] Cv oF
@[simp] theorem adu(k:IntKind)(n:Nat):c8 (some (.int k (n:Int)))=some n:=rfl
@[simp] theorem adx(k:IntKind):c8 (some (.int k 0))=some 0:=rfl
@[simp] theorem adw(k:IntKind):c8 (some (.int k 1))=some 1:=rfl
@[simp] theorem adv(k:IntKind)(n:Nat):c8 (some (.int k (no_index (OfNat.ofNat n))))=some (OfNat.ofNat n):=rfl
@[simp] theorem adr(k:IntKind)(a b:Nat):c8 (some (.int k ((a:Int)+(b:Int))))=some (a+b):=rfl
@[simp] theorem ads(k:IntKind)(a:Nat):c8 (some (.int k ((a:Int)+1)))=some (a+1):=rfl
@[simp] theorem adt(k:IntKind)(a n:Nat):c8 (some (.int k ((a:Int)+(no_index (OfNat.ofNat n)))))=some (a+OfNat.ofNat n):=rfl
@[simp] theorem adM(k dy:IntKind)(a:Int)(n:Nat):tE .shl (.int k a) (.int dy (n:Int))=some (.int k (wr k (a*2^(min n k.bits)))):=rfl
@[simp] theorem adN(k dy:IntKind)(a:Int)(n:Nat):tE .shl (.int k a) (.int dy (no_index (OfNat.ofNat n)))=some (.int k (wr k (a*2^(min (OfNat.ofNat n) k.bits)))):=rfl
@[simp] theorem adO(k dy:IntKind)(a:Int)(n:Nat):tE .shr (.int k a) (.int dy (n:Int))=some (.int k (a.fdiv (2^(min n k.bits)))):=rfl
@[simp] theorem adP(k dy:IntKind)(a:Int)(n:Nat):tE .shr (.int k a) (.int dy (no_index (OfNat.ofNat n)))=some (.int k (a.fdiv (2^(min (OfNat.ofNat n) k.bits)))):=rfl
@[simp] theorem ac8(k:IntKind)(a b:Int):ha .add k a b=some (.int k (wr k (a+b))):=rfl
@[simp] theorem adi(k:IntKind)(a b:Int):ha .sub k a b=some (.int k (wr k (a-b))):=rfl
@[simp] theorem adg(k:IntKind)(a b:Int):ha .mul k a b=some (.int k (wr k (a*b))):=rfl
theorem Ha(k:IntKind)(a b:Int)(h:b≠0):ha .quo k a b=some (.int k (wr k (a.tdiv b))):=by
 show(bif hS b 0 then none else _)=_;rw[Dam.oF,show(b==0)=false by simpa using h];rfl
theorem Hb(k:IntKind)(a b:Int)(h:b≠0):ha .rem k a b=some (.int k (a.tmod b)):=by
 show(bif hS b 0 then none else _)=_;rw[Dam.oF,show(b==0)=false by simpa using h];rfl
attribute [simp] Ha Hb
@[simp] theorem ac9(k:IntKind)(a b:Int):ha .eql k a b=some (.bool (hS a b)):=rfl
@[simp] theorem adh(k:IntKind)(a b:Int):ha .neq k a b=some (.bool (!hS a b)):=rfl
@[simp] theorem adf(k:IntKind)(a b:Int):ha .lss k a b=some (.bool (jA a b)):=rfl
@[simp] theorem ade(k:IntKind)(a b:Int):ha .leq k a b=some (.bool (!jA b a)):=rfl
@[simp] theorem adb(k:IntKind)(a b:Int):ha .gtr k a b=some (.bool (jA b a)):=rfl
@[simp] theorem ada(k:IntKind)(a b:Int):ha .geq k a b=some (.bool (!jA a b)):=rfl
theorem wY{a b:Nat}  (aI:a<18446744073709551616:=by omega)(c:b<18446744073709551616:=by omega):ha .or .u64 (a:Int) (b:Int)=some (.int .u64 ((a ||| b:Nat):Int)):=by
 have h:a ||| b<18446744073709551616:=Nat.or_lt_two_pow (n:=64) aI c
 show some (Value.int .u64 (IntKind.wrap .u64 ((BitVec.ofInt 64 (a:Int) ||| BitVec.ofInt 64 (b:Int)).toNat:Int)))=_;rw[BitVec.ofInt_natCast,BitVec.ofInt_natCast,BitVec.toNat_or,BitVec.toNat_ofNat,BitVec.toNat_ofNat,n1 (by omega),n1 (by omega)];simp[IntKind.wrap,IntKind.bits,IntKind.signed];omega
theorem UY{a b:Nat}(aI:a<18446744073709551616)(c:b<18446744073709551616):ha .and .u64 (a:Int) (b:Int)=some (.int .u64 ((a &&& b:Nat):Int)):=by
 have h:a &&& b<18446744073709551616:=dk Nat.and_le_left aI;show some (Value.int .u64 (IntKind.wrap .u64 ((BitVec.ofInt 64 (a:Int) &&& BitVec.ofInt 64 (b:Int)).toNat:Int)))=_;rw[BitVec.ofInt_natCast,BitVec.ofInt_natCast,BitVec.toNat_and,BitVec.toNat_ofNat,BitVec.toNat_ofNat,n1 (by omega),n1 (by omega)];simp[IntKind.wrap,IntKind.bits,IntKind.signed];omega
theorem Z5{a b:Nat}(aI:a<4294967296)(c:b<4294967296):ha .or .u32 (a:Int) (b:Int)=some (.int .u32 ((a ||| b:Nat):Int)):=by
 have h:a ||| b<4294967296:=Nat.or_lt_two_pow (n:=32) aI c
 show some (Value.int .u32 (IntKind.wrap .u32 ((BitVec.ofInt 32 (a:Int) ||| BitVec.ofInt 32 (b:Int)).toNat:Int)))=_;rw[BitVec.ofInt_natCast,BitVec.ofInt_natCast,BitVec.toNat_or,BitVec.toNat_ofNat,BitVec.toNat_ofNat,n1 (by omega),n1 (by omega)];simp[IntKind.wrap,IntKind.bits,IntKind.signed];omega
theorem wX{a b i:Nat}(c:b<2^i):(a*2^i) ||| b=a*2^i+b:=by
 rw[eZ];exact(Nat.two_pow_add_eq_or_of_lt c a).symm
@[simp] theorem adR(a b:Nat):((a:Int)).tdiv (b:Int)=((a/b:Nat):Int):=rfl
@[simp] theorem adS(a b:Nat):((a:Int)).tmod (b:Int)=((a%b:Nat):Int):=rfl
theorem abL(a n:Nat):((a:Int)).tdiv (no_index (OfNat.ofNat n))=((a/OfNat.ofNat n:Nat):Int):=rfl
theorem ab0(a n:Nat):((a:Int)).tmod (no_index (OfNat.ofNat n))=((a%OfNat.ofNat n:Nat):Int):=rfl
attribute [simp] abL ab0
theorem Yy(a n:Nat):((no_index (OfNat.ofNat n):Int)<(a:Int))=(OfNat.ofNat n<a):=by apply propext;omega
theorem YK(a n:Nat):((a:Int)<(no_index (OfNat.ofNat n):Int))=(a<OfNat.ofNat n):=by apply propext;omega
theorem Yx(a n:Nat):((no_index (OfNat.ofNat n):Int)<=(a:Int))=(OfNat.ofNat n<=a):=by apply propext;omega
theorem Ys(a n:Nat):((a:Int)<=(no_index (OfNat.ofNat n):Int))=(a<=OfNat.ofNat n):=by apply propext;omega
theorem Ws(a n:Nat):((a:Int)=(no_index (OfNat.ofNat n):Int))=(a=OfNat.ofNat n):=by apply propext;omega
attribute [simp] Yy YK Yx Ys Ws
@[simp] theorem acQ:IntKind.bits .u64=64:=rfl
@[simp] theorem acP:IntKind.bits .u32=32:=rfl
@[simp] theorem acO:IntKind.bits .i64=64:=rfl
theorem GK(a b:Nat):((a:Int)).fdiv ((b:Nat):Int)=((a/b:Nat):Int):=by
 grind
@[simp] theorem Ca(a:Nat):((a:Int)).fdiv 4294967296=((a/4294967296:Nat):Int):=GK a 4294967296
attribute [simp] cJ hE dc Bool.cond_decide
@[simp] theorem adB(k:IntKind)(n:Int):dd (.int k n)=true:=rfl
@[simp] theorem adA(b:Bool):dd (.bool b)=true:=rfl
@[simp] theorem adE(s:ByteArray):dd (.string s)=true:=rfl
@[simp] theorem adC(a:Option Addr):dd (.pointer a)=true:=rfl
@[simp] theorem adD(a:Option Addr)(n c:Nat):dd (.slice a n c)=true:=rfl
@[simp] theorem acU(k:IntKind)(n:Int):(Value.int k n).cells=#[.int k n]:=rfl
@[simp] theorem acT(b:Bool):(Value.bool b).cells=#[.bool b]:=rfl
@[simp] theorem acX(s:ByteArray):(Value.string s).cells=#[.string s]:=rfl
@[simp] theorem acV(a:Option Addr):(Value.pointer a).cells=#[.pointer a]:=rfl
@[simp] theorem acW(a:Option Addr)(n c:Nat):(Value.slice a n c).cells=#[.slice a n c]:=rfl
@[simp] theorem acS(a:Array Value):(Value.agg a).cells=a:=rfl
@[simp] theorem acN(l:List Value):(bA l).cells=l.toArray:=rfl
theorem setCells_one{cs:List Value}{i:Nat}{v:Value}(h:i<cs.length):setCells cs i [v]=some (cs.set i v):=by
 simp only[setCells,cJ,List.length_singleton];rw[hd (by omega)];simp only[cond_true];rw[List.set_eq_take_append_cons_drop,aL h];simp
theorem aaY{cs aq:List Value}(h:cs.length=aq.length):setCells cs 0 aq=some aq:=by
 simp only[setCells,cJ];grind
@[simp] theorem acR(k:Nat):((k:Int)<0)=False:=by simp
attribute [simp] setCells_one aaY
theorem ck.pick[bL]{pm:Perm}{H:ae}(h:ck pm H)(Ut:ae):pm.pick Ut=Ut.next:=by unfold Perm.pick;rw[h.num]
theorem ck.make[bL]{pm:Perm}{H:ae}(h:ck pm H)(Ut:ae)(x:bz):pm.make Ut x=Ut.new x:=by unfold Perm.make;rw[h.num]
theorem nO[bL]{pm:Perm}{H:ae}(a:ck pm H){Ut:ae}{z:List Value}{bytes c:Nat}  (b7:c<=1073741824:=by omega)(cH:bytes*c<=17179869184:=by omega):
 (pU z bytes (some c) (some c)).run pm Ut=some (.slice (some ⟨Ut.next,0,none⟩) c c,Ut.new (.cells (times z c) (.n z.length))):=by
 unfold pU;simp[b7,cH,bf.run,a.make,a.pick]
theorem DM{pm:Perm}{H:ae}{cn l h m cap c off:Nat}{cs:List Value}{z:cM}(b:H.get c=some (.cells cs z))(a:z.val=cn∨z.val=0)(b7:l<=h)(cH:h<=m)(d:m<=cap):
 (jU cn (some ⟨c,off,none⟩) l h m cap).run pm H=some (.slice (some ⟨c,off+l*cn,none⟩) (h-l) (m-l),H):=by
 unfold jU;simp[b7,cH,d,b,bf.run]
 rcases a with a | a<;>simp[a]
theorem abf{pm:Perm}{H:ae}{cn l h m cap c off:Nat}{cs:List Value}(a:H.get c=some (.ro cs))(b7:l<=h)(cH:h<=m)(a:m<=cap):
 (jU cn (some ⟨c,off,none⟩) l h m cap).run pm H=some (.slice (some ⟨c,off+l*cn,none⟩) (h-l) (m-l),H):=by
 unfold jU;simp_all
theorem abe{pm:Perm}{H:ae}{cn l h m cap:Nat}(b7:l<=h)(cH:h<=m)(a:m<=cap):
 (jU cn none l h m cap).run pm H=some (.slice none (h-l) (m-l),H):=by
 unfold jU;simp_all
theorem sY{H:ae}{x:bz}{b:Nat}(h:b<H.next):(H.new x).get b=H.get b:=by rw[ae.mw,aw (by omega)]
@[simp] theorem cc{H:ae}{x:bz}:(H.new x).get H.next=some x:=by rw[ae.mw,aL rfl]
@[simp] theorem bO{H:ae}{x:bz}{b:Nat}:(H.put b x).get b=some x:=by rw[ae.eP,aL rfl]
theorem a6{H:ae}{x:bz}{b c:Nat}(h:c≠b):(H.put b x).get c=H.get c:=by rw[ae.eP,aw h]
@[simp] theorem ady{H:ae}{x:bz}:(H.new x).next=H.next+1:=rfl
@[simp] theorem IV{H:ae}{x:bz}{b:Nat}:(H.put b x).next=H.next:=rfl
@[simp] theorem adG(ah:Nat)(ok:List Nat)(H:ae):(Perm.mk ah ok none).pick H=H.next:=rfl
def ae.up(H:ae)(n:Nat):ae:=⟨H.t,H.next+n⟩
@[simp] theorem r4(H:ae)(n b:Nat):(H.up n).get b=H.get b:=rfl
@[simp] theorem adU(H:ae)(n:Nat):(H.up n).next=H.next+n:=rfl
theorem bx.up[bL]{pm:Perm}{H ab:ae}(h:bx pm H ab)(n:Nat):bx pm H (ab.up n) where
 ok:=⟨h.ok.num,a8 h.ok.ah (gj _ _),λb a=>by rw[r4];exact h.ok.wf b (a8 (gj _ _) a),λb a=>h.ok.new b (a8 (gj _ _) a)⟩
 next:=a8 h.next (gj _ _)
 get:=λb a=>h.get b a
def t'(o:aE)(l:bn)(H:ae):Option Value:=match kN o l,o.op with
 | some true,.load a n b=>ft H a n (a7 (jC l) b)
 | _,_=>none
def EM(r bG:Rec):Prop:=bG.sW=r.sW/\bG.oQ=r.oQ/\bG.heap=r.heap/\bG.val=r.val/\∀H u,r.again H=some u->bG.again H=some u
inductive oo:List Rec->List Rec->Prop
 | nil:oo [] []
 | cons {r bG:Rec} {l aU:List Rec} (h:EM r bG) (t:oo l aU):oo (r::l) (bG::aU)
def stepT(pm:Perm)(o:aE)(l:bn)(H:ae):Option (Value×ae×List Nat×List Nat):=match kN o l with
 | some true=>(o.op.J (jC l)).runT pm H
 | some false=>some (aR,H,[],[])
 | none=>none
section
variable(X:aA)(pm:Perm)
abbrev Fin:=List Rec->bn->ae->Prop
def MW(ct:List Bool)(os:List aE)(b:Nat)(e:Env)(H:ae)(h:List Rec)(i:Fin):Prop:=
 ∃a c d,la (λm f=>jV (X.K m f) pm os b ct e H=some (a,c,d))/\∃f g,iT a f/\oo g d/\i (h.reverse++g) f c
def MX(ct:List Bool)(os:List aE)(b:Nat)(l:bn)(H:ae)(a:List Rec)(c:Fin):Prop:=∀e,iT e l->MW X pm ct os b e H a c
def d'(o:aE)(f:FuncId)(args:List b0)(ct:List Bool)(os:List aE)(aK k:Nat)(l:bn)(H:ae)(a:List Rec)(b:Fin):Prop:=
 MX X pm ct ({o with op:=.call f args}::os) (aK+k) l H a b
def k5(ct:List Bool)(os:List aE)(aK k:Nat)(l:bn)(H:ae)(a:List Rec)(b:Fin):Prop:=match os with
 | []=>b a.reverse l H
 | o::os=>match o.op with
   | .call f c=>d' X pm o f c ct os aK k l H a b
   | .ka ..=>False
   | _=>H.get (aK+k)=none/\(match stepT ⟨pm.ah,pm.ok,some (aK+k)⟩ o l H with
     | some (v,c,f,m)=>k5 ct.tail os aK (k+1) (kk l o.dst v) c (⟨f,m,H,v,t' o l⟩::a) b
     | none=>False)
end
theorem US{e:Env}{l:bn}(a:iT e l){o:aE}{H:ae}{u:Value}(h:t' o l H=some u):o.again e H=some u:=by
 unfold t' at h;unfold aE.again;split at h
 ·rename_i _ _ c d f;rw[ps a d,f];simp only
  cases b:a7 (jC l) c with
  | none=>rw[b]at h;simp[ft]at h
  | some _=>rw[a.rk.a7 b];grind
 ·cases h
theorem ach{e:Env}{l:bn}(b:iT e l){o:aE}{K:cv}{pm:Perm}{ct:Bool}{H:ae}{r:Value×ae×List Nat×List Nat}(c:zf o.op=false)(a:stepT pm o l H=some r):o.runT K pm ct e H=some r:=by
 unfold stepT at a;unfold aE.runT;split at a
 ·rename_i d;rw[ps b d];simp only;have:o.op.eD=false:=by cases e:o.op<;>first | rfl | (rw[e]at c;cases c)
  unfold bh.runT;rw[this];exact(OI b.rk _).runT a
 ·rename_i f;rw[ps b f];exact a
 ·cases a
section
variable{X:aA}{pm:Perm}
theorem AB{b:Fin}:∀{os:List aE} {ct:List Bool} {aK k:Nat} {l:bn} {H:ae} {a:List Rec},k5 X pm ct os aK k l H a b->MX X pm ct os (aK+k) l H a b
 | [],ct,aK,k,l,H,a,h,e,c=>⟨e,H,[],.of λ_ _=>by rfl,l,[],c,.nil,by simpa [k5]using h⟩
 | o::os,ct,aK,k,l,H,a,h,e,c=>by
   have i:zf o.op=false->(H.get (aK+k)=none/\(match stepT ⟨pm.ah,pm.ok,some (aK+k)⟩ o l H with
    | some (d,j,n,p)=>k5 X pm ct.tail os aK (k+1) (kk l o.dst d) j (⟨n,p,H,d,t' o l⟩::a) b
    | none=>False))->MW X pm ct (o::os) (aK+k) e H a b:=by
    rintro q ⟨r,h⟩;split at h
    ·rename_i v _ f m s;obtain⟨d,j,k,n,p,t,u,w,x⟩:=AB h _ (c.put o.dst v);refine⟨d,j,⟨f,m,H,v,o.again e⟩::k,n.map λm y z=>?_,p,⟨f,m,H,v,t' o l⟩::t,u,.cons ⟨rfl,rfl,rfl,rfl,λ_ _=>US c⟩ w,by simpa using x⟩;have A:=ach (K:=X.K m y) (ct:=ct.headD false) c q s;simp only[jV,r,A,o7,z]
    ·exact h.elim
   unfold k5 at h;split at h
   ·rename_i B C g;have:({o with op:=.call B C}:aE)=o:=by cases o;simp only at g;subst g;rfl
    unfold d' at h;rw[this]at h;exact h e c
   ·exact h.elim
   ·rename_i _ _;refine i ?_ h;cases d:o.op<;>first | rfl | grind | grind
theorem d'.of{o:aE}{f:FuncId}{args:List b0}{ct:List Bool}{os:List aE}{aK k:Nat}{l:bn}{H:ae}{c:List Rec}{d:Fin}{aq:List Value}{R:Value->ae->Prop}(g:H.get (aK+k)=none)
 (a':kN o l=some true) (aI:eO (jC l) args=some aq) (i:ct.headD false=false) (h:Call X ⟨H.next,dj ⟨pm.ah,pm.ok,some (aK+k)⟩ aq,none⟩ f aq H R)
 (j:∀v a,R v a->k5 X pm ct.tail os aK (k+1) (kk l o.dst v) a (⟨[],dj ⟨pm.ah,pm.ok,some (aK+k)⟩ aq,H,v,λ_=>none⟩::c) d):d' X pm o f args ct os aK k l H c d:=by
 intro e b;obtain⟨v,a,c,d⟩:=h;obtain⟨m,n,p,q,r,s,t,u,w⟩:=AB (j v a d) _ (b.put o.dst v);refine⟨m,n,⟨[],dj ⟨pm.ah,pm.ok,some (aK+k)⟩ aq,H,v,({o with op:=.call f args}:aE).again e⟩::p,c.nN q λ_ _ x y=>?_,r,(⟨[],dj ⟨pm.ah,pm.ok,some (aK+k)⟩ aq,H,v,λ_=>none⟩:Rec)::s,t,.cons ⟨rfl,rfl,rfl,rfl,λ_ _ h=>(by cases h)⟩ u,by simpa using w⟩;have c:({o with op:=.call f args}:aE).wanted e=some true:=ps b a';have a:=b.rk.eO aI;have b:(bh.call f args).uB ⟨pm.ah,pm.ok,some (aK+k)⟩ e=dj ⟨pm.ah,pm.ok,some (aK+k)⟩ aq:=by simp only[bh.uB,a]
 have d:(bh.call f args).eD=true:=rfl;simp only[jV,g,aE.runT,c,bh.runT,d,cond_true,i,cond_false,b,bh.run,a,x,o7,y]
theorem d'.fixed{o:aE}{f:FuncId}{args:List b0}{ct:List Bool}{os:List aE}{aK k:Nat}{l:bn}{H:ae}{c:List Rec}{d:Fin}{aq:List Value}{R:Value->ae->Prop}(g:H.get (aK+k)=none)
 (a':kN o l=some true) (aI:eO (jC l) args=some aq) (i:ct.headD false=true) (h:Call X ⟨pm.ah,pm.ok,none⟩ f aq H R)
 (j:∀v a,R v a->k5 X pm ct.tail os aK (k+1) (kk l o.dst v) a (⟨[],[],H,v,λ_=>none⟩::c) d):d' X pm o f args ct os aK k l H c d:=by
 intro e b;obtain⟨v,a,c,d⟩:=h;obtain⟨m,n,p,q,r,s,t,u,w⟩:=AB (j v a d) _ (b.put o.dst v);refine⟨m,n,⟨[],[],H,v,({o with op:=.call f args}:aE).again e⟩::p,c.nN q λ_ _ x y=>?_,r,(⟨[],[],H,v,λ_=>none⟩:Rec)::s,t,.cons ⟨rfl,rfl,rfl,rfl,λ_ _ h=>(by cases h)⟩ u,by simpa using w⟩;have a:({o with op:=.call f args}:aE).wanted e=some true:=ps b a';have c:=b.rk.eO aI;have b:(bh.call f args).eD=true:=rfl;simp only[jV,g,aE.runT,a,bh.runT,b,cond_true,i,bh.run,c,x,o7,y]
theorem d'.not{o:aE}{f:FuncId}{args:List b0}{ct:List Bool}{os:List aE}{aK k:Nat}{l:bn}{H:ae}{a:List Rec}{b:Fin}(d:H.get (aK+k)=none)
 (g:k5 X pm ct.tail os aK (k+1) (kk l o.dst aR) H (⟨[],[],H,aR,λ_=>none⟩::a) b) (a':kN o l=some false:=by simp):d' X pm o f args ct os aK k l H a b:=by
 intro e c;obtain⟨a,b,h,i,j,m,n,p,q⟩:=AB g _ (c.put o.dst aR);refine⟨a,b,⟨[],[],H,aR,({o with op:=.call f args}:aE).again e⟩::h,i.map λ_ _ r=>?_,j,(⟨[],[],H,aR,λ_=>none⟩:Rec)::m,n,.cons ⟨rfl,rfl,rfl,rfl,λ_ _ s=>(by cases s)⟩ p,by simpa using q⟩;have a:({o with op:=.call f args}:aE).wanted e=some false:=ps c a';simp only[jV,d,aE.runT,a,o7,r]
theorem oo.length{l aU:List Rec}(h:oo l aU):aU.length=l.length:=by
 induction h with
 | nil=>rfl
 | cons _ _ ih=>simp[ih]
theorem oo.get{l aU:List Rec}(h:oo l aU):∀(i:Nat) (r:Rec),l[i]? = some r->∃bG,aU[i]? = some bG/\EM r bG:=by
 induction h with
 | nil=>grind
 | cons h _ ih=>
   grind
theorem SR{r bG:Rec}(h:EM r bG){H:ae}(q:tB r.again r.val H=true):tB bG.again bG.val H=true:=by
 unfold tB at q|-
 cases a:r.again H with
 | none=>grind
 | some u=>rw[h.2.2.2.2 H u a,h.2.2.2.1];grind
theorem Wu{l aU:List Rec}(h:oo l aU){H:ae}{c:List (Nat×Nat)}(q:b3 l H c=true):b3 aU H c=true:=by
 unfold b3 at q|-;rw[eA]at q|-;rintro⟨i,j⟩ e;have q:=q (i,j) e;dsimp only at q|-
 cases c:l[i]? with
 | none=>grind
 | some x=>
   cases d:l[j]? with
   | none=>grind
   | some y=>
     obtain⟨_,e,k⟩:=h.get i x c;obtain⟨_,i,a⟩:=h.get j y d;rw[c,d]at q;rw[e,i];simp only[bK,jG]at q|-;rw[k.2.1,a.2.1,a.1];refine⟨q.1,q.2.imp id λq=>?_⟩;unfold DR at q|-;simp only[bK,eA]at q|-;refine⟨λ_ i=>?_,SR a q.2⟩;obtain⟨k,e⟩:=u5 i;have i:=(hZ.1 e).1;have:∃b,l[k]? = some b:=⟨l[k]'(by rw[<-h.length];exact i),by simp⟩;obtain⟨b,f⟩:=this;obtain⟨_,g,m⟩:=h.get k b f;rw[e]at g;cases g;rw[m.2.2.1];exact SR a (q.1 b (cX f))
theorem Qr{l aU:List Rec}(h:oo l aU){aK:Nat}:∀{a b5:List Rec} {q:Nat},oo a b5->bZ l aK a q=true->bZ aU aK b5 q=true
 | _,_,_,.nil,_=>rfl
 | _,_,q,.cons (r:=r) (bG:=bG) rq sZ,hm=>by
   simp only[bZ,bK,eA]at hm|-;refine⟨λb a=>?_,Qr h sZ hm.2⟩;rw[rq.1]at a;have:=hm.1 b a;rw[h.length];revert this
   cases c:l[b-aK]? with
   | none=>
     grind
   | some x=>
     obtain⟨_,a,b⟩:=h.get _ x c;rw[a];simp only[b.2.1];exact id
def My(X:aA)(pm:Perm)(c:lK)(aK:Nat)(aD:List Fr)(Q:cl):Fin:=λa d b=>b3 a b c.lq=true/\bZ a aK a 0=true/\wp X pm (.res .normal) d b aD Q
@[simp] theorem acK{c:lK}{aK:Nat}{aD:List Fr}{Q:cl}{a:List Rec}{aU:bn}{ab:ae}:My X pm c aK aD Q a aU ab=(b3 a ab c.lq=true/\bZ a aK a 0=true/\wp X pm (.res .normal) aU ab aD Q):=rfl
theorem cx.of{os:List aE}{c:lK}{l:bn}{H:ae}{aD:List Fr}{Q:cl}{a:List aE}(h:pm.ah<=H.next)(i:(b8 os c.ord).map (·.2)=a)
 (k:k5 X pm c.fixed a H.next 0 l (H.up os.length) [] (My X pm c H.next aD Q)):cx X pm os (some c) l H aD Q:=by
 intro e j;obtain⟨a,d,m,n,_,_,o,b,f,g,q⟩:=AB k e j;simp only[List.reverse_nil,zV]at f g;refine⟨.normal,a,d,n.map λj n p=>?_,nj q a o⟩;have p:jV (X.K j n) pm ((b8 os c.ord).map (·.2)) H.next c.fixed e ⟨H.t,H.next+os.length⟩=some (a,d,m):=by rw[i];exact p
 have a:Nat.ble pm.ah H.next=true:=by rw[cJ];simpa using h
 simp only[eval,rm,a,cond_true,p,Wu b f,Qr b b g,Bool.and_self]
@[simp] theorem adV{ct:List Bool}{aK k:Nat}{l:bn}{H:ae}{a:List Rec}{b:Fin}:k5 X pm ct [] aK k l H a b=b a.reverse l H:=by simp only[k5]
@[simp] theorem adW{o:aE}{os:List aE}{ct:List Bool}{aK k:Nat}{l:bn}{H:ae}{a:List Rec}{b:Fin}:k5 X pm ct (o::os) aK k l H a b=(match o.op with
  | .call f args=>d' X pm o f args ct os aK k l H a b
  | .ka ..=>False
  | _=>H.get (aK+k)=none/\(match stepT ⟨pm.ah,pm.ok,some (aK+k)⟩ o l H with
    | some (v,ab,f,m)=>k5 X pm ct.tail os aK (k+1) (kk l o.dst v) ab (⟨f,m,H,v,t' o l⟩::a) b
    | none=>False)):=by rw[k5]
attribute [simp] stepT bf.runT
theorem Qz{H:ae}{z:List Value}{bytes l c ah b:Nat}{fJ:List Nat}(aY:l<=c)(b7:c<=1073741824)(cH:bytes*c<=17179869184):
 (pU z bytes (some l) (some c)).runT ⟨ah,fJ,some b⟩ H=some (.slice (some ⟨b,0,none⟩) l c,H.put b (.cells (times z c) (.n z.length)),[],[b]):=by
 unfold pU;simp[aY,b7,cH,bf.runT,Perm.make,Perm.pick]
def bf.calm:bf->Prop
 | .ret _ | .fail=>True
 | .get _ k=>∀x,(k x).calm
 | _=>False
theorem NT{c:Bool}{x y:bf}(a:x.calm)(a:y.calm):(bif c then x else y).calm:=by grind
theorem ZW{o:bh}{e:Env}(h:(o.md||o.ho)=false):(o.J e).calm:=by
 cases o<;>first | (simp[bh.md,bh.ho]at h;done) | skip
 case conv c _=>
  cases c<;>first | (simp[bh.md,bh.ho]at h;done) | skip
  all_goals simp only[bh.J,dC,nG,fz]
  all_goals repeat' (first | trivial | (intro _;dsimp only) | (intro _) | (refine NT ?_ ?_) | split)
 all_goals simp only[bh.J,dC,gx,mr,oE,jU,rj,ur,sU,mu,rh,rf,ri,sT]
 all_goals repeat' (first | trivial | (intro _;dsimp only) | (intro _) | (refine NT ?_ ?_) | split)
theorem NU:∀(x:bf) {pm cu:Perm} {H ab:ae} {v:Value},x.calm->x.run pm H=some (v,ab)->ab=H/\∃f,x.runT cu H=some (v,H,f,[])/\∀b∈f,∃y,H.get b=some y
 | .ret _,pm,cu,H,ab,v,_,_=>by
   simp_all
 | .fail,_,_,_,_,_,_,h=>by cases h
 | .get b k,pm,cu,H,ab,v,a,h=>by
   simp only[bf.run]at h;split at h
   ·rename_i x _;obtain⟨rfl,f,_,_⟩:=NU (k x) (cu:=cu) (a x) h;simp_all
   ·cases h
def BD(o:aE):Bool:=!(o.op.md||o.op.ho||zf o.op)
theorem F4{aK:Nat}{K:cv}{H:ae}(j:∀b y,H.get b=some y->b<aK):∀{os:List aE} {ct:List Bool} {b:Nat} {e g:Env} {ab:ae},os.all BD=true->aK<=b->ke K pm os e H=some (g,ab)->
 ab=H/\∃i,jV K pm os b ct e H=some (g,H,i)/\∀r∈i,r.oQ=[]/\∀c∈r.sW,c<aK
 | [],ct,b,e,g,ab,_,_,h=>by
   simp only[ke,aJ,cp]at h;obtain⟨rfl,rfl⟩:=h;exact⟨rfl,[],by rfl,λ_ h=>by cases h⟩
 | o::os,ct,b,e,g,ab,k,_,h=>by
   simp only[qp,bK]at k;obtain⟨d,m⟩:=k;simp only[BD,ir,Bool.or_eq_false_iff]at d;have n:o.op.eD=false:=by cases p:o.op<;>first | rfl | (have:=d.2;rw[p]at this;cases this)
   have q:H.get b=none:=by
    cases c:H.get b with
    | none=>rfl
    | some y=>grind
   simp only[ke]at h;split at h
   ·rename_i v s a;have t:s=H/\∃f,o.runT K ⟨pm.ah,pm.ok,some b⟩ (ct.headD false) e H=some (v,H,f,[])/\∀c∈f,c<aK:=by
     unfold aE.run at a;unfold aE.runT
     cases l:o.wanted e with
     | none=>rw[l]at a;cases a
     | some r=>
       rw[l]at a
       cases r with
       | false=>
         simp only[aJ,cp]at a;obtain⟨rfl,rfl⟩:=a;exact⟨rfl,[],rfl,λ_ h=>by cases h⟩
       | true=>
         simp only at a;rw[Sy d.2]at a;obtain⟨u,f,w,x⟩:=NU (o.op.J e) (cu:=⟨pm.ah,pm.ok,some b⟩) (ZW (by simp[d.1.1,d.1.2])) a;refine⟨u,f,?_,λc z=>by obtain⟨y,A⟩:=x c z;exact j c y A⟩;simp only;unfold bh.runT;rw[n];exact w
    obtain⟨rfl,f,c,_⟩:=t;obtain⟨rfl,i,l,_⟩:=F4 j (ct:=ct.tail) (b:=b+1) m (by omega) h;refine⟨rfl,⟨f,[],ab,v,o.again e⟩::i,by simp only[jV,q,c,l],λr a=>?_⟩;grind
   ·cases h
theorem cx.calm[bL]{os:List aE}{c:lK}{l:bn}{H:ae}{aD:List Fr}{Q:cl}{f:List aE}(h:ck pm H)(p:c.lq=[])(s:(b8 os c.ord).map (·.2)=f)(i:f.all BD=true)
 (k:wp X pm (.ops f) l (H.up os.length) aD Q):cx X pm os (some c) l H aD Q:=by
 intro j f;obtain⟨n,_,d,t⟩:=nj k j f;have o:∀b y,(H.up os.length).get b=some y->b<H.next:=λb y f=>h.lt f;obtain⟨N,d⟩:=d;obtain⟨m,_⟩:=F4 (K:=X.K N N) (pm:=pm) o (ct:=c.fixed) (b:=H.next) i (bc _) (d N N (bc _) (bc _));subst m;refine⟨.normal,n,_,⟨N,λm f u v=>?_⟩,t⟩;obtain⟨_,e,t,w⟩:=F4 (K:=X.K m f) (pm:=pm) o (ct:=c.fixed) (b:=H.next) i (bc _) (d m f u v);have x:jV (X.K m f) pm ((b8 os c.ord).map (·.2)) H.next c.fixed j ⟨H.t,H.next+os.length⟩=some (n,H.up os.length,e):=by rw[s];exact t
 have z:Nat.ble pm.ah H.next=true:=by rw[cJ];simpa using h.ah
 have A:∀(d a:List Rec) (q:Nat),(∀r∈a,∀c∈r.sW,c<H.next)->bZ d H.next a q=true:=by
  intro d a
  induction a with
  | nil=>intro q _;rfl
  | cons r a ih=>
    intro q h;simp only[bZ,bK];refine⟨?_,ih (q+1) λr g=>h r (.tail _ g)⟩;simp_all
 have a:b3 e (H.up os.length) c.lq=true:=by rw[p];rfl
 simp only[eval,rm,z,cond_true,x,a,A e e 0 λr g=>(w r g).2,Bool.and_self]
theorem cx.yI[bL]{os:List aE}{c:lK}{l:bn}{H:ae}{aD:List Fr}{Q:cl}(a:ck pm H)(b:c.lq=[])(d:(b8 os c.ord).map (·.2)=os)(e:os.all BD=true)
 (k:wp X pm (.ops os) l (H.up os.length) aD Q):cx X pm os (some c) l H aD Q:=cx.calm a b d e k
end
end Go.Dam
namespace Go.Dam.C
open Go Go.Dam
@[simp] def m(a b:Nat):aE:=⟨some a,none,.dw (.t b)⟩
@[simp] def o(a:Nat)(x:bh):aE:=⟨some a,none,x⟩
@[simp] def au(d a:Nat):aE:=o d (.load false 1 (.t a))
@[simp] def cO(d n a:Nat):aE:=o d (.load true n (.t a))
@[simp] def aB(d k a:Nat):aE:=o d (.fieldAddr k (.t a))
@[simp] def ba(d w a b:Nat):aE:=o d (.lV w (.t a) (.t b))
@[simp] def bP(w a b:Nat):aE:=⟨none,none,.store w (.t a) (.t b)⟩
@[simp] def bp(d:Nat)(p:BinOp)(a b:Nat):aE:=o d (.bin p .bR (.t a) (.t b))
@[simp] def bb(d:Nat)(p:BinOp)(a n:Nat):aE:=o d (.bin p .bR (.t a) (.c (.int .i64 (.ofNat n))))
@[simp] def bT(d n:Nat):aE:=o d (.dw (.c (.int .i64 (.ofNat n))))
@[simp] def bC(d a:Nat):aE:=o d (.len .l (.t a))
@[simp] def bm(d a i:Nat):aE:=o d (.extract (.t a) i)
@[simp] def bW(d a:Nat):aE:=o d (.nilCheck (.t a))
@[simp] def fI(d a:Nat):aE:=o d (.un .not (.t a))
@[simp] def ei(d n a:Nat):aE:=o d (.box n (.t a))
@[simp] def bd(d f a:Nat):aE:=o d (.call f [.t a])
@[simp] def bH(d f a b:Nat):aE:=o d (.call f [.t a,.t b])
@[simp] def hR(d f a b c:Nat):aE:=o d (.call f [.t a,.t b,.t c])
@[simp] def af(l:List aE)(x:aG):aG:=.seq (.bs l) x
@[simp] def cN(a n:Nat):aG:=.cond (.t a) .skip (.exit n)
abbrev ci(n:Nat):b0:=.c (.int .i64 (.ofNat n))
@[simp] def cd(d:Nat):aE:=o d (.dw (.c (.bool false)))
@[simp] def ij(d:Nat):aE:=o d (.dw (.c (.bool true)))
@[simp] def dz(d:Nat):aE:=o d (.dw (.c (.pointer none)))
@[simp] def fx(d:Nat):aE:=o d (.dw (.c (.slice none 0 0)))
@[simp] def bD(d g:Nat)(x:bh):aE:=⟨some d,some (g,true),x⟩
@[simp] def b2(d g:Nat)(x:bh):aE:=⟨some d,some (g,false),x⟩
@[simp] def dU(d:Nat)(k:IntKind)(a:Nat):aE:=o d (.conv (.int k) (.t a))
@[simp] def da(d a b:Nat):aE:=o d (.pick (.t a) (.t b) (.c (.bool false)))
@[simp] def eh(d a b:Nat):aE:=o d (.pick (.t a) (.c (.bool true)) (.t b))
@[simp] def i'(d n:Nat):aE:=o d (.dw (.c (.int .i64 (.negSucc n))))
@[simp] def j9(d x y a b:Nat):aE:=o d (.append x y (.t a) (.t b))
@[simp] def p0(d a:Nat):aE:=o d (.len .s (.t a))
@[simp] def kT(d:Nat)(p:BinOp)(a:Nat):aE:=o d (.bin p (.nil .ptr) (.t a) (.c (.pointer none)))
@[simp] def pQ(d f n:Nat):aE:=o d (.call f [.c (.int .i64 (.ofNat n))])
@[simp] def cG(d g a:Nat):aE:=bD d g (.dw (.t a))
@[simp] def c7(d g a:Nat):aE:=bD d g (.load false 1 (.t a))
@[simp] def eG(d g k a:Nat):aE:=bD d g (.fieldAddr k (.t a))
@[simp] def mx(d g w a b:Nat):aE:=bD d g (.lV w (.t a) (.t b))
@[simp] def kM(d g:Nat)(p:BinOp)(a b:Nat):aE:=bD d g (.bin p .bR (.t a) (.t b))
@[simp] def di(d g a:Nat):aE:=b2 d g (.dw (.t a))
@[simp] def dR(d g a:Nat):aE:=b2 d g (.load false 1 (.t a))
@[simp] def eQ(d g k a:Nat):aE:=b2 d g (.fieldAddr k (.t a))
@[simp] def oI(d g w a b:Nat):aE:=b2 d g (.lV w (.t a) (.t b))
@[simp] def oH(d g:Nat)(p:BinOp)(a b:Nat):aE:=b2 d g (.bin p .bR (.t a) (.t b))
def c'(a b:Nat):List Bool:=List.replicate a false++List.replicate b true
def F.hk:Nat:=94
def F.ek:Nat:=142
def F.hl:Nat:=175
def F.dx:Nat:=157
def F.lp:Nat:=138
def F.nP:Nat:=169
def F.nR:Nat:=176
def F.kg:Nat:=140
def F.rz:Nat:=170
def F.mE:Nat:=282
def F.nS:Nat:=243
def F.nT:Nat:=246
def F.mF:Nat:=248
def F.p5:Nat:=158
def F.rD:Nat:=247
def F.mD:Nat:=178
def F.p4:Nat:=244
def F.rC:Nat:=245
def F.rB:Nat:=177
def F.p3:Nat:=101
def F.oR:Nat:=125
def F.ow:Nat:=238
def F.q0:Nat:=364
def F.qZ:Nat:=95
def F.Jt:Nat:=159
def F.Ju:Nat:=168
def F.JB:Nat:=160
def F.Am:Nat:=167
def F.ph:Nat:=124
def F.pj:Nat:=123
def F.ly:Nat:=126
def F.jE:Nat:=100
def F.qj:Nat:=141
def F.hF:Nat:=46
def F.l2:Nat:=127
def F.hW:Nat:=50
def F.jc:Nat:=61
def F.qk:Nat:=139
def F.hV:Nat:=90
def F.kU:Nat:=118
def F.kV:Nat:=92
def F.im:Nat:=93
def F.lx:Nat:=91
def F.hr:Nat:=102
def F.fb:Nat:=62
def F.nW:Nat:=283
def F.l1:Nat:=131
def F.HB:Nat:=15
def F.pd:Nat:=165
def F.pc:Nat:=166
def F.pe:Nat:=227
def F.r0:Nat:=228
def F.qz:Nat:=302
def F.E':Nat:=377
def F.lX:Nat:=162
def F.iI:Nat:=97
def F.rJ:Nat:=108
def F.rL:Nat:=110
def F.ki:Nat:=52
def F.rH:Nat:=107
def F.qb:Nat:=109
def F.mQ:Nat:=86
def F.rK:Nat:=98
def F.p':Nat:=48
def F.qw:Nat:=64
def F.pb:Nat:=103
def F.qx:Nat:=129
def F.rZ:Nat:=161
def F.qh:Nat:=106
def F.qg:Nat:=105
def F.qa:Nat:=51
def F.oV:Nat:=104
def F.qf:Nat:=87
def F.qc:Nat:=43
def F.rI:Nat:=63
def F.oW:Nat:=128
def F.rY:Nat:=21
def F.mc:Nat:=111
def F.sg:Nat:=112
def F.sd:Nat:=53
def F.qL:Nat:=116
def F.qM:Nat:=117
def F.qG:Nat:=163
def F.pv:Nat:=114
def F.sb:Nat:=115
def F.sh:Nat:=113
def F.sa:Nat:=54
def F.qH:Nat:=122
def F.qO:Nat:=60
def F.r':Nat:=119
def F.qP:Nat:=164
def F.sc:Nat:=120
def F.r9:Nat:=56
def F.qQ:Nat:=121
def F.qN:Nat:=57
def F.qI:Nat:=59
def F.sf:Nat:=55
def F.se:Nat:=58
def F.qF:Nat:=17
def F.qR:Nat:=26
def F.q2:Nat:=27
def F.p7:Nat:=69
def F.rp:Nat:=70
def F.oA:Nat:=72
def F.rX:Nat:=73
def F.q1:Nat:=74
def F.ry:Nat:=75
def F.qd:Nat:=76
def F.ru:Nat:=79
def F.oO:Nat:=85
def F.m':Nat:=132
def F.q9:Nat:=20
def F.so:Nat:=4
@[simp] def hk:bg:=⟨10,(af [dz 2] (af (m 3 0::dU 4 .u32 3::m 5 0::o 6 (.bin .shr .bR (.t 5) (.c (.int .u64 (.ofNat 32))))::dU 7 .u32 6::o 8 (.buildSlice [(.int .u32 (.ofNat 0)),(.int .u32 (.ofNat 0))] 1 2 [(0,1,(.t 4)),(1,1,(.t 7))])::bd 9 F.ek 8::[m 2 9]) .ret)),[.slot 2]⟩
@[simp] def ek:bg:=⟨23,(af [dz 2] (af [m 4 0,bC 5 4,m 3 5] (.seq (.block 0 (.loop (.seq (af [m 6 3,bb 7 .gtr 6 0,m 8 7,cG 9 8 0,cG 10 8 3,bD 11 8 (.bin .sub .bR (.t 10) (ci 1)),mx 12 8 1 9 11,c7 13 8 12,bD 14 8 (.bin .eql .bR (.t 13) (.c (.int .u32 (.ofNat 0)))),da 15 8 14] (cN 15 0)) (.block 1 (.bs [m 16 3,bb 17 .sub 16 1,m 3 17]))))) (af [m 18 0,m 19 3,o 20 (.ji 1 (.t 18) none (some (.t 19)) none),o 21 (.build [(.slice none 0 0)] [(0,1,(.t 20))]),ei 22 238 21,m 2 22] .ret)))),[.slot 2]⟩
@[simp] def hl:bg:=⟨14,(af [o 4 (.dw (.c (.int .u64 (.ofNat 0))))] (.seq (af [m 5 1,m 6 0,bC 7 6,bp 8 .lss 5 7] (.cond (.t 8) (af [m 9 0,m 10 1,ba 11 1 9 10,au 12 11,dU 13 .u64 12,m 4 13] .ret) .skip)) (af [o 4 (.dw (.c (.int .u64 (.ofNat 0))))] .ret))),[.slot 4]⟩
@[simp] def dx:bg:=⟨9,(af [fx 2] (.seq (af [m 3 0,kT 4 .eql 3] (.cond (.t 4) (af [fx 2] .ret) .skip)) (af [m 5 0,bW 6 5,aB 7 0 6,au 8 7,m 2 8] .ret))),[.slot 2]⟩
@[simp] def lp:bg:=⟨36,(af [bT 4 0] (af (m 10 0::bd 11 F.dx 10::m 12 1::bd 13 F.dx 12::[m 5 11,m 6 13]) (.seq (af [m 14 5,bC 15 14,m 16 6,bC 17 16,o 18 (.max2 (.t 15) (.t 17)),bb 19 .sub 18 1,m 7 19] (.block 0 (.loop (.seq (af [m 20 7,bb 21 .geq 20 0] (cN 21 0)) (.seq (.block 1 (af (m 24 5::m 25 7::bH 26 F.hl 24 25::m 27 6::m 28 7::bH 29 F.hl 27 28::[m 8 26,m 9 29]) (af [m 30 8,m 31 9,bp 32 .neq 30 31] (.cond (.t 32) (.seq (af [m 33 8,m 34 9,bp 35 .lss 33 34] (.cond (.t 35) (af [i' 4 0] .ret) .skip)) (af [bT 4 1] .ret)) .skip)))) (.bs [m 22 7,bb 23 .sub 22 1,m 7 23])))))) (af [bT 4 0] .ret)))),[.slot 4]⟩
@[simp] def nP:bg:=⟨45,(af [dz 4] (af (m 10 0::bd 11 F.dx 10::m 12 1::bd 13 F.dx 12::[m 5 11,m 6 13]) (af [m 14 5,bC 15 14,m 16 6,bC 17 16,o 18 (.max2 (.t 15) (.t 17)),bb 19 .add 18 1,o 20 (.mkSlice [(.int .u32 (.ofNat 0))] 4 (.t 19) (.t 19)),m 7 20] (af [o 8 (.dw (.c (.int .u64 (.ofNat 0))))] (.seq (af [m 21 7,bC 22 21,bT 23 0] (.block 0 (.loop (af [bp 24 .lss 23 22] (.seq (cN 24 0) (.seq (.block 1 (af [m 25 23,m 9 25] (af (m 26 8::m 27 5::m 28 9::bH 29 F.hl 27 28::m 30 6::m 31 9::bH 32 F.hl 30 31::[bp 33 .add 29 32,bp 34 .add 26 33,m 8 34]) (af [m 35 7,m 36 9,m 37 8,dU 38 .u32 37,ba 39 1 35 36,bP 1 39 38] (.bs [m 40 8,o 41 (.bin .shr .bR (.t 40) (.c (.int .u64 (.ofNat 32)))),m 8 41]))))) (.bs [bb 42 .add 23 1,m 23 42]))))))) (af (m 43 7::bd 44 F.ek 43::[m 4 44]) .ret)))))),[.slot 4]⟩
@[simp] def nR:bg:=⟨48,(af [dz 4,cd 5] (.seq (af (m 11 0::m 12 1::bH 13 F.lp 11 12::[bb 14 .lss 13 0]) (.cond (.t 14) (af [dz 4,cd 5] .ret) .skip)) (af (m 15 0::bd 16 F.dx 15::m 17 1::bd 18 F.dx 17::[m 6 16,m 7 18]) (af [m 19 6,bC 20 19,o 21 (.mkSlice [(.int .u32 (.ofNat 0))] 4 (.t 20) (.t 20)),m 8 21] (af [bT 9 0] (.seq (af [m 22 8,bC 23 22,bT 24 0] (.block 0 (.loop (af [bp 25 .lss 24 23] (.seq (cN 25 0) (.seq (.block 1 (af [m 26 24,m 10 26] (af (m 27 9::m 28 6::m 29 10::bH 30 F.hl 28 29::dU 31 .i64 30::m 32 7::m 33 10::bH 34 F.hl 32 33::[dU 35 .i64 34,bp 36 .sub 31 35,bp 37 .add 27 36,m 9 37]) (af [m 38 8,m 39 10,m 40 9,dU 41 .u32 40,ba 42 1 38 39,bP 1 42 41] (.bs [m 43 9,o 44 (.bin .shr .bR (.t 43) (.c (.int .u64 (.ofNat 32)))),m 9 44]))))) (.bs [bb 45 .add 24 1,m 24 45]))))))) (af (m 46 8::bd 47 F.ek 46::[m 4 47,ij 5]) .ret))))))),[.slot 4,.slot 5]⟩
@[simp] def kg:bg:=⟨73,(af [dz 4] (af (m 13 0::bd 14 F.dx 13::m 15 1::bd 16 F.dx 15::[m 5 14,m 6 16]) (af [m 17 5,bC 18 17,m 19 6,bC 20 19,bp 21 .add 18 20,o 22 (.mkSlice [(.int .u32 (.ofNat 0))] 4 (.t 21) (.t 21)),m 7 22] (.seq (af [m 23 5,bC 24 23,bT 25 0] (.block 0 (.loop (af [bp 26 .lss 25 24] (.seq (cN 26 0) (.seq (.block 1 (af [m 27 25,ba 28 1 23 25,au 29 28,m 8 27,m 9 29] (af [o 10 (.dw (.c (.int .u64 (.ofNat 0))))] (.seq (af [m 30 6,bC 31 30,bT 32 0] (.block 2 (.loop (af [bp 33 .lss 32 31] (.seq (cN 33 2) (.seq (.block 3 (af [m 34 32,ba 35 1 30 32,au 36 35,m 11 34,m 12 36] (af [m 37 10,m 38 9,dU 39 .u64 38,m 40 12,dU 41 .u64 40,bp 42 .mul 39 41,m 43 7,m 44 8,m 45 11,bp 46 .add 44 45,ba 47 1 43 46,au 48 47,dU 49 .u64 48,bp 50 .add 42 49,bp 51 .add 37 50,m 10 51] (af [m 52 7,m 53 8,m 54 11,bp 55 .add 53 54,m 56 10,dU 57 .u32 56,ba 58 1 52 55,bP 1 58 57] (.bs [m 59 10,o 60 (.bin .shr .bR (.t 59) (.c (.int .u64 (.ofNat 32)))),m 10 60]))))) (.bs [bb 61 .add 32 1,m 32 61]))))))) (.bs [m 62 7,m 63 8,m 64 6,bC 65 64,bp 66 .add 63 65,m 67 10,dU 68 .u32 67,ba 69 1 62 66,bP 1 69 68]))))) (.bs [bb 70 .add 25 1,m 25 70]))))))) (af (m 71 7::bd 72 F.ek 71::[m 4 72]) .ret))))),[.slot 4]⟩
@[simp] def rz:bg:=⟨22,(af [bT 2 0] (af (m 4 0::bd 5 F.dx 4::[m 3 5]) (.seq (af [m 6 3,bC 7 6,bb 8 .eql 7 0] (.cond (.t 8) (af [bT 2 0] .ret) .skip)) (af (m 9 3::bC 10 9::bb 11 .sub 10 1::o 12 (.bin .mul .bR (ci 32) (.t 11))::m 13 3::m 14 3::bC 15 14::bb 16 .sub 15 1::ba 17 1 13 16::au 18 17::dU 19 .u64 18::bd 20 F.ow 19::[bp 21 .add 12 20,m 2 21]) .ret)))),[.slot 2]⟩
@[simp] def mE:bg:=⟨22,(af [bT 2 0] (.seq (af (m 5 0::bd 6 F.dx 5::[bC 7 6,bT 8 0]) (.block 0 (.loop (af [bp 9 .lss 8 7] (.seq (cN 9 0) (.seq (.block 1 (af [m 10 8,ba 11 1 6 8,au 12 11,m 3 10,m 4 12] (af [m 13 4,o 14 (.bin .neq .bR (.t 13) (.c (.int .u32 (.ofNat 0))))] (.cond (.t 14) (af (m 15 3::o 16 (.bin .mul .bR (ci 32) (.t 15))::m 17 4::dU 18 .u64 17::bd 19 F.q0 18::[bp 20 .add 16 19,m 2 20]) .ret) .skip)))) (.bs [bb 21 .add 8 1,m 8 21]))))))) (af [bT 2 0] .ret))),[.slot 2]⟩
@[simp] def nS:bg:=⟨29,(af [o 2 (.dw (.c (.int .u64 (.ofNat 0)))),cd 3] (af [o 4 (.dw (.c (.int .u64 (.ofNat 0))))] (af (m 8 0::bd 9 F.dx 8::[m 5 9]) (.seq (af [m 10 5,bC 11 10,bb 12 .gtr 11 2] (.cond (.t 12) (af [o 2 (.dw (.c (.int .u64 (.ofNat 0)))),cd 3] .ret) .skip)) (.seq (af [m 13 5,bC 14 13,bT 15 0] (.block 0 (.loop (af [bp 16 .lss 15 14] (.seq (cN 16 0) (.seq (.block 1 (af [m 17 15,ba 18 1 13 15,au 19 18,m 6 17,m 7 19] (.bs [m 20 4,m 21 7,dU 22 .u64 21,m 23 6,o 24 (.bin .mul .bR (ci 32) (.t 23)),bp 25 .shl 22 24,bp 26 .or 20 25,m 4 26]))) (.bs [bb 27 .add 15 1,m 15 27]))))))) (af [m 28 4,m 2 28,ij 3] .ret)))))),[.slot 2,.slot 3]⟩
@[simp] def nT:bg:=⟨55,(af [dz 4] (af (m 10 0::bd 11 F.dx 10::[m 5 11]) (af [m 12 5,bC 13 12,m 14 1,bb 15 .quo 14 32,bp 16 .add 13 15,bb 17 .add 16 1,o 18 (.mkSlice [(.int .u32 (.ofNat 0))] 4 (.t 17) (.t 17)),m 6 18] (.seq (af [m 19 5,bC 20 19,bT 21 0] (.block 0 (.loop (af [bp 22 .lss 21 20] (.seq (cN 22 0) (.seq (.block 1 (af [m 23 21,ba 24 1 19 21,au 25 24,m 7 23,m 8 25] (af [m 26 8,dU 27 .u64 26,m 28 1,bb 29 .rem 28 32,bp 30 .shl 27 29,m 9 30] (af [m 31 6,m 32 7,m 33 1,bb 34 .quo 33 32,bp 35 .add 32 34,ba 36 1 31 35,au 37 36,m 38 9,dU 39 .u32 38,bp 40 .or 37 39,ba 41 1 31 35,bP 1 41 40] (.bs [m 42 6,m 43 7,m 44 1,bb 45 .quo 44 32,bp 46 .add 43 45,bb 47 .add 46 1,m 48 9,o 49 (.bin .shr .bR (.t 48) (.c (.int .u64 (.ofNat 32)))),dU 50 .u32 49,ba 51 1 42 47,bP 1 51 50]))))) (.bs [bb 52 .add 21 1,m 21 52]))))))) (af (m 53 6::bd 54 F.ek 53::[m 4 54]) .ret))))),[.slot 4]⟩
@[simp] def mF:bg:=⟨47,(af [dz 4] (af (m 8 0::bd 9 F.dx 8::[m 5 9]) (.seq (af [m 10 1,bb 11 .quo 10 32,m 12 5,bC 13 12,bp 14 .geq 11 13] (.cond (.t 14) (af (o 15 (.call F.ek [(.c (.slice none 0 0))])::[m 4 15]) .ret) .skip)) (af [m 16 5,m 17 1,bb 18 .quo 17 32,o 19 (.ji 1 (.t 16) (some (.t 18)) none none),m 5 19] (af [m 20 5,bC 21 20,o 22 (.mkSlice [(.int .u32 (.ofNat 0))] 4 (.t 21) (.t 21)),m 6 22] (.seq (af [m 23 6,bC 24 23,bT 25 0] (.block 0 (.loop (af [bp 26 .lss 25 24] (.seq (cN 26 0) (.seq (.block 1 (af [m 27 25,m 7 27] (.bs (m 28 6::m 29 7::m 30 5::m 31 7::bH 32 F.hl 30 31::m 33 5::m 34 7::bb 35 .add 34 1::bH 36 F.hl 33 35::[o 37 (.bin .shl .bR (.t 36) (.c (.int .u64 (.ofNat 32)))),bp 38 .or 32 37,m 39 1,bb 40 .rem 39 32,bp 41 .shr 38 40,dU 42 .u32 41,ba 43 1 28 29,bP 1 43 42])))) (.bs [bb 44 .add 25 1,m 25 44]))))))) (af (m 45 6::bd 46 F.ek 45::[m 4 46]) .ret))))))),[.slot 4]⟩
@[simp] def p5:bg:=⟨39,(af [fx 4,o 5 (.dw (.c (.int .u64 (.ofNat 0))))] (af [m 9 0,bC 10 9,o 11 (.mkSlice [(.int .u32 (.ofNat 0))] 4 (.t 10) (.t 10)),m 6 11] (af [o 7 (.dw (.c (.int .u64 (.ofNat 0))))] (.seq (af [m 12 0,bC 13 12,bb 14 .sub 13 1,m 8 14] (.block 0 (.loop (.seq (af [m 15 8,bb 16 .geq 15 0] (cN 16 0)) (.seq (.block 1 (af [m 19 7,o 20 (.bin .shl .bR (.t 19) (.c (.int .u64 (.ofNat 32)))),m 21 0,m 22 8,ba 23 1 21 22,au 24 23,dU 25 .u64 24,bp 26 .or 20 25,m 7 26] (af [m 27 6,m 28 8,m 29 7,m 30 1,bp 31 .quo 29 30,dU 32 .u32 31,ba 33 1 27 28,bP 1 33 32] (.bs [m 34 7,m 35 1,bp 36 .rem 34 35,m 7 36])))) (.bs [m 17 8,bb 18 .sub 17 1,m 8 18])))))) (af [m 37 6,m 38 7,m 4 37,m 5 38] .ret))))),[.slot 4,.slot 5]⟩
def p6:aG:=af [o 9 (.dw (.c (.int .u64 (.ofNat 0)))),bT 10 0] (.seq (af [m 82 1,bC 83 82,bT 84 0] (.block 2 (.loop (af [bp 85 .lss 84 83] (.seq (cN 85 2) (.seq (.block 3 (af [m 86 84,ba 87 1 82 84,au 88 87,m 11 86,m 12 88] (af [m 89 9,m 90 7,m 91 12,dU 92 .u64 91,bp 93 .mul 90 92,bp 94 .add 89 93,m 9 94] (af [m 95 10,m 96 0,m 97 11,ba 98 1 96 97,au 99 98,dU 100 .i64 99,m 101 9,dU 102 .u32 101,dU 103 .i64 102,bp 104 .sub 100 103,bp 105 .add 95 104,m 10 105] (af [m 106 0,m 107 11,m 108 10,dU 109 .u32 108,ba 110 1 106 107,bP 1 110 109] (.bs [m 111 9,o 112 (.bin .shr .bR (.t 111) (.c (.int .u64 (.ofNat 32)))),m 113 10,o 114 (.bin .shr .bR (.t 113) (.c (.int .u64 (.ofNat 32)))),m 9 112,m 10 114])))))) (.bs [bb 115 .add 84 1,m 84 115]))))))) (af [m 116 10,m 117 0,m 118 5,ba 119 1 117 118,au 120 119,dU 121 .i64 120,m 122 9,dU 123 .i64 122,bp 124 .sub 121 123,bp 125 .add 116 124,m 10 125] (af [m 126 0,m 127 5,m 128 10,dU 129 .u32 128,ba 130 1 126 127,bP 1 130 129] (.seq (af [m 131 10,bb 132 .geq 131 0] (.cond (.t 132) (af [m 133 7,dU 134 .u32 133,m 4 134] .ret) .skip)) (af [o 13 (.dw (.c (.int .u64 (.ofNat 0))))] (.seq (af [m 135 1,bC 136 135,bT 137 0] (.block 4 (.loop (af [bp 138 .lss 137 136] (.seq (cN 138 4) (.seq (.block 5 (af [m 139 137,ba 140 1 135 137,au 141 140,m 14 139,m 15 141] (af [m 142 13,m 143 0,m 144 14,ba 145 1 143 144,au 146 145,dU 147 .u64 146,m 148 15,dU 149 .u64 148,bp 150 .add 147 149,bp 151 .add 142 150,m 13 151] (af [m 152 0,m 153 14,m 154 13,dU 155 .u32 154,ba 156 1 152 153,bP 1 156 155] (.bs [m 157 13,o 158 (.bin .shr .bR (.t 157) (.c (.int .u64 (.ofNat 32)))),m 13 158]))))) (.bs [bb 159 .add 137 1,m 137 159]))))))) (af [m 160 0,m 161 5,ba 162 1 160 161,au 163 162,m 164 13,dU 165 .u32 164,bp 166 .add 163 165,ba 167 1 160 161,bP 1 167 166] (af [m 168 7,o 169 (.bin .sub .bR (.t 168) (.c (.int .u64 (.ofNat 1)))),dU 170 .u32 169,m 4 170] .ret))))))))
@[simp] def rD:bg:=⟨171,(af [o 4 (.dw (.c (.int .u32 (.ofNat 0))))] (af [m 16 1,bC 17 16,m 5 17] (.seq (.draw [m 18 0,m 19 5,ba 20 1 18 19,au 21 20,dU 22 .u64 21,o 23 (.bin .shl .bR (.t 22) (.c (.int .u64 (.ofNat 32)))),m 24 0,m 25 5,bb 26 .sub 25 1,ba 27 1 24 26,au 28 27,dU 29 .u64 28,bp 30 .or 23 29,m 6 30] (some ⟨[0,1,2,3,4,5,6,7,8,9,10,11,12,13],c' 12 2,[]⟩)) (af [m 31 6,m 32 1,m 33 5,bb 34 .sub 33 1,ba 35 1 32 34,au 36 35,dU 37 .u64 36,bp 38 .quo 31 37,o 39 (.min2 (.t 38) (.c (.int .u64 (.ofNat 4294967295)))),m 7 39] (af [m 40 6,m 41 7,m 42 1,m 43 5,bb 44 .sub 43 1,ba 45 1 42 44,au 46 45,dU 47 .u64 46,bp 48 .mul 41 47,bp 49 .sub 40 48,m 8 49] (.seq (.block 0 (.loop (.seq (.seq (.draw [m 50 8,o 51 (.bin .leq .bR (.t 50) (.c (.int .u64 (.ofNat 4294967295)))),m 52 51,cG 53 52 7,cG 54 52 1,cG 55 52 5,bD 56 52 (.bin .sub .bR (.t 55) (ci 2)),mx 57 52 1 54 56,c7 58 52 57,bD 59 52 (.conv (.int .u64) (.t 58)),kM 60 52 .mul 53 59,cG 61 52 8,bD 62 52 (.bin .shl .bR (.t 61) (.c (.int .u64 (.ofNat 32)))),cG 63 52 0,cG 64 52 5,bD 65 52 (.bin .sub .bR (.t 64) (ci 2)),mx 66 52 1 63 65,c7 67 52 66,bD 68 52 (.conv (.int .u64) (.t 67)),kM 69 52 .or 62 68,kM 70 52 .gtr 60 69,da 71 52 70] (some ⟨[0,1,2,3,4,5,6,7,8,9,10,11,12,13,14,15,16,17,18,19,20,21],[true,true,true,false,false,false,false,false,false,false,false,false,false,false,false,false,false,false,false,false,true,true],[]⟩)) (cN 71 0)) (.block 1 (af [m 72 7,o 73 (.bin .sub .bR (.t 72) (.c (.int .u64 (.ofNat 1)))),m 7 73] (.bs [m 74 8,m 75 1,m 76 5,bb 77 .sub 76 1,ba 78 1 75 77,au 79 78,dU 80 .u64 79,bp 81 .add 74 80,m 8 81])))))) p6)))))),[.slot 4]⟩
def wQ:aG:=af (m 113 12::bd 114 F.ek 113::m 115 11::bd 116 F.ek 115::m 117 10::bH 118 F.mF 116 117::[m 4 114,m 5 118,ij 6]) .ret
def wP:aG:=af [m 87 11,bC 88 87,m 89 7,bC 90 89,bp 91 .sub 88 90,o 92 (.mkSlice [(.int .u32 (.ofNat 0))] 4 (.t 91) (.t 91)),m 12 92] (.seq (af [m 93 12,bC 94 93,bb 95 .sub 94 1,m 13 95] (.block 3 (.loop (.seq (af [m 96 13,bb 97 .geq 96 0] (cN 97 3)) (.seq (.block 4 (.bs (m 100 12::m 101 13::m 102 11::m 103 13::m 104 13::m 105 7::bC 106 105::bp 107 .add 104 106::bb 108 .add 107 1::o 109 (.ji 1 (.t 102) (some (.t 103)) (some (.t 108)) none)::m 110 7::bH 111 F.rD 109 110::[ba 112 1 100 101,bP 1 112 111]))) (.bs [m 98 13,bb 99 .sub 98 1,m 13 99])))))) wQ)
def rA:aG:=.seq (.block 1 (.loop (.seq (af [m 76 11,bC 77 76,m 78 0,bW 79 78,aB 80 0 79,au 81 80,bC 82 81,bp 83 .leq 77 82] (cN 83 1)) (.block 2 (.bs [m 84 11,o 85 (.buildSlice [(.int .u32 (.ofNat 0))] 1 1 [(0,1,(.c (.int .u32 (.ofNat 0))))]),j9 86 1 4 84 85,m 11 86]))))) wP
def p2:aG:=af (m 47 7::m 48 7::bC 49 48::bb 50 .sub 49 1::ba 51 1 47 50::au 52 51::dU 53 .u64 52::bd 54 F.ow 53::[o 55 (.bin .sub .bR (ci 32) (.t 54)),m 10 55]) (af (m 56 1::m 57 10::bH 58 F.nT 56 57::[bW 59 58,aB 60 0 59,au 61 60,m 7 61]) (.seq (.draw [m 62 0,bW 63 62,aB 64 0 63,au 65 64,bC 66 65,bb 67 .add 66 2,o 68 (.mkSlice [(.int .u32 (.ofNat 0))] 4 (ci 0) (.t 67)),m 69 0,m 70 10,bH 71 F.nT 69 70,bW 72 71,aB 73 0 72,au 74 73,j9 75 1 4 68 74,m 11 75] (some ⟨[0,1,2,3,4,5,6,7,8,9,10,11,12,13,14],c' 13 2,[(9,3),(9,4),(6,9),(6,12)]⟩)) rA))
@[simp] def mD:bg:=⟨119,(af [dz 4,dz 5,cd 6] (af (m 14 1::bd 15 F.dx 14::[m 7 15]) (.seq (.block 0 (af [m 17 7,bC 18 17,bb 19 .eql 18 0,m 16 19] (.cond (.t 16) (af [dz 4,dz 5,cd 6] .ret) (af (m 21 0::m 22 1::bH 23 F.lp 21 22::[bb 24 .lss 23 0,m 20 24]) (.cond (.t 20) (af (o 25 (.call F.ek [(.c (.slice none 0 0))])::m 26 0::bd 27 F.dx 26::bd 28 F.ek 27::[m 4 25,m 5 28,ij 6]) .ret) (af [m 30 7,bC 31 30,bb 32 .eql 31 1,m 29 32] (.cond (.t 29) (.seq (.draw [m 34 0,bd 35 F.dx 34,m 36 7,o 37 (.lV 1 (.t 36) (ci 0)),au 38 37,dU 39 .u64 38,bH 40 F.p5 35 39,m 33 40,bm 41 33 0,bm 42 33 1,m 8 41,m 9 42] (some ⟨[0,2,3,4,5,1,6,7,8,9,10,11],c' 6 6,[(5,3),(5,4)]⟩)) (af (m 43 8::bd 44 F.ek 43::m 45 9::bd 46 F.hk 45::[m 4 44,m 5 46,ij 6]) .ret)) .skip))))))) p2))),[.slot 4,.slot 5,.slot 6]⟩
@[simp] def p4:bg:=⟨12,(af [o 4 (.dw (.c (.int .u64 (.ofNat 0))))] (.seq (.block 0 (.loop (.seq (af [m 5 1,o 6 (.bin .neq .bR (.t 5) (.c (.int .u64 (.ofNat 0))))] (cN 6 0)) (.block 1 (.draw [m 7 1,m 8 0,m 9 1,bp 10 .rem 8 9,m 0 7,m 1 10] (some ⟨[0,1,2,3,4,5],c' 0 6,[]⟩)))))) (af [m 11 0,m 4 11] .ret))),[.slot 4]⟩
def mG:aG:=af (m 38 0::m 39 1::bH 40 F.nR 38 39::[m 37 40,bm 41 37 0,bm 42 37 1,m 6 41,m 7 42]) (af (m 43 6::m 44 6::bd 45 F.mE 44::bH 46 F.mF 43 45::[m 0 46]) (af [m 47 0,bW 48 47,aB 49 0 48,au 50 49,bC 51 50,bb 52 .leq 51 2,m 53 52,cG 54 53 1,bD 55 53 (.nilCheck (.t 54)),eG 56 53 0 55,c7 57 53 56,bD 58 53 (.len .l (.t 57)),bD 59 53 (.bin .leq .bR (.t 58) (ci 2)),da 60 53 59] (.cond (.t 60) (af (m 62 0::bd 63 F.nS 62::[m 61 63,bm 64 61 0,bm 65 61 1,m 8 64,m 9 65]) (af (m 67 1::bd 68 F.nS 67::[m 66 68,bm 69 66 0,bm 70 66 1,m 10 69,m 11 70]) (af (m 71 8::m 72 10::bH 73 F.p4 71 72::bd 74 F.hk 73::m 75 5::bH 76 F.nT 74 75::[m 4 76]) .ret))) .skip)))
@[simp] def rC:bg:=⟨77,(af [dz 4] (af (m 12 0::bd 13 F.mE 12::m 14 1::bd 15 F.mE 14::[o 16 (.min2 (.t 13) (.t 15)),m 5 16]) (af (m 17 0::m 18 0::bd 19 F.mE 18::bH 20 F.mF 17 19::m 21 1::m 22 1::bd 23 F.mE 22::bH 24 F.mF 21 23::[m 0 20,m 1 24]) (.block 0 (.loop (.block 1 (.seq (af [m 25 0,m 26 1,bH 27 F.lp 25 26] (.block 2 (af [bb 29 .eql 27 0,m 28 29] (.cond (.t 28) (af (m 30 0::m 31 5::bH 32 F.nT 30 31::[m 4 32]) .ret) (af [o 34 (.bin .eql .bR (.t 27) (.c (.int .i64 (.negSucc 0)))),m 33 34] (.cond (.t 33) (.bs [m 35 1,m 36 0,m 0 35,m 1 36]) .skip)))))) mG))))))),[.slot 4]⟩
def nQ:aG:=.seq (af (m 34 6::bd 35 F.dx 34::[bC 36 35,bb 37 .eql 36 0]) (.cond (.t 37) (af (m 38 5::bd 39 F.dx 38::bd 40 F.ek 39::[m 4 40]) .ret) .skip)) (.seq (af (m 41 5::bd 42 F.dx 41::bC 43 42::m 44 6::bd 45 F.dx 44::[bC 46 45,bp 47 .neq 43 46]) (.cond (.t 47) (af (m 49 5::m 50 6::bH 51 F.mD 49 50::[m 48 51,bm 52 48 0,bm 53 48 1,bm 54 48 2,m 11 52,m 12 53,m 13 54]) (af [m 55 6,m 56 12,m 5 55,m 6 56] (.exit 1))) .skip)) (af (m 57 5::m 58 6::bH 59 F.rC 57 58::[m 4 59]) .ret))
@[simp] def rB:bg:=⟨60,(af [dz 4] (af [m 14 0,m 15 1,m 5 14,m 6 15] (.block 0 (.loop (.block 1 (af (m 17 5::bd 18 F.nS 17::[m 16 18,bm 19 16 0,bm 20 16 1,m 7 19,m 8 20]) (af (m 22 6::bd 23 F.nS 22::[m 21 23,bm 24 21 0,bm 25 21 1,m 9 24,m 10 25]) (.seq (af [m 26 8,m 27 26,cG 28 27 10,da 29 27 28] (.cond (.t 29) (af (m 30 7::m 31 9::bH 32 F.p4 30 31::bd 33 F.hk 32::[m 4 33]) .ret) .skip)) nQ)))))))),[.slot 4]⟩
@[simp] def p3:bg:=⟨41,(af [o 2 (.dw (.c (.string ⟨#[]⟩)))] (af (m 8 0::bd 9 F.dx 8::[o 10 (.append 1 4 (.c (.slice none 0 0)) (.t 9)),m 3 10]) (af [o 4 (.dw (.c (.string ⟨#[]⟩)))] (.seq (.block 0 (.loop (.seq (af [m 11 3,bC 12 11,bb 13 .gtr 12 0] (cN 13 0)) (.block 1 (af (m 15 3::o 16 (.call F.p5 [(.t 15),(.c (.int .u64 (.ofNat 1000000000)))])::[m 14 16,bm 17 14 0,bm 18 14 1,m 5 17,m 6 18]) (af (m 19 5::bd 20 F.ek 19::[bW 21 20,aB 22 0 21,au 23 22,m 3 23]) (af (m 24 6::o 25 (.call F.Jt [(.t 24),(ci 10)])::[m 7 25]) (.seq (af [m 26 3,bC 27 26,bb 28 .gtr 27 0] (.cond (.t 28) (.bs (m 29 7::p0 30 29::o 31 (.bin .sub .bR (ci 9) (.t 30))::o 32 (.call F.JB [(.c (.string ⟨#[48]⟩)),(.t 31)])::[m 33 7,bp 34 .add 32 33,m 7 34])) .skip)) (.bs [m 35 7,m 36 4,bp 37 .add 35 36,m 4 37]))))))))) (.seq (af [m 38 4,o 39 (.bin .eql .bR (.t 38) (.c (.string ⟨#[]⟩)))] (.cond (.t 39) (af [o 2 (.dw (.c (.string ⟨#[48]⟩)))] .ret) .skip)) (af [m 40 4,m 2 40] .ret)))))),[.slot 2]⟩
def s8:aG:=af (o 30 (.call F.ek [(.c (.slice none 0 0))])::[m 4 30]) (.seq (af [m 31 0,p0 32 31,bb 33 .rem 32 9,m 5 33] (.block 0 (.loop (.seq (af [m 34 0,o 35 (.bin .neq .bR (.t 34) (.c (.string ⟨#[]⟩)))] (cN 35 0)) (.seq (.block 1 (af [m 36 5,bb 37 .gtr 36 0] (.cond (.t 37) (af (m 39 0::m 40 5::o 41 (.k2 (.t 39) none (some (.t 40)))::o 42 (.call F.Ju [(.t 41),(ci 10),(ci 32)])::[m 38 42,bm 43 38 0,bm 44 38 1,m 6 43,m 7 44]) (af (m 45 4::o 46 (.call F.hk [(.c (.int .u64 (.ofNat 1000000000)))])::bH 47 F.kg 45 46::m 48 6::bd 49 F.hk 48::bH 50 F.nP 47 49::[m 4 50]) (.bs [m 51 0,m 52 5,o 53 (.k2 (.t 51) (some (.t 52)) none),m 0 53]))) .skip))) (.bs [bT 5 9])))))) (af [m 54 4,m 2 54,ij 3] .ret))
def zl:aG:=.cond (.t 29) (af [dz 2,cd 3] .ret) .skip
def zm:List aE:=[b2 28 25 (.bin .neq .bR (.t 27) (.c (.string ⟨#[]⟩))),eh 29 25 28]
@[simp] def oR:bg:=⟨55,(af [dz 2,cd 3] (.seq (af (m 8 0::o 9 (.bin .eql .bR (.t 8) (.c (.string ⟨#[]⟩)))::m 10 9::di 11 10 0::b2 12 10 (.len .s (.t 11))::b2 13 10 (.bin .gtr .bR (.t 12) (ci 2000))::eh 14 10 13::m 15 14::di 16 15 0::b2 17 15 (.len .s (.t 16))::b2 18 15 (.bin .gtr .bR (.t 17) (ci 1))::di 19 15 18::cG 20 19 0::bD 21 19 (.mB (.t 20) (ci 0))::bD 22 19 (.bin .eql .bR (.t 21) (.c (.int .u8 (.ofNat 48))))::b2 23 15 (.pick (.t 19) (.t 22) (.c (.bool false)))::eh 24 15 23::m 25 24::di 26 25 0::b2 27 25 (.call F.Am [(.t 26),(.c (.string ⟨#[48,49,50,51,52,53,54,55,56,57]⟩))])::zm) zl) s8)),[.slot 2,.slot 3]⟩
@[simp] def ow:bg:=⟨23,(af [bT 2 0] (af [bT 3 0] (.seq (af [bT 4 32] (.block 0 (.loop (.seq (af [m 5 4,bb 6 .gtr 5 0] (cN 6 0)) (.seq (.block 1 (af [m 9 0,m 10 4,bp 11 .shr 9 10,o 12 (.bin .neq .bR (.t 11) (.c (.int .u64 (.ofNat 0))))] (.cond (.t 12) (af [m 13 0,m 14 4,bp 15 .shr 13 14,m 0 15] (.bs [m 16 3,m 17 4,bp 18 .add 16 17,m 3 18])) .skip))) (.bs [m 7 4,bb 8 .quo 7 2,m 4 8])))))) (af [m 19 3,m 20 0,dU 21 .i64 20,bp 22 .add 19 21,m 2 22] .ret)))),[.slot 2]⟩
@[simp] def q0:bg:=⟨11,(af [bT 2 0] (.seq (af [m 3 0,o 4 (.bin .eql .bR (.t 3) (.c (.int .u64 (.ofNat 0))))] (.cond (.t 4) (af [bT 2 64] .ret) .skip)) (af (m 5 0::m 6 0::o 7 (.un .neg (.t 6))::bp 8 .and 5 7::bd 9 F.ow 8::[bb 10 .sub 9 1,m 2 10]) .ret))),[.slot 2]⟩
@[simp] def qZ:bg:=⟨10,(af [o 2 (.dw (.c (.int .u64 (.ofNat 0))))] (.seq (af [m 3 0,bb 4 .lss 3 0] (.cond (.t 4) (af [m 5 0,dU 6 .u64 5,o 7 (.un .neg (.t 6)),m 2 7] .ret) .skip)) (af [m 8 0,dU 9 .u64 8,m 2 9] .ret))),[.slot 2]⟩
@[simp] def ph:bg:=⟨13,(af [o 4 (.dw (.c (.string ⟨#[]⟩))),o 5 (.dw (.c (.string ⟨#[]⟩))),cd 6] (af (m 7 0::m 8 1::bH 9 F.pc 7 8::[bm 10 9 0,bm 11 9 1,bm 12 9 2,m 4 10,m 5 11,m 6 12]) .ret)),[.slot 4,.slot 5,.slot 6]⟩
@[simp] def pj:bg:=⟨11,(af [o 4 (.dw (.c (.string ⟨#[]⟩))),cd 5] (af (m 6 0::m 7 1::bH 8 F.pd 6 7::[bm 9 8 0,bm 10 8 1,m 4 9,m 5 10]) .ret)),[.slot 4,.slot 5]⟩
@[simp] def ly:bg:=⟨6,(af [cd 2] (af (m 3 0::bd 4 F.rz 3::[bb 5 .eql 4 0,m 2 5]) .ret)),[.slot 2]⟩
@[simp] def jE:bg:=⟨28,(af [cd 2,dz 3,dz 4] (.seq (af [m 5 0,kT 6 .eql 5,m 7 6,di 8 7 0,b2 9 7 (.nilCheck (.t 8)),eQ 10 7 2 9,dR 11 7 10,b2 12 7 (.bin .eql (.nil .ptr) (.t 11) (.c (.pointer none))),eh 13 7 12] (.cond (.t 13) (af (o 14 (.call F.hk [(.c (.int .u64 (.ofNat 0)))])::o 15 (.call F.hk [(.c (.int .u64 (.ofNat 1)))])::[cd 2,m 3 14,m 4 15]) .ret) .skip)) (.seq (.draw [m 16 0,bW 17 16,aB 18 0 17,au 19 18,m 20 0,bW 21 20,aB 22 1 21,au 23 22,m 24 0,bW 25 24,aB 26 2 25,au 27 26,m 2 19,m 3 23,m 4 27] (some ⟨[0,1,2,3,4,5,6,7,8,9,10,11,12,13,14],c' 14 1,[]⟩)) .ret))),[.slot 2,.slot 3,.slot 4]⟩
def oY:aG:=.seq (af [m 32 1,kT 33 .eql 32] (.cond (.t 33) (.bs (o 34 (.call F.hk [(.c (.int .u64 (.ofNat 0)))])::[m 1 34])) .skip)) (af (m 35 0::m 36 35::cG 37 36 1::bD 38 36 (.call F.ly [(.t 37)])::[bD 39 36 (.un .not (.t 38)),da 40 36 39,m 41 1,m 42 2,o 43 (.build [(.bool false),(.pointer none),(.pointer none)] [(0,1,(.t 40)),(1,1,(.t 41)),(2,1,(.t 42))]),ei 44 143 43,m 6 44,ij 7]) .ret)
abbrev T.IZ:Nat:=143
@[simp] def qj:bg:=⟨45,(af [dz 6,cd 7] (.seq (af [m 9 2,bd 10 F.ly 9] (.cond (.t 10) (af [dz 6,cd 7] .ret) .skip)) (.seq (af (m 11 1::m 12 2::bH 13 F.rB 11 12::[m 8 13]) (af (m 14 8::o 15 (.call F.hk [(.c (.int .u64 (.ofNat 1)))])::bH 16 F.lp 14 15::[bb 17 .neq 16 0]) (.cond (.t 17) (af (m 19 1::m 20 8::bH 21 F.mD 19 20::[m 18 21,bm 22 18 0,bm 23 18 1,bm 24 18 2,m 1 22]) (.bs (m 26 2::m 27 8::bH 28 F.mD 26 27::[m 25 28,bm 29 25 0,bm 30 25 1,bm 31 25 2,m 2 29]))) .skip))) oY))),[.slot 6,.slot 7]⟩
abbrev T.aai:Nat:=143
@[simp] def hF:bg:=⟨11,(af [dz 2] (af (m 3 0::bb 4 .lss 3 0::m 5 0::bd 6 F.qZ 5::bd 7 F.hk 6::o 8 (.call F.hk [(.c (.int .u64 (.ofNat 1)))])::[o 9 (.build [(.bool false),(.pointer none),(.pointer none)] [(0,1,(.t 4)),(1,1,(.t 7)),(2,1,(.t 8))]),ei 10 143 9,m 2 10]) .ret)),[.slot 2]⟩
@[simp] def l2:bg:=⟨17,(af [dz 6] (af (m 10 0::m 11 1::m 12 2::hR 13 F.qj 10 11 12::[m 9 13,bm 14 9 0,bm 15 9 1,m 7 14,m 8 15]) (af [m 16 7,m 6 16] .ret))),[.slot 6]⟩
@[simp] def hW:bg:=⟨28,(af [o 2 (.dw (.c (.string ⟨#[]⟩)))] (af (m 9 0::bd 10 F.jE 9::[m 8 10,bm 11 8 0,bm 12 8 1,bm 13 8 2,m 3 11,m 4 12,m 5 13]) (af (m 14 4::bd 15 F.p3 14::[m 6 15]) (.seq (af [m 16 3] (.cond (.t 16) (.bs [m 17 6,o 18 (.bin .add .bR (.c (.string ⟨#[45]⟩)) (.t 17)),m 6 18]) .skip)) (.seq (af (m 19 5::bd 20 F.p3 19::[m 7 20]) (af [m 21 7,o 22 (.bin .neq .bR (.t 21) (.c (.string ⟨#[49]⟩)))] (.cond (.t 22) (.bs [m 23 6,m 24 7,o 25 (.bin .add .bR (.c (.string ⟨#[47]⟩)) (.t 24)),bp 26 .add 23 25,m 6 26]) .skip))) (af [m 27 6,m 2 27] .ret)))))),[.slot 2]⟩
def oX:aG:=af (m 47 5::m 48 9::m 49 11::hR 50 F.l2 47 48 49::[m 13 50]) (.seq (af (m 51 13::bd 52 F.hW 51::[m 53 0,bp 54 .neq 52 53]) (.cond (.t 54) (af [dz 2,cd 3] .ret) .skip)) (af [m 55 13,m 2 55,ij 3] .ret))
def u2:aG:=af (m 28 6::bd 29 F.oR 28::[m 27 29,bm 30 27 0,bm 31 27 1,m 9 30,m 10 31]) (af (m 33 7::bd 34 F.oR 33::[m 32 34,bm 35 32 0,bm 36 32 1,m 11 35,m 12 36]) (.seq (af (m 37 10::fI 38 37::m 39 38::di 40 39 12::b2 41 39 (.un .not (.t 40))::eh 42 39 41::m 43 42::di 44 43 11::b2 45 43 (.call F.ly [(.t 44)])::[eh 46 43 45]) (.cond (.t 46) (af [dz 2,cd 3] .ret) .skip)) oX))
def w':aG:=af (m 20 4::o 21 (.call F.ph [(.t 20),(.c (.string ⟨#[47]⟩))])::[m 19 21,bm 22 19 0,bm 23 19 1,bm 24 19 2,m 6 22,m 7 23,m 8 24]) (.seq (af [m 25 8,fI 26 25] (.cond (.t 26) (.bs [o 7 (.dw (.c (.string ⟨#[49]⟩)))]) .skip)) u2)
@[simp] def jc:bg:=⟨56,(af [dz 2,cd 3] (af (m 15 0::o 16 (.call F.pj [(.t 15),(.c (.string ⟨#[45]⟩))])::[m 14 16,bm 17 14 0,bm 18 14 1,m 4 17,m 5 18]) w')),[.slot 2,.slot 3]⟩
@[simp] def qk:bg:=⟨38,(af [cd 8,dz 9] (.seq (af [m 14 0,m 15 2,o 16 (.bin .eql .bool (.t 14) (.t 15))] (.cond (.t 16) (af (m 17 0::m 18 1::m 19 3::bH 20 F.nP 18 19::[m 8 17,m 9 20]) .ret) .skip)) (.seq (af (m 22 1::m 23 3::bH 24 F.nR 22 23::[m 21 24,bm 25 21 0,bm 26 21 1,m 10 25,m 11 26]) (af [m 27 11] (.cond (.t 27) (af [m 28 0,m 29 10,m 8 28,m 9 29] .ret) .skip))) (af (m 31 3::m 32 1::bH 33 F.nR 31 32::[m 30 33,bm 34 30 0,bm 35 30 1,m 12 34,m 13 35]) (af [m 36 2,m 37 12,m 8 36,m 9 37] .ret))))),[.slot 8,.slot 9]⟩
@[simp] def hV:bg:=⟨67,(af [dz 4] (af (m 16 0::bd 17 F.jE 16::[m 15 17,bm 18 15 0,bm 19 15 1,bm 20 15 2,m 5 18,m 6 19,m 7 20]) (af (m 22 1::bd 23 F.jE 22::[m 21 23,bm 24 21 0,bm 25 21 1,bm 26 21 2,m 8 24,m 9 25,m 10 26]) (.seq (af [m 27 6,bd 28 F.ly 27] (.cond (.t 28) (af (m 29 8::m 30 9::m 31 10::hR 32 F.l2 29 30 31::[m 4 32]) .ret) .skip)) (.seq (af (m 33 7::m 34 10::bH 35 F.lp 33 34::[bb 36 .eql 35 0]) (.cond (.t 36) (af (m 38 5::m 39 6::m 40 8::m 41 9::o 42 (.call F.qk [(.t 38),(.t 39),(.t 40),(.t 41)])::[m 37 42,bm 43 37 0,bm 44 37 1,m 11 43,m 12 44]) (af (m 45 11::m 46 12::m 47 7::hR 48 F.l2 45 46 47::[m 4 48]) .ret)) .skip)) (af (m 50 5::m 51 6::m 52 10::bH 53 F.kg 51 52::m 54 8::m 55 9::m 56 7::bH 57 F.kg 55 56::o 58 (.call F.qk [(.t 50),(.t 53),(.t 54),(.t 57)])::[m 49 58,bm 59 49 0,bm 60 49 1,m 13 59,m 14 60]) (af (m 61 13::m 62 14::m 63 7::m 64 10::bH 65 F.kg 63 64::hR 66 F.l2 61 62 65::[m 4 66]) .ret))))))),[.slot 4]⟩
abbrev T.IY:Nat:=143
@[simp] def kU:bg:=⟨23,(af [dz 2] (af (m 7 0::bd 8 F.jE 7::[m 6 8,bm 9 6 0,bm 10 6 1,bm 11 6 2,m 3 9,m 4 10,m 5 11]) (af (m 12 3::fI 13 12::m 14 13::cG 15 14 4::bD 16 14 (.call F.ly [(.t 15)])::[bD 17 14 (.un .not (.t 16)),da 18 14 17,m 19 4,m 20 5,o 21 (.build [(.bool false),(.pointer none),(.pointer none)] [(0,1,(.t 18)),(1,1,(.t 19)),(2,1,(.t 20))]),ei 22 143 21,m 2 22]) .ret))),[.slot 2]⟩
@[simp] def kV:bg:=⟨9,(af [dz 4] (af (m 5 0::m 6 1::bd 7 F.kU 6::bH 8 F.hV 5 7::[m 4 8]) .ret)),[.slot 4]⟩
@[simp] def im:bg:=⟨33,(af [dz 4] (af (m 12 0::bd 13 F.jE 12::[m 11 13,bm 14 11 0,bm 15 11 1,bm 16 11 2,m 5 14,m 6 15,m 7 16]) (af (m 18 1::bd 19 F.jE 18::[m 17 19,bm 20 17 0,bm 21 17 1,bm 22 17 2,m 8 20,m 9 21,m 10 22]) (af (m 23 5::m 24 8::o 25 (.bin .neq .bool (.t 23) (.t 24))::m 26 6::m 27 9::bH 28 F.kg 26 27::m 29 7::m 30 10::bH 31 F.kg 29 30::hR 32 F.l2 25 28 31::[m 4 32]) .ret)))),[.slot 4]⟩
@[simp] def lx:bg:=⟨36,(af [dz 4,cd 5] (af (m 13 0::bd 14 F.jE 13::[m 12 14,bm 15 12 0,bm 16 12 1,bm 17 12 2,m 6 15,m 7 16,m 8 17]) (af (m 19 1::bd 20 F.jE 19::[m 18 20,bm 21 18 0,bm 22 18 1,bm 23 18 2,m 9 21,m 10 22,m 11 23]) (af (m 24 6::m 25 9::o 26 (.bin .neq .bool (.t 24) (.t 25))::m 27 7::m 28 11::bH 29 F.kg 27 28::m 30 8::m 31 10::bH 32 F.kg 30 31::hR 33 F.qj 26 29 32::[bm 34 33 0,bm 35 33 1,m 4 34,m 5 35]) .ret)))),[.slot 4,.slot 5]⟩
@[simp] def hr:bg:=⟨9,(af [bT 4 0] (af (m 5 0::m 6 1::bH 7 F.kV 5 6::bd 8 F.fb 7::[m 4 8]) .ret)),[.slot 4]⟩
@[simp] def fb:bg:=⟨17,(af [bT 2 0] (af (m 7 0::bd 8 F.jE 7::[m 6 8,bm 9 6 0,bm 10 6 1,bm 11 6 2,m 3 9,m 4 10,m 5 11]) (.seq (.block 0 (af [m 13 3,m 12 13] (.cond (.t 12) (af [i' 2 0] .ret) (af (m 15 4::bd 16 F.ly 15::[m 14 16]) (.cond (.t 14) (af [bT 2 0] .ret) .skip))))) (af [bT 2 1] .ret)))),[.slot 2]⟩
def nX:aG:=af (m 31 3::m 32 6::o 33 (.call F.hk [(.c (.int .u64 (.ofNat 1)))])::hR 34 F.l2 31 32 33::[m 2 34]) .ret
@[simp] def nW:bg:=⟨35,(af [dz 2] (af (m 10 0::bd 11 F.jE 10::[m 9 11,bm 12 9 0,bm 13 9 1,bm 14 9 2,m 3 12,m 4 13,m 5 14]) (af (m 16 4::m 17 5::bH 18 F.mD 16 17::[m 15 18,bm 19 15 0,bm 20 15 1,bm 21 15 2,m 6 19,m 7 20,m 8 21]) (.seq (af (m 22 3::m 23 22::cG 24 23 7::bD 25 23 (.call F.ly [(.t 24)])::[bD 26 23 (.un .not (.t 25)),da 27 23 26]) (.cond (.t 27) (.bs (m 28 6::o 29 (.call F.hk [(.c (.int .u64 (.ofNat 1)))])::bH 30 F.nP 28 29::[m 6 30])) .skip)) nX)))),[.slot 2]⟩
@[simp] def l1:bg:=⟨16,(af [cd 2] (af (m 7 0::bd 8 F.jE 7::[m 6 8,bm 9 6 0,bm 10 6 1,bm 11 6 2,m 3 9,m 4 10,m 5 11]) (af (m 12 5::o 13 (.call F.hk [(.c (.int .u64 (.ofNat 1)))])::bH 14 F.lp 12 13::[bb 15 .eql 14 0,m 2 15]) .ret))),[.slot 2]⟩
@[simp] def pd:bg:=⟨15,(af [o 4 (.dw (.c (.string ⟨#[]⟩))),cd 5] (.seq (af (m 6 0::m 7 1::bH 8 F.pe 6 7::[fI 9 8]) (.cond (.t 9) (af [m 10 0,m 4 10,cd 5] .ret) .skip)) (af [m 11 0,m 12 1,p0 13 12,o 14 (.k2 (.t 11) (some (.t 13)) none),m 4 14,ij 5] .ret))),[.slot 4,.slot 5]⟩
@[simp] def pc:bg:=⟨23,(af [o 4 (.dw (.c (.string ⟨#[]⟩))),o 5 (.dw (.c (.string ⟨#[]⟩))),cd 6] (.seq (af (m 8 0::m 9 1::bH 10 F.r0 8 9::[m 7 10]) (af [m 11 7,bb 12 .geq 11 0] (.cond (.t 12) (.seq (.draw [m 13 0,m 14 7,o 15 (.k2 (.t 13) none (some (.t 14))),m 16 0,m 17 7,m 18 1,p0 19 18,bp 20 .add 17 19,o 21 (.k2 (.t 16) (some (.t 20)) none),m 4 15,m 5 21,ij 6] (some ⟨[0,1,2,3,4,5,6,7,8,9,10,11],[false,false,false,false,false,true,true,true,true,false,true,true],[]⟩)) .ret) .skip))) (af [m 22 0,m 4 22,o 5 (.dw (.c (.string ⟨#[]⟩))),cd 6] .ret))),[.slot 4,.slot 5,.slot 6]⟩
@[simp] def pe:bg:=⟨18,(af [cd 4] (af [m 5 0,p0 6 5,m 7 1,p0 8 7,bp 9 .geq 6 8,m 10 9,cG 11 10 0,cG 12 10 1,bD 13 10 (.len .s (.t 12)),bD 14 10 (.k2 (.t 11) none (some (.t 13))),cG 15 10 1,kM 16 10 .eql 14 15,da 17 10 16,m 4 17] .ret)),[.slot 4]⟩
@[simp] def r0:bg:=⟨143,(af [bT 4 0] (af [m 14 1,p0 15 14,m 5 15] (.seq (.block 0 (af [m 17 5,bb 18 .eql 17 0,m 19 18,di 20 19 1,di 21 19 0,oH 22 19 .eql 20 21,eh 23 19 22,m 16 23] (.cond (.t 16) (af [bT 4 0] .ret) (af [m 25 5,bb 26 .eql 25 1,m 24 26] (.cond (.t 24) (af (m 27 0::m 28 1::o 29 (.mB (.t 28) (ci 0))::bH 30 F.qz 27 29::[m 4 30]) .ret) (af [m 32 5,m 33 0,p0 34 33,bp 35 .geq 32 34,m 31 35] (.cond (.t 31) (af [i' 4 0] .ret) (af [m 37 5,au 38 1000000007,bp 39 .leq 37 38,m 40 39,cG 41 40 0,bD 42 40 (.len .s (.t 41)),bD 43 40 (.bin .leq .bR (.t 42) (ci 64)),da 44 40 43,m 36 44] (.cond (.t 36) (af (m 45 0::m 46 1::bH 47 303 45 46::[m 4 47]) .ret) .skip))))))))) (af [m 48 1,o 49 (.mB (.t 48) (ci 0)),m 6 49] (af [m 50 1,o 51 (.mB (.t 50) (ci 1)),m 7 51] (af [bT 8 0] (af [m 52 0,p0 53 52,m 54 5,bp 55 .sub 53 54,bb 56 .add 55 1,m 9 56] (af [bT 10 0] (.seq (.block 1 (.loop (.seq (af [m 57 8,m 58 9,bp 59 .lss 57 58] (cN 59 1)) (.block 2 (.seq (af [m 60 0,m 61 8,o 62 (.mB (.t 60) (.t 61)),m 63 6,bp 64 .neq 62 63] (.cond (.t 64) (af (m 65 0::m 66 8::bb 67 .add 66 1::m 68 9::o 69 (.k2 (.t 65) (some (.t 67)) (some (.t 68)))::m 70 6::bH 71 F.qz 69 70::[m 11 71]) (.seq (af [m 72 11,bb 73 .lss 72 0] (.cond (.t 73) (af [i' 4 0] .ret) .skip)) (.bs [m 74 8,m 75 11,bb 76 .add 75 1,bp 77 .add 74 76,m 8 77]))) .skip)) (.seq (af [m 78 0,m 79 8,bb 80 .add 79 1,o 81 (.mB (.t 78) (.t 80)),m 82 7,bp 83 .eql 81 82,m 84 83,cG 85 84 0,cG 86 84 8,cG 87 84 8,cG 88 84 5,kM 89 84 .add 87 88,bD 90 84 (.k2 (.t 85) (some (.t 86)) (some (.t 89))),cG 91 84 1,kM 92 84 .eql 90 91,da 93 84 92] (.cond (.t 93) (af [m 94 8,m 4 94] .ret) .skip)) (af [m 95 8,bb 96 .add 95 1,m 8 96] (af [m 97 10,bb 98 .add 97 1,m 10 98] (af (m 99 5::au 100 1000000007::bp 101 .leq 99 100::m 102 101::cG 103 102 10::cG 104 102 8::bD 105 102 (.call 304 [(.t 104)])::[kM 106 102 .gtr 103 105,da 107 102 106]) (.cond (.t 107) (af (m 108 0::m 109 8::o 110 (.k2 (.t 108) (some (.t 109)) none)::m 111 1::bH 112 303 110 111::[m 12 112]) (.seq (af [m 113 12,bb 114 .geq 113 0] (.cond (.t 114) (af [m 115 12,m 116 8,bp 117 .add 115 116,m 4 117] .ret) .skip)) (af [i' 4 0] .ret))) (af [m 118 5,au 119 1000000007,bp 120 .gtr 118 119,m 121 120,cG 122 121 10,cG 123 121 8,bD 124 121 (.bin .shr .bR (.t 123) (.c (.int .u64 (.ofNat 4)))),bD 125 121 (.bin .add .bR (ci 4) (.t 124)),kM 126 121 .geq 122 125,da 127 121 126,m 128 127,cG 129 128 8,cG 130 128 9,kM 131 128 .lss 129 130,da 132 128 131] (.cond (.t 132) (af (m 133 0::m 134 8::o 135 (.k2 (.t 133) (some (.t 134)) none)::m 136 1::bH 137 305 135 136::[m 13 137]) (.seq (af [m 138 13,bb 139 .lss 138 0] (.cond (.t 139) (af [i' 4 0] .ret) .skip)) (af [m 140 8,m 141 13,bp 142 .add 140 141,m 4 142] .ret))) .skip)))))))))))) (af [i' 4 0] .ret)))))))))),[.slot 4]⟩
@[simp] def qz:bg:=⟨8,(af [bT 4 0] (af (m 5 0::m 6 1::bH 7 F.E' 5 6::[m 4 7]) .ret)),[.slot 4]⟩
@[simp] def lX:bg:=⟨11,(af [cd 2] (af (m 6 0::bd 7 F.jc 6::[m 5 7,bm 8 5 0,bm 9 5 1,m 3 8,m 4 9]) (af [m 10 4,m 2 10] .ret))),[.slot 2]⟩
@[simp] def iI:bg:=⟨11,(af [dz 2] (af (m 6 0::bd 7 F.jc 6::[m 5 7,bm 8 5 0,bm 9 5 1,m 3 8,m 4 9]) (af [m 10 3,m 2 10] .ret))),[.slot 2]⟩
def kj:aG:=.seq (.draw [aB 29 1 1,au 30 29,o 31 (.bin .eql .bR (.t 30) (.c (.string ⟨#[]⟩))),m 32 31,eQ 33 32 2 1,dR 34 32 33,b2 35 32 (.bin .eql .bR (.t 34) (.c (.string ⟨#[]⟩))),eh 36 32 35,m 37 36,eQ 38 37 1 1,dR 39 37 38,b2 40 37 (.call F.iI [(.t 39)]),eQ 41 37 2 1,dR 42 37 41,b2 43 37 (.call F.iI [(.t 42)]),b2 44 37 (.call F.hr [(.t 40),(.t 43)]),b2 45 37 (.bin .leq .bR (.t 44) (ci 0)),eh 46 37 45,m 2 46] (some ⟨[0,1,2,3,4,5,6,7,8,9,10,12,13,11,14,15,16,17,18],[true,true,true,true,true,true,true,true,true,false,false,false,false,false,true,true,true,true,true],[(13,12)]⟩)) .ret
def qe:aG:=.cond (.t 28) (af [cd 2] .ret) .skip
def Ix:List aE:=[bD 26 22 (.un .not (.t 25)),b2 27 18 (.pick (.t 22) (.t 26) (.c (.bool false))),eh 28 18 27]
def mP:List aE:=bD 15 11 (.un .not (.t 14))::b2 16 7 (.pick (.t 11) (.t 15) (.c (.bool false)))::eh 17 7 16::m 18 17::eQ 19 18 2 1::dR 20 18 19::b2 21 18 (.bin .neq .bR (.t 20) (.c (.string ⟨#[]⟩)))::di 22 18 21::eG 23 22 2 1::c7 24 22 23::bD 25 22 (.call F.lX [(.t 24)])::Ix
abbrev T.RD:Nat:=38
@[simp] def rJ:bg:=⟨47,(af [ei 1 38 0,cd 2] (.seq (af (aB 3 3 1::au 4 3::bd 5 F.lX 4::fI 6 5::m 7 6::eQ 8 7 1 1::dR 9 7 8::b2 10 7 (.bin .neq .bR (.t 9) (.c (.string ⟨#[]⟩)))::di 11 7 10::eG 12 11 1 1::c7 13 11 12::bD 14 11 (.call F.lX [(.t 13)])::mP) qe) kj)),[.slot 2]⟩
def w4:aG:=af (aB 39 3 2::au 40 39::bd 41 F.lX 40::[m 42 41,eG 43 42 4 2,c7 44 42 43,bD 45 42 (.bin .eql .bR (.t 44) (.c (.string ⟨#[]⟩))),da 46 42 45,m 47 46,eG 48 47 1 2,c7 49 47 48,bD 50 47 (.bin .geq .bR (.t 49) (ci 1)),da 51 47 50,m 52 51,eG 53 52 1 2,c7 54 52 53,bD 55 52 (.bin .leq .bR (.t 54) (ci 3)),da 56 52 55,m 4 56]) .ret
def C3:aG:=af [bp 12 .lss 11 10] (.seq (cN 12 0) (.seq (.block 1 (af [ba 13 2 9 11,cO 14 2 13,o 7 (.alloc 43 [(.int .i64 (.ofNat 0)),(.string ⟨#[]⟩)]),bP 2 7 14] (.seq (af (aB 15 1 7::au 16 15::bd 17 F.lX 16::[fI 18 17,m 19 18,eQ 20 19 1 7,dR 21 19 20,b2 22 19 (.bin .eql .bR (.t 21) (.c (.string ⟨#[48]⟩))),eh 23 19 22,m 24 23,eQ 25 24 0 7,dR 26 24 25,di 27 24 5,oH 28 24 .leq 26 27,eh 29 24 28,m 30 29,eQ 31 30 0 7,dR 32 30 31,di 33 30 1,oH 34 30 .geq 32 33,eh 35 30 34]) (.cond (.t 35) (af [cd 4] .ret) .skip)) (.bs [aB 36 0 7,au 37 36,m 5 37])))) (.bs [bb 38 .add 11 1,m 11 38])))
abbrev T.ID:Nat:=28
abbrev T.C2:Nat:=43
@[simp] def rL:bg:=⟨57,(af [ei 2 28 0,cd 4] (af [i' 5 0] (.seq (af [aB 8 2 2,au 9 8,bC 10 9,bT 11 0] (.block 0 (.loop C3))) w4))),[.slot 4]⟩
def Ik:aG:=af (m 17 3::fI 18 17::m 19 18::eG 20 19 1 1::c7 21 19 20::bD 22 19 (.uM F.qb [(.t 1)])::bD 23 19 (.call F.pb [(.t 21),(.t 22)])::[bD 24 19 (.un .not (.t 23)),da 25 19 24,m 2 25]) .ret
def zA:aG:=af (aB 14 0 1::au 15 14::o 16 (.call F.qw [(.t 15),(.c (.func (.func 107) #[] #[]))])::[m 3 16]) Ik
abbrev T.Rz:Nat:=25
@[simp] def ki:bg:=⟨26,(af [ei 1 25 0,cd 2] (.seq (af [aB 4 0 1,au 5 4,bC 6 5,bb 7 .gtr 6 100,m 8 7,eQ 9 8 1 1,dR 10 8 9,b2 11 8 (.len .l (.t 10)),b2 12 8 (.bin .gtr .bR (.t 11) (ci 440)),eh 13 8 12] (.cond (.t 13) (af [cd 2] .ret) .skip)) zA)),[.slot 2]⟩
abbrev T.Ij:Nat:=38
@[simp] def rH:bg:=⟨6,(af [ei 1 38 0,cd 2] (af (cO 3 5 1::bd 4 F.rJ 3::[fI 5 4,m 2 5]) .ret)),[.slot 2]⟩
abbrev T.Z9:Nat:=28
@[simp] def qb:bg:=⟨10,(af [ei 2 28 0,cd 3] (af (cO 4 5 2::aB 5 0 1::au 6 5::bC 7 6::bH 8 F.rL 4 7::[fI 9 8,m 3 9]) .ret)),[.slot 3]⟩
def w3:aG:=af [m 29 6,m 30 0,bC 31 30,m 32 1,bp 33 .eql 31 32,m 4 29,m 5 33] .ret
def IC:aG:=af [bp 14 .lss 13 12] (.seq (cN 14 0) (.seq (.block 1 (af [ba 15 1 11 13,au 16 15,m 8 16] (af (m 18 8::bd 19 F.jc 18::[m 17 19,bm 20 17 0,bm 21 17 1,m 9 20,m 10 21]) (.seq (af [m 22 10,fI 23 22] (.cond (.t 23) (af [fx 4,cd 5] .ret) .skip)) (.bs [m 24 6,m 25 9,o 26 (.buildSlice [(.pointer none)] 1 1 [(0,1,(.t 25))]),j9 27 1 8 24 26,m 6 27]))))) (.bs [bb 28 .add 13 1,m 13 28])))
@[simp] def mQ:bg:=⟨34,(af [fx 4,cd 5] (af [fx 6] (.seq (af [m 11 0,bC 12 11,bT 13 0] (.block 0 (.loop IC))) w3))),[.slot 4,.slot 5]⟩
def uU:aG:=af (m 21 1::m 22 6::bd 23 F.iI 22::bH 24 F.im 21 23::[m 4 24,ij 5]) .ret
def w2:aG:=.seq (af (m 14 1::bd 15 F.fb 14::[bb 16 .neq 15 0,m 17 16,cG 18 17 6,bD 19 17 (.bin .eql .bR (.t 18) (.c (.string ⟨#[]⟩))),da 20 17 19]) (.cond (.t 20) (af [dz 4,cd 5] .ret) .skip)) uU
def IB:aG:=.cond (.t 11) (.bs [aB 12 2 2,au 13 12,m 6 13]) .skip
abbrev T.RF:Nat:=38
@[simp] def rK:bg:=⟨25,(af [ei 2 38 0,dz 4,cd 5] (af [aB 7 1 2,au 8 7,m 6 8] (.seq (af (m 9 1::bd 10 F.fb 9::[bb 11 .lss 10 0]) IB) w2))),[.slot 4,.slot 5]⟩
def H':aG:=af (m 154 13::bd 155 F.hW 154::[m 6 155,ij 7]) .ret
def CX:aG:=.seq (af [m 148 21,fI 149 148] (.cond (.t 149) (af [o 6 (.dw (.c (.string ⟨#[]⟩))),cd 7] .ret) .skip)) (.bs (m 150 13::m 151 20::bH 152 F.hV 150 151::[m 13 152]))
def H6:aG:=af [bp 135 .lss 134 133] (.seq (cN 135 6) (.seq (.block 7 (af [m 136 134,ba 137 5 132 134,cO 138 5 137,o 19 (.alloc 38 [(.string ⟨#[]⟩),(.string ⟨#[]⟩),(.string ⟨#[]⟩),(.string ⟨#[]⟩),(.bool false)]),m 18 136,bP 5 19 138] (.seq (.draw [cO 140 5 19,m 141 10,m 142 18,ba 143 1 141 142,au 144 143,bH 145 F.rK 140 144,m 139 145,bm 146 139 0,bm 147 139 1,m 20 146,m 21 147] (some ⟨[0,1,2,3,4,5,6,7,8,9,10],c' 5 6,[]⟩)) CX))) (.bs [bb 153 .add 134 1,m 134 153])))
def zy:aG:=.seq (af [aB 131 0 3,au 132 131,bC 133 132,bT 134 0] (.block 6 (.loop H6))) H'
def H7:aG:=af [bp 108 .lss 107 106] (.seq (cN 108 4) (.seq (.block 5 (af [ba 109 2 105 107,cO 110 2 109,o 17 (.alloc 43 [(.int .i64 (.ofNat 0)),(.string ⟨#[]⟩)]),bP 2 17 110] (.draw [m 111 10,aB 112 0 17,au 113 112,m 114 10,aB 115 0 17,au 116 115,ba 117 1 114 116,au 118 117,aB 119 1 17,au 120 119,bd 121 F.iI 120,m 122 8,m 123 14,ba 124 1 122 123,au 125 124,bH 126 F.im 121 125,bH 127 F.kV 118 126,ba 128 1 111 113,bP 1 128 127] (some ⟨[0,1,2,3,4,5,6,7,8,9,11,12,13,14,10,15,16,17,18],c' 17 2,[(14,2),(14,5),(14,7),(14,13),(15,2),(15,5),(15,7),(16,2)]⟩)))) (.bs [bb 129 .add 107 1,m 107 129])))
def te:aG:=af [aB 104 2 15,au 105 104,bC 106 105,bT 107 0] (.block 4 (.loop H7))
def mN:aG:=.seq (.draw [m 94 13,m 95 8,m 96 14,ba 97 1 95 96,au 98 97,aB 99 3 15,au 100 99,bd 101 F.iI 100,bH 102 F.im 98 101,bH 103 F.hV 94 102,m 13 103] (some ⟨[0,1,2,3,4,5,6,7,8,9,10],c' 8 3,[(7,4)]⟩)) te
def CV:aG:=.seq (af (aB 70 1 15::au 71 70::bb 72 .eql 71 1::m 73 72::cG 74 73 8::cG 75 73 14::mx 76 73 1 74 75::c7 77 73 76::bD 78 73 (.call F.fb [(.t 77)])::bD 79 73 (.bin .gtr .bR (.t 78) (ci 0))::da 80 73 79::m 81 80::eQ 82 81 1 15::dR 83 81 82::b2 84 81 (.bin .eql .bR (.t 83) (ci 3))::di 85 81 84::cG 86 85 8::cG 87 85 14::mx 88 85 1 86 87::c7 89 85 88::bD 90 85 (.call F.fb [(.t 89)])::[bD 91 85 (.bin .lss .bR (.t 90) (ci 0)),b2 92 81 (.pick (.t 85) (.t 91) (.c (.bool false))),eh 93 81 92]) (.cond (.t 93) (af [o 6 (.dw (.c (.string ⟨#[]⟩))),cd 7] .ret) .skip)) mN
def H8:aG:=af [bp 66 .lss 65 64] (.seq (cN 66 2) (.seq (.block 3 (af [m 67 65,ba 68 5 63 65,cO 69 5 68,o 15 (.alloc 28 [(.string ⟨#[]⟩),(.int .i64 (.ofNat 0)),(.slice none 0 0),(.string ⟨#[]⟩),(.string ⟨#[]⟩)]),m 14 67,bP 5 15 69] CV)) (.bs [bb 130 .add 65 1,m 65 130])))
def w0:aG:=.seq (af [aB 62 1 3,au 63 62,bC 64 63,bT 65 0] (.block 2 (.loop H8))) zy
def Ia:aG:=af [m 53 2] (.cond (.t 53) (.bs (m 54 10::m 55 11::aB 56 3 12::au 57 56::bd 58 F.iI 57::[ba 59 1 54 55,bP 1 59 58])) .skip)
def H9:aG:=af [bp 45 .lss 44 43] (.seq (cN 45 0) (.seq (.block 1 (af [m 46 44,ba 47 5 42 44,cO 48 5 47,o 12 (.alloc 38 [(.string ⟨#[]⟩),(.string ⟨#[]⟩),(.string ⟨#[]⟩),(.string ⟨#[]⟩),(.bool false)]),m 11 46,bP 5 12 48] (af (m 49 10::m 50 11::pQ 51 F.hF 0::[ba 52 1 49 50,bP 1 52 51]) Ia))) (.bs [bb 60 .add 44 1,m 44 60])))
def CW:aG:=.seq (af [aB 41 0 3,au 42 41,bC 43 42,bT 44 0] (.block 0 (.loop H9))) (af (pQ 61 F.hF 0::[m 13 61]) w0)
def Ib:aG:=af [aB 37 0 3,au 38 37,bC 39 38,o 40 (.mkSlice [(.pointer none)] 8 (.t 39) (.t 39)),m 10 40] CW
def Ic:aG:=.seq (af (m 30 9::fI 31 30::m 32 31::b2 33 32 (.load true 2 (.t 3))::b2 34 32 (.call F.ki [(.t 33)])::[b2 35 32 (.un .not (.t 34)),eh 36 32 35]) (.cond (.t 36) (af [o 6 (.dw (.c (.string ⟨#[]⟩))),cd 7] .ret) .skip)) Ib
abbrev T.Rx:Nat:=25
abbrev T.CU:Nat:=38
abbrev T.H3:Nat:=28
abbrev T.H4:Nat:=43
abbrev T.H5:Nat:=38
@[simp] def p':bg:=⟨156,(af [ei 3 25 0,o 6 (.dw (.c (.string ⟨#[]⟩))),cd 7] (af (m 23 1::aB 24 1 3::au 25 24::bC 26 25::bH 27 F.mQ 23 26::[m 22 27,bm 28 22 0,bm 29 22 1,m 8 28,m 9 29]) Ic)),[.slot 6,.slot 7]⟩
@[simp] def qw:bg:=⟨9,(af [cd 4] (af (m 5 0::m 6 1::bH 7 F.qx 5 6::[bb 8 .geq 7 0,m 4 8]) .ret)),[.slot 4]⟩
@[simp] def pb:bg:=⟨9,(af [cd 4] (af (m 5 0::m 6 1::bH 7 F.rZ 5 6::[bb 8 .geq 7 0,m 4 8]) .ret)),[.slot 4]⟩
def xC:aG:=af [i' 4 0] .ret
def Jr:aG:=af [bp 9 .lss 8 7] (.seq (cN 9 0) (.seq (.block 1 (af [m 10 8,m 5 10] (af [m 11 1,m 12 0,m 13 5,ba 14 5 12 13,cO 15 5 14,o 16 (.ka (.t 11) [(.t 15)])] (.cond (.t 16) (af [m 17 5,m 4 17] .ret) .skip)))) (.bs [bb 18 .add 8 1,m 8 18])))
@[simp] def qx:bg:=⟨19,(af [bT 4 0] (.seq (af [m 6 0,bC 7 6,bT 8 0] (.block 0 (.loop Jr))) xC)),[.slot 4]⟩
@[simp] def rZ:bg:=⟨19,(af [bT 4 0] (.seq (af [m 6 0,bC 7 6,bT 8 0] (.block 0 (.loop (af [bp 9 .lss 8 7] (.seq (cN 9 0) (.seq (.block 1 (af [m 10 8,m 5 10] (af [m 11 1,m 12 0,m 13 5,ba 14 5 12 13,cO 15 5 14,o 16 (.ka (.t 11) [(.t 15)])] (.cond (.t 16) (af [m 17 5,m 4 17] .ret) .skip)))) (.bs [bb 18 .add 8 1,m 8 18]))))))) (af [i' 4 0] .ret))),[.slot 4]⟩
def C6:aG:=af [m 27 5,m 4 27] .ret
def C5:aG:=af [bp 12 .lss 11 10] (.seq (cN 12 0) (.seq (.block 1 (af [ba 13 2 9 11,cO 14 2 13,o 7 (.alloc 43 [(.int .i64 (.ofNat 0)),(.string ⟨#[]⟩)]),bP 2 7 14] (.draw [m 15 5,aB 16 1 7,au 17 16,bd 18 F.iI 17,m 19 1,aB 20 0 7,au 21 20,ba 22 1 19 21,au 23 22,bH 24 F.im 18 23,bH 25 F.hV 15 24,m 5 25] (some ⟨[0,1,2,4,5,6,7,8,3,9,10,11],c' 9 3,[(8,5),(8,7)]⟩)))) (.bs [bb 26 .add 11 1,m 11 26])))
abbrev T.C4:Nat:=43
@[simp] def qh:bg:=⟨28,(af [dz 4] (af (pQ 8 F.hF 0::[m 5 8]) (.seq (af [m 9 0,bC 10 9,bT 11 0] (.block 0 (.loop C5))) C6))),[.slot 4]⟩
@[simp] def qg:bg:=⟨16,(af [cd 4] (.seq (af [m 5 0] (.block 0 (af [bb 7 .eql 5 1,m 6 7] (.cond (.t 6) (af [m 8 1,bb 9 .leq 8 0,m 4 9] .ret) (af [bb 11 .eql 5 3,m 10 11] (.cond (.t 10) (af [m 12 1,bb 13 .geq 12 0,m 4 13] .ret) .skip)))))) (af [m 14 1,bb 15 .eql 14 0,m 4 15] .ret))),[.slot 4]⟩
def w1:aG:=af (aB 63 1 2::au 64 63::o 65 (.uM F.oV [(.t 5)])::bH 66 F.pb 64 65::[fI 67 66,m 4 67]) .ret
def hU:aG:=.cond (.t 61) (af [cd 4] .ret) .skip
def CY:aG:=.seq (.draw [aB 32 1 8,au 33 32,o 34 (.bin .neq .bR (.t 33) (.c (.string ⟨#[]⟩))),m 35 34,c7 36 35 5,cG 37 35 7,mx 38 35 1 36 37,c7 39 35 38,eG 40 35 1 8,c7 41 35 40,bD 42 35 (.call F.iI [(.t 41)]),bD 43 35 (.call F.hr [(.t 39),(.t 42)]),bD 44 35 (.bin .lss .bR (.t 43) (ci 0)),da 45 35 44,m 46 45,eQ 47 46 2 8,dR 48 46 47,b2 49 46 (.bin .neq .bR (.t 48) (.c (.string ⟨#[]⟩))),di 50 46 49,c7 51 50 5,cG 52 50 7,mx 53 50 1 51 52,c7 54 50 53,eG 55 50 2 8,c7 56 50 55,bD 57 50 (.call F.iI [(.t 56)]),bD 58 50 (.call F.hr [(.t 54),(.t 57)]),bD 59 50 (.bin .gtr .bR (.t 58) (ci 0)),b2 60 46 (.pick (.t 50) (.t 59) (.c (.bool false))),eh 61 46 60] (some ⟨[0,1,2,3,4,5,6,7,8,9,10,11,12,13,14,15,16,17,18,19,20,21,22,23,24,25,26,27,28,29],[true,true,true,true,false,false,false,false,false,false,false,true,true,true,true,true,true,true,true,false,false,false,false,false,false,false,true,true,true,true],[(10,4),(10,7),(25,19),(25,22)]⟩)) hU
def Ih:aG:=af [bp 28 .lss 27 26] (.seq (cN 28 0) (.seq (.block 1 (af [m 29 27,ba 30 5 25 27,cO 31 5 30,o 8 (.alloc 38 [(.string ⟨#[]⟩),(.string ⟨#[]⟩),(.string ⟨#[]⟩),(.string ⟨#[]⟩),(.bool false)]),m 7 29,bP 5 8 31] CY)) (.bs [bb 62 .add 27 1,m 27 62])))
def CZ:aG:=.seq (af [aB 24 0 2,au 25 24,bC 26 25,bT 27 0] (.block 0 (.loop Ih))) w1
def Ii:aG:=.seq (af (m 17 6::fI 18 17::m 19 18::b2 20 19 (.load true 2 (.t 2))::b2 21 19 (.call F.ki [(.t 20)])::[b2 22 19 (.un .not (.t 21)),eh 23 19 22]) (.cond (.t 23) (af [cd 4] .ret) .skip)) CZ
abbrev T.Ie:Nat:=25
abbrev T.zz:Nat:=88
abbrev T.Ig:Nat:=38
@[simp] def qa:bg:=⟨68,(af [ei 2 25 0,cd 4] (af (m 10 1::aB 11 0 2::au 12 11::bC 13 12::bH 14 F.mQ 10 13::[m 9 14,bm 15 9 0,bm 16 9 1,o 5 (.alloc 88 [(.slice none 0 0)]),bP 1 5 15,m 6 16]) Ii)),[.slot 4]⟩
abbrev T.Ry:Nat:=28
@[simp] def oV:bg:=⟨16,(af [ei 2 28 0,cd 3] (.seq (.draw [aB 4 1 2,au 5 4,aB 6 2 2,au 7 6,au 8 1,bH 9 F.qh 7 8,aB 10 3 2,au 11 10,bd 12 F.iI 11,bH 13 F.hr 9 12,bH 14 F.qg 5 13,fI 15 14,m 3 15] (some ⟨[0,1,2,3,4,6,7,5,8,9,10,11,12],c' 10 3,[(7,1),(7,6),(8,1),(9,1)]⟩)) .ret)),[.slot 3]⟩
def C1:aG:=af [m 28 5,m 4 28] .ret
def Iz:aG:=af [bp 13 .lss 12 11] (.seq (cN 13 0) (.seq (.block 1 (af [m 14 12,ba 15 5 10 12,cO 16 5 15,o 7 (.alloc 38 [(.string ⟨#[]⟩),(.string ⟨#[]⟩),(.string ⟨#[]⟩),(.string ⟨#[]⟩),(.bool false)]),m 6 14,bP 5 7 16] (.draw [m 17 5,aB 18 3 7,au 19 18,bd 20 F.iI 19,m 21 1,m 22 6,ba 23 1 21 22,au 24 23,bH 25 F.im 20 24,bH 26 F.hV 17 25,m 5 26] (some ⟨[0,1,2,4,5,6,7,3,8,9,10],c' 8 3,[(7,6)]⟩)))) (.bs [bb 27 .add 12 1,m 12 27])))
def IA:aG:=.seq (af [aB 9 0 2,au 10 9,bC 11 10,bT 12 0] (.block 0 (.loop Iz))) C1
abbrev T.RE:Nat:=25
abbrev T.Iy:Nat:=38
@[simp] def qf:bg:=⟨29,(af [ei 2 25 0,dz 4] (af (pQ 8 F.hF 0::[m 5 8]) IA)),[.slot 4]⟩
def Ir:aG:=af (cO 23 2 2::m 24 6::bH 25 F.qf 23 24::bd 26 F.hW 25::[m 4 26,ij 5]) .ret
def Is:aG:=.seq (af (m 16 7::fI 17 16::m 18 17::b2 19 18 (.load true 2 (.t 2))::b2 20 18 (.call F.ki [(.t 19)])::[b2 21 18 (.un .not (.t 20)),eh 22 18 21]) (.cond (.t 22) (af [o 4 (.dw (.c (.string ⟨#[]⟩))),cd 5] .ret) .skip)) Ir
abbrev T.RB:Nat:=25
@[simp] def qc:bg:=⟨27,(af [ei 2 25 0,o 4 (.dw (.c (.string ⟨#[]⟩))),cd 5] (af (m 9 1::aB 10 0 2::au 11 10::bC 12 11::bH 13 F.mQ 9 12::[m 8 13,bm 14 8 0,bm 15 8 1,m 6 14,m 7 15]) Is)),[.slot 4,.slot 5]⟩
def Iq:aG:=af (m 62 9::fI 63 62::m 64 63::bD 65 64 (.load true 2 (.t 2))::c7 66 64 5::bD 67 64 (.call F.qf [(.t 65),(.t 66)])::bD 68 64 (.call F.fb [(.t 67)])::[bD 69 64 (.bin .lss .bR (.t 68) (ci 0)),da 70 64 69,m 4 70]) .ret
def mO:aG:=af (aB 58 1 2::au 59 58::o 60 (.uM F.oW [(.t 5)])::bH 61 F.pb 59 60::[m 9 61]) Iq
def Io:aG:=af [bp 29 .lss 28 27] (.seq (cN 29 0) (.seq (.block 1 (af [m 30 28,ba 31 5 26 28,cO 32 5 31,o 8 (.alloc 38 [(.string ⟨#[]⟩),(.string ⟨#[]⟩),(.string ⟨#[]⟩),(.string ⟨#[]⟩),(.bool false)]),m 7 30,bP 5 8 32] (af (aB 33 1 8::au 34 33::o 35 (.bin .neq .bR (.t 34) (.c (.string ⟨#[]⟩)))::m 36 35::c7 37 36 5::cG 38 36 7::mx 39 36 1 37 38::c7 40 36 39::bD 41 36 (.call F.fb [(.t 40)])::bD 42 36 (.bin .lss .bR (.t 41) (ci 0))::da 43 36 42::m 44 43::eQ 45 44 2 8::dR 46 44 45::b2 47 44 (.bin .neq .bR (.t 46) (.c (.string ⟨#[]⟩)))::di 48 44 47::c7 49 48 5::cG 50 48 7::mx 51 48 1 49 50::c7 52 48 51::bD 53 48 (.call F.fb [(.t 52)])::[bD 54 48 (.bin .gtr .bR (.t 53) (ci 0)),b2 55 44 (.pick (.t 48) (.t 54) (.c (.bool false))),eh 56 44 55]) (.cond (.t 56) (af [cd 4] .ret) .skip)))) (.bs [bb 57 .add 28 1,m 28 57])))
def C0:aG:=.seq (af [aB 25 0 2,au 26 25,bC 27 26,bT 28 0] (.block 0 (.loop Io))) mO
def Ip:aG:=.seq (af (m 18 6::fI 19 18::m 20 19::b2 21 20 (.load true 2 (.t 2))::b2 22 20 (.call F.ki [(.t 21)])::[b2 23 20 (.un .not (.t 22)),eh 24 20 23]) (.cond (.t 24) (af [cd 4] .ret) .skip)) C0
abbrev T.Il:Nat:=25
abbrev T.zB:Nat:=88
abbrev T.Im:Nat:=38
@[simp] def rI:bg:=⟨71,(af [ei 2 25 0,cd 4] (af (m 11 1::aB 12 0 2::au 13 12::bC 14 13::bH 15 F.mQ 11 14::[m 10 15,bm 16 10 0,bm 17 10 1,o 5 (.alloc 88 [(.slice none 0 0)]),bP 1 5 16,m 6 17]) Ip)),[.slot 4]⟩
abbrev T.RA:Nat:=28
@[simp] def oW:bg:=⟨13,(af [ei 2 28 0,cd 3] (.seq (.draw [aB 4 1 2,au 5 4,aB 6 2 2,au 7 6,au 8 1,bH 9 F.qh 7 8,bd 10 F.fb 9,bH 11 F.qg 5 10,fI 12 11,m 3 12] (some ⟨[0,1,2,3,4,5,6,7,8,9],c' 7 3,[(5,1),(6,1)]⟩)) .ret)),[.slot 3]⟩
def CF:aG:=af [cd 4] .ret
def sn:List aE:=[da 52 47 51,m 53 52,eG 54 53 4 3,c7 55 53 54,bD 56 53 (.len .l (.t 55)),bD 57 53 (.bin .eql .bR (.t 56) (ci 0)),da 58 53 57,m 4 58]
def C':aG:=af (m 31 6::m 32 31::cG 33 32 8::da 34 32 33::m 35 34::cG 36 35 5::eG 37 35 1 3::c7 38 35 37::kM 39 35 .eql 36 38::da 40 35 39::m 41 40::cG 42 41 7::eG 43 41 1 3::c7 44 41 43::kM 45 41 .eql 42 44::da 46 41 45::m 47 46::bD 48 47 (.load true 2 (.t 2))::eG 49 47 2 3::c7 50 47 49::bD 51 47 (.call F.qa [(.t 48),(.t 50)])::sn) .ret
def D5:List aE:=[m 24 28,bm 29 24 0,bm 30 24 1,m 7 29,m 8 30]
def DF:aG:=af (cO 25 2 2::aB 26 3 3::au 27 26::o 28 (.call F.p' [(.t 25),(.t 27),(.c (.bool true))])::D5) C'
def El:List aE:=[m 17 21,bm 22 17 0,bm 23 17 1,m 5 22,m 6 23]
def wA:List aE:=[bD 77 74 (.bin .gtr .bR (.t 76) (ci 0)),da 78 74 77,m 79 78,eG 80 79 1 3,c7 81 79 80,bD 82 79 (.bin .eql .bR (.t 81) (.c (.string ⟨#[]⟩))),da 83 79 82,m 84 83,eG 85 84 2 3,c7 86 84 85,bD 87 84 (.len .l (.t 86)),eG 88 84 4 3,c7 89 84 88,bD 90 84 (.len .l (.t 89)),kM 91 84 .add 87 90,bD 92 84 (.bin .eql .bR (.t 91) (ci 0)),da 93 84 92,m 4 93]
def DU:aG:=af (m 73 10::m 74 73::cG 75 74 11::bD 76 74 (.call F.fb [(.t 75)])::wA) .ret
def Em:List aE:=[m 68 70,bm 71 68 0,bm 72 68 1,m 11 71,m 12 72]
def DX:aG:=af (m 69 9::bd 70 F.jc 69::Em) DU
def D3:List aE:=[m 61 65,bm 66 61 0,bm 67 61 1,m 9 66,m 10 67]
def wz:List aE:=[da 105 100 104,m 106 105,eG 107 106 1 3,c7 108 106 107,bD 109 106 (.bin .eql .bR (.t 108) (.c (.string ⟨#[]⟩))),da 110 106 109,m 111 110,eG 112 111 3 3,c7 113 111 112,bD 114 111 (.len .l (.t 113)),bD 115 111 (.bin .eql .bR (.t 114) (ci 0)),da 116 111 115,m 4 116]
def D4:List aE:=m 100 99::bD 101 100 (.load true 2 (.t 2))::eG 102 100 4 3::c7 103 100 102::bD 104 100 (.call F.rI [(.t 101),(.t 103)])::wz
def C8:aG:=.cond (.t 15) (af (cO 18 2 2::aB 19 2 3::au 20 19::bH 21 F.qc 18 20::El) DF) (af [bb 60 .eql 14 2,m 59 60] (.cond (.t 59) (af (cO 62 2 2::aB 63 3 3::au 64 63::o 65 (.call F.p' [(.t 62),(.t 64),(.c (.bool false))])::D3) DX) (af [bb 95 .eql 14 3,m 94 95] (.cond (.t 94) (af (cO 96 2 2::aB 97 2 3::au 98 97::bH 99 F.qa 96 98::D4) .ret) .skip))))
abbrev T.Hn:Nat:=25
abbrev T.Ho:Nat:=33
@[simp] def rY:bg:=⟨117,(af [ei 2 25 0,ei 3 33 1,cd 4] (.seq (af [aB 13 0 3,au 14 13] (.block 0 (af [bb 16 .eql 14 1,m 15 16] C8))) CF)),[.slot 4]⟩
@[simp] def mc:bg:=⟨13,(af [dz 2] (.seq (af [m 5 0,o 6 (.bin .eql .bR (.t 5) (.c (.string ⟨#[]⟩)))] (.cond (.t 6) (af [dz 2] .ret) .skip)) (af (m 8 0::bd 9 F.jc 8::[m 7 9,bm 10 7 0,bm 11 7 1,m 3 10,m 4 11]) (af [m 12 3,m 2 12] .ret)))),[.slot 2]⟩
@[simp] def sg:bg:=⟨16,(af [ei 1 159 0,dz 2] (.seq (.block 0 (af [aB 4 0 1,au 5 4,kT 6 .neq 5,m 3 6] (.cond (.t 3) (af [aB 7 0 1,au 8 7,m 2 8] .ret) (af [aB 10 1 1,au 11 10,kT 12 .neq 11,m 9 12] (.cond (.t 9) (af [aB 13 1 1,au 14 13,m 2 14] .ret) .skip))))) (af (pQ 15 F.hF 0::[m 2 15]) .ret))),[.slot 2]⟩
def xV:aG:=.draw [m 128 3,m 129 3,m 130 3,m 131 3,bW 132 131,aB 133 5 132,au 134 133,m 135 10,o 136 (.buildSlice [(.slice none 0 0)] 1 1 [(0,1,(.t 135))]),j9 137 1 24 134 136,m 138 3,bW 139 138,aB 140 2 139,au 141 140,cO 142 3 9,o 143 (.buildSlice [(.pointer none),(.pointer none),(.pointer none)] 3 1 [(0,3,(.t 142))]),j9 144 3 24 141 143,m 145 3,bW 146 145,aB 147 3 146,au 148 147,aB 149 0 1,au 150 149,bC 151 150,m 152 7,bp 153 .add 151 152,o 154 (.buildSlice [(.int .i64 (.ofNat 0))] 1 1 [(0,1,(.t 153))]),j9 155 1 8 148 154,bW 156 128,aB 157 5 156,bP 1 157 137,bW 158 129,aB 159 2 158,bP 1 159 144,bW 160 130,aB 161 3 160,bP 1 161 155] (some ⟨[0,1,2,3,4,5,6,7,8,9,10,11,12,13,14,15,16,17,18,19,20,21,22,23,24,25,26,27,28,29,30,31,32,33,34,35,36],c' 27 10,[(8,6),(8,13),(9,13),(8,14),(9,14),(15,6),(15,9),(15,13),(8,20),(9,20),(15,20),(16,20),(8,22),(9,22),(15,22),(16,22),(8,23),(9,23),(15,23),(16,23),(26,6),(26,9),(26,13),(26,14),(26,16),(26,20)]⟩)
def KW:aG:=.bs [bb 127 .add 97 1,m 97 127]
def AL:aG:=.draw [aB 108 2 9,au 109 108,m 110 10,aB 111 0 13,au 112 111,ba 113 1 110 112,au 114 113,m 115 3,bW 116 115,aB 117 2 116,au 118 117,aB 119 0 13,au 120 119,ba 121 3 118 120,aB 122 2 121,au 123 122,bH 124 F.im 114 123,bH 125 F.hV 109 124,aB 126 2 9,bP 1 126 125] (some ⟨[0,1,2,3,4,5,6,7,8,9,10,11,12,13,14,15,16,17,18,19],c' 17 3,[(16,1)]⟩)
def KR:aG:=af [bp 98 .lss 97 96] (.seq (cN 98 6) (.seq (.block 7 (af [ba 99 2 95 97,cO 100 2 99,o 13 (.alloc 43 [(.int .i64 (.ofNat 0)),(.string ⟨#[]⟩)]),bP 2 13 100] (.seq (.draw [m 101 10,aB 102 0 13,au 103 102,aB 104 1 13,au 105 104,bd 106 F.mc 105,ba 107 1 101 103,bP 1 107 106] (some ⟨[0,1,2,3,4,5,6,7],c' 6 2,[(5,2)]⟩)) AL))) KW))
def AJ:aG:=.seq (af [aB 94 2 8,au 95 94,bC 96 95,bT 97 0] (.block 6 (.loop KR))) xV
def KZ:List aE:=[ba 92 1 89 90,bP 1 92 91]
def KO:aG:=af [bp 87 .lss 86 85] (.seq (cN 87 4) (.seq (.block 5 (af [m 88 86,m 11 88] (.bs (m 89 10::m 90 11::pQ 91 F.hF 0::KZ)))) (.bs [bb 93 .add 86 1,m 86 93])))
def vm:aG:=af [aB 80 0 1,au 81 80,bC 82 81,o 83 (.mkSlice [(.pointer none)] 8 (.t 82) (.t 82)),m 10 83] (.seq (af [m 84 10,bC 85 84,bT 86 0] (.block 4 (.loop KO))) AJ)
def K0:List aE:=[aB 79 1 9,bP 1 79 78]
def KS:aG:=.cond (.t 75) (.bs (aB 76 3 8::au 77 76::bd 78 F.mc 77::K0)) .skip
def vn:aG:=.seq (af [aB 73 1 8,au 74 73,bb 75 .neq 74 3] KS) vm
def K1:List aE:=[aB 72 0 9,bP 1 72 71]
def KT:aG:=.cond (.t 68) (.bs (aB 69 3 8::au 70 69::bd 71 F.mc 70::K1)) .skip
def KU:aG:=.seq (af [aB 66 1 8,au 67 66,bb 68 .neq 67 1] KT) vn
def K2:List aE:=[o 65 (.build [(.pointer none),(.pointer none),(.pointer none)] [(2,1,(.t 64))]),o 9 (.alloc 159 [(.pointer none),(.pointer none),(.pointer none)]),bP 3 9 65]
def KV:aG:=af (pQ 64 F.hF 0::K2) KU
def KP:aG:=af [bp 60 .lss 59 58] (.seq (cN 60 2) (.seq (.block 3 (af [m 61 59,ba 62 5 57 59,cO 63 5 62,o 8 (.alloc 28 [(.string ⟨#[]⟩),(.int .i64 (.ofNat 0)),(.slice none 0 0),(.string ⟨#[]⟩),(.string ⟨#[]⟩)]),m 7 61,bP 5 8 63] KV)) (.bs [bb 162 .add 59 1,m 59 162])))
def KX:aG:=.seq (af [aB 56 1 1,au 57 56,bC 58 57,bT 59 0] (.block 2 (.loop KP))) (af [m 163 3,m 2 163] .ret)
def AK:aG:=.draw [m 35 3,m 36 3,m 37 3,bW 38 37,aB 39 2 38,au 40 39,cO 41 3 6,o 42 (.buildSlice [(.pointer none),(.pointer none),(.pointer none)] 3 1 [(0,3,(.t 41))]),j9 43 3 24 40 42,m 44 3,bW 45 44,aB 46 4 45,au 47 46,m 48 4,o 49 (.buildSlice [(.int .i64 (.ofNat 0))] 1 1 [(0,1,(.t 48))]),j9 50 1 8 47 49,bW 51 35,aB 52 2 51,bP 1 52 43,bW 53 36,aB 54 4 53,bP 1 54 50] (some ⟨[0,1,2,3,4,5,6,7,8,9,10,11,12,13,14,15,16,17,18,19,20,21],c' 15 7,[(7,5),(7,12),(8,12),(14,5),(14,6),(14,8),(14,12)]⟩)
def K3:List aE:=[aB 34 2 6,bP 1 34 33]
def xW:aG:=af (cO 32 3 6::bd 33 F.sg 32::K3) AK
def KY:aG:=.seq (.draw [aB 25 1 5,au 26 25,bd 27 F.mc 26,aB 28 2 5,au 29 28,bd 30 F.mc 29,o 31 (.build [(.pointer none),(.pointer none),(.pointer none)] [(0,1,(.t 27)),(1,1,(.t 30))]),o 6 (.alloc 159 [(.pointer none),(.pointer none),(.pointer none)]),bP 3 6 31] (some ⟨[0,1,3,4,7,2,5,6,8],c' 8 1,[(4,1),(4,3),(5,3),(4,5),(4,6)]⟩)) xW
def KQ:aG:=af [bp 21 .lss 20 19] (.seq (cN 21 0) (.seq (.block 1 (af [m 22 20,ba 23 5 18 20,cO 24 5 23,o 5 (.alloc 38 [(.string ⟨#[]⟩),(.string ⟨#[]⟩),(.string ⟨#[]⟩),(.string ⟨#[]⟩),(.bool false)]),m 4 22,bP 5 5 24] KY)) (.bs [bb 55 .add 20 1,m 20 55])))
abbrev T.acs:Nat:=25
abbrev T.acu:Nat:=157
abbrev T.acv:Nat:=38
abbrev T.acw:Nat:=159
abbrev T.acx:Nat:=28
abbrev T.acy:Nat:=159
abbrev T.acz:Nat:=43
@[simp] def sd:bg:=⟨164,(af [ei 1 25 0,dz 2] (af [cO 14 2 1,o 15 (.build [(.slice none 0 0),(.slice none 0 0),(.slice none 0 0),(.slice none 0 0),(.slice none 0 0),(.slice none 0 0)] [(0,2,(.t 14))]),ei 16 157 15,m 3 16] (.seq (af [aB 17 0 1,au 18 17,bC 19 18,bT 20 0] (.block 0 (.loop KQ))) KX))),[.slot 2]⟩
def Eh:aG:=.draw [m 59 9,m 60 9,bW 61 60,aB 62 2 61,au 63 62,m 64 8,m 65 1,ba 66 1 64 65,au 67 66,m 68 2,bH 69 F.im 67 68,bH 70 F.hV 63 69,bW 71 59,aB 72 2 71,bP 1 72 70] (some ⟨[0,1,2,3,4,5,6,7,8,9,10,11,12,13,14],c' 11 4,[(10,4)]⟩)
def K4:aG:=af [bp 37 .lss 36 35] (.seq (cN 37 0) (.seq (.block 1 (af [m 38 36,ba 39 1 34 36,au 40 39,m 7 38,m 8 40] (af (m 41 8::m 42 1::ba 43 1 41 42::au 44 43::bd 45 F.fb 44::[bb 46 .neq 45 0]) (.cond (.t 46) (.seq (.draw [m 47 0,bW 48 47,aB 49 2 48,au 50 49,m 51 0,bW 52 51,aB 53 3 52,au 54 53,m 55 7,ba 56 1 54 55,au 57 56,ba 58 3 50 57,m 9 58] (some ⟨[0,1,2,3,4,5,6,7,8,9,10,11,12],c' 11 2,[]⟩)) Eh) .skip)))) (.bs [bb 73 .add 36 1,m 36 73])))
def Ei:aG:=af [m 31 0,bW 32 31,aB 33 5 32,au 34 33,bC 35 34,bT 36 0] (.block 0 (.loop K4))
def K5:aG:=af (m 22 6::m 23 6::bW 24 23::aB 25 2 24::au 26 25::m 27 2::bH 28 F.hV 26 27::[bW 29 22,aB 30 2 29,bP 1 30 28]) Ei
@[simp] def qL:bg:=⟨74,(.seq (.draw [m 10 0,bW 11 10,aB 12 2 11,au 13 12,m 14 0,bW 15 14,aB 16 4 15,au 17 16,m 18 1,ba 19 1 17 18,au 20 19,ba 21 3 13 20,m 6 21] (some ⟨[0,1,2,3,4,5,6,7,8,9,10,11,12],c' 11 2,[]⟩)) K5),[]⟩
def K9:aG:=.draw [m 124 0,bW 125 124,aB 126 3 125,au 127 126,m 128 1,m 129 0,bW 130 129,aB 131 4 130,au 132 131,m 133 2,m 134 0,bW 135 134,aB 136 4 135,au 137 136,m 138 2,ba 139 1 137 138,au 140 139,m 141 0,bW 142 141,aB 143 3 142,au 144 143,m 145 1,ba 146 1 144 145,au 147 146,ba 148 1 127 128,bP 1 148 140,ba 149 1 132 133,bP 1 149 147] (some ⟨[0,1,2,3,4,5,6,7,8,9,10,11,12,13,14,15,16,17,18,19,20,21,22,23,24,25,26,27],c' 24 4,[]⟩)
def Li:List aE:=[ba 100 1 92 93,bP 1 100 99]
def Lc:aG:=.cond (.t 101) (.draw [m 108 10,m 109 12,m 110 10,m 111 12,ba 112 1 110 111,au 113 112,m 114 11,m 115 6,m 116 12,ba 117 1 115 116,au 118 117,bH 119 F.im 114 118,bH 120 F.hV 113 119,ba 121 1 108 109,bP 1 121 120] (some ⟨[0,1,2,3,4,5,6,7,8,9,10,11,12,13,14],c' 12 3,[(11,5)]⟩)) .skip
def Lj:List aE:=[bb 107 .neq 106 0,m 101 107]
def K6:aG:=af [bp 86 .lss 85 84] (.seq (cN 86 4) (.seq (.block 5 (af [m 87 85,m 12 87] (.block 6 (af [m 89 12,m 90 2,bp 91 .eql 89 90,m 88 91] (.cond (.t 88) (.bs (m 92 10::m 93 12::m 94 11::m 95 6::m 96 12::ba 97 1 95 96::au 98 97::bH 99 F.im 94 98::Li)) (af (m 102 6::m 103 12::ba 104 1 102 103::au 105 104::bd 106 F.fb 105::Lj) Lc)))))) (.bs [bb 122 .add 85 1,m 85 122])))
def xX:aG:=af [m 83 10,bC 84 83,bT 85 0] (.block 4 (.loop K6))
def Ek:List aE:=[b2 81 78 (.bin .eql .bR (.t 80) (ci 0)),eh 82 78 81]
def K7:aG:=af [bp 67 .lss 66 65] (.seq (cN 67 2) (.seq (.block 3 (af [m 68 66,ba 69 1 64 66,au 70 69,m 9 68,m 10 70] (af [m 71 10,m 72 2,ba 73 1 71 72,au 74 73,m 11 74] (.seq (af (m 75 9::m 76 1::bp 77 .eql 75 76::m 78 77::di 79 78 11::b2 80 78 (.call F.fb [(.t 79)])::Ek) (.cond (.t 82) (.exit 3) .skip)) xX)))) (.bs [bb 123 .add 66 1,m 66 123])))
def K':aG:=.seq (af [m 61 0,bW 62 61,aB 63 5 62,au 64 63,bC 65 64,bT 66 0] (.block 2 (.loop K7))) K9
def Ld:List aE:=[m 32 37,bm 38 32 0,bm 39 32 1,ba 40 1 33 34,bP 1 40 38]
def Le:List aE:=m 36 7::bH 37 F.lx 35 36::Ld
def Lf:List aE:=[m 47 56,bm 57 47 0,bm 58 47 1,ba 59 1 48 49,bP 1 59 57]
def Lg:List aE:=m 55 7::bH 56 F.lx 54 55::Lf
def La:aG:=.cond (.t 46) (.bs (m 48 6::m 49 8::m 50 6::m 51 8::ba 52 1 50 51::au 53 52::bd 54 F.kU 53::Lg)) .skip
def Lh:List aE:=[bb 46 .neq 45 0]
def K8:aG:=af [bp 27 .lss 26 25] (.seq (cN 27 0) (.seq (.block 1 (af [m 28 26,m 8 28] (af [m 29 8,m 30 2,bp 31 .eql 29 30] (.cond (.t 31) (.bs (m 33 6::m 34 8::pQ 35 F.hF 1::Le)) (af (m 41 6::m 42 8::ba 43 1 41 42::au 44 43::bd 45 F.fb 44::Lh) La))))) (.bs [bb 60 .add 26 1,m 26 60])))
def Ej:aG:=.block 0 (.loop K8)
def Lb:aG:=af [m 20 6,m 21 2,ba 22 1 20 21,au 23 22,m 7 23] (.seq (af [m 24 6,bC 25 24,bT 26 0] Ej) K')
@[simp] def qM:bg:=⟨150,(af [m 13 0,bW 14 13,aB 15 5 14,au 16 15,m 17 1,ba 18 1 16 17,au 19 18,m 6 19] Lb),[]⟩
abbrev T.r8:Nat:=159
@[simp] def qG:bg:=⟨29,(af [ei 2 159 0,cd 4] (.seq (af [m 5 1,bb 6 .gtr 5 0] (.cond (.t 6) (af (aB 7 1 2::au 8 7::kT 9 .eql 8::m 10 9::eQ 11 10 2 2::dR 12 10 11::eQ 13 10 1 2::dR 14 10 13::b2 15 10 (.call F.hr [(.t 12),(.t 14)])::[b2 16 10 (.bin .lss .bR (.t 15) (ci 0)),eh 17 10 16,m 4 17]) .ret) .skip)) (af (aB 18 0 2::au 19 18::kT 20 .eql 19::m 21 20::eQ 22 21 2 2::dR 23 21 22::eQ 24 21 0 2::dR 25 21 24::b2 26 21 (.call F.hr [(.t 23),(.t 25)])::[b2 27 21 (.bin .gtr .bR (.t 26) (ci 0)),eh 28 21 27,m 4 28]) .ret))),[.slot 4]⟩
def AM:aG:=af [bT 2 0] .ret
def vo:aG:=.cond (.t 3) (af [bT 2 1] .ret) (af (aB 16 1 1::au 17 16::kT 18 .neq 17::m 19 18::eG 20 19 2 1::c7 21 19 20::eG 22 19 1 1::c7 23 19 22::bD 24 19 (.call F.hr [(.t 21),(.t 23)])::[bD 25 19 (.bin .gtr .bR (.t 24) (ci 0)),da 26 19 25,m 15 26]) (.cond (.t 15) (af [i' 2 0] .ret) .skip))
@[simp] def pv:bg:=⟨27,(af [ei 1 159 0,bT 2 0] (.seq (.block 0 (af (aB 4 0 1::au 5 4::kT 6 .neq 5::m 7 6::eG 8 7 2 1::c7 9 7 8::eG 10 7 0 1::c7 11 7 10::bD 12 7 (.call F.hr [(.t 9),(.t 11)])::[bD 13 7 (.bin .lss .bR (.t 12) (ci 0)),da 14 7 13,m 3 14]) vo)) AM)),[.slot 2]⟩
def qK:aG:=.seq (.draw [m 47 7,bb 48 .lss 47 0,m 49 48,di 50 49 0,b2 51 49 (.nilCheck (.t 50)),eQ 52 49 4 51,dR 53 49 52,di 54 49 8,oI 55 49 1 53 54,dR 56 49 55,di 57 49 0,b2 58 49 (.nilCheck (.t 57)),eQ 59 49 4 58,dR 60 49 59,di 61 49 7,oI 62 49 1 60 61,dR 63 49 62,oH 64 49 .lss 56 63,eh 65 49 64] (some ⟨[0,1,2,3,4,5,6,7,8,9,10,11,12,13,14,15,16,17,18],[true,true,true,false,false,false,false,false,false,false,false,false,false,false,false,false,false,true,true],[]⟩)) (.cond (.t 65) (.bs [m 66 8,m 7 66]) .skip)
def KF:aG:=af [bp 19 .lss 18 17] (.seq (cN 19 0) (.seq (.block 1 (af [m 20 18,ba 21 1 16 18,au 22 21,m 8 20,m 9 22] (.seq (.seq (.draw [m 23 9,bd 24 F.fb 23,bb 25 .eql 24 0,m 26 25,di 27 26 0,b2 28 26 (.nilCheck (.t 27)),eQ 29 26 2 28,dR 30 26 29,di 31 26 0,b2 32 26 (.nilCheck (.t 31)),eQ 33 26 4 32,dR 34 26 33,di 35 26 8,oI 36 26 1 34 35,dR 37 26 36,oI 38 26 3 30 37,b2 39 26 (.load true 3 (.t 38)),di 40 26 2,di 41 26 9,b2 42 26 (.call F.fb [(.t 41)]),oH 43 26 .mul 40 42,b2 44 26 (.call F.qG [(.t 39),(.t 43)]),b2 45 26 (.un .not (.t 44)),eh 46 26 45] (some ⟨[0,1,2,3,4,5,6,7,8,9,10,11,12,13,14,15,16,17,18,19,20,21,22,23],[true,true,true,true,false,false,false,false,false,false,false,false,false,false,false,false,false,false,false,false,false,true,true,true],[(19,7),(19,11),(19,14),(19,16)]⟩)) (.cond (.t 46) (.exit 1) .skip)) qK))) (.bs [bb 67 .add 18 1,m 18 67])))
@[simp] def sb:bg:=⟨69,(af [bT 6 0] (af [i' 7 0] (.seq (af [m 10 0,bW 11 10,aB 12 5 11,au 13 12,m 14 1,ba 15 1 13 14,au 16 15,bC 17 16,bT 18 0] (.block 0 (.loop KF))) (af [m 68 7,m 6 68] .ret)))),[.slot 6]⟩
def LK:List aE:=[bb 24 .neq 23 0,m 25 24,cG 26 25 3,bD 27 25 (.bin .lss .bR (.t 26) (ci 0)),cG 28 25 27,di 29 28 5,di 30 28 0,b2 31 28 (.nilCheck (.t 30)),eQ 32 28 3 31,dR 33 28 32,di 34 28 3,oI 35 28 1 33 34,dR 36 28 35,oH 37 28 .lss 29 36,bD 38 25 (.pick (.t 28) (.c (.bool true)) (.t 37)),da 39 25 38]
def LJ:aG:=af [bp 12 .lss 11 10] (.seq (cN 12 0) (.seq (.block 1 (af [m 13 11,ba 14 1 9 11,au 15 14,m 4 13,m 5 15] (af (m 16 0::bW 17 16::aB 18 2 17::au 19 18::m 20 5::ba 21 3 19 20::cO 22 3 21::bd 23 F.pv 22::LK) (.cond (.t 39) (.bs [m 40 4,m 3 40]) .skip)))) (.bs [bb 41 .add 11 1,m 11 41])))
@[simp] def sh:bg:=⟨43,(af [bT 2 0] (af [i' 3 0] (.seq (af [m 6 0,bW 7 6,aB 8 3 7,au 9 8,bC 10 9,bT 11 0] (.block 0 (.loop LJ))) (af [m 42 3,m 2 42] .ret)))),[.slot 2]⟩
def KA:aG:=.bs [m 65 0,m 66 4,m 67 8,hR 68 F.qM 65 66 67]
def AG:aG:=af [m 61 0,m 62 8,m 63 9,hR 64 F.qL 61 62 63] KA
def KC:aG:=.seq (af [m 40 8,bb 41 .lss 40 0] (.cond (.t 41) (af [m 42 4,m 2 42,cd 3] .ret) .skip)) (.seq (.draw [m 44 7,aB 45 2 5,au 46 45,bH 47 F.kV 44 46,m 48 0,bW 49 48,aB 50 5 49,au 51 50,m 52 4,ba 53 1 51 52,au 54 53,m 55 8,ba 56 1 54 55,au 57 56,bH 58 F.lx 47 57,m 43 58,bm 59 43 0,bm 60 43 1,m 9 59,m 10 60] (some ⟨[0,1,2,4,5,6,7,8,9,10,11,12,13,3,14,15,16,17,18,19],c' 14 6,[(13,6),(13,9),(13,12)]⟩)) AG)
def KE:List aE:=[m 8 39]
def AH:aG:=af (m 36 0::m 37 4::m 38 6::hR 39 F.sb 36 37 38::KE) KC
def Ee:aG:=.seq (af [m 32 6,bb 33 .lss 32 0] (.cond (.t 33) (.bs [aB 34 1 5,au 35 34,m 7 35]) .skip)) AH
def Ef:aG:=.seq (.draw [cO 28 3 5,bd 29 F.pv 28,aB 30 0 5,au 31 30,m 6 29,m 7 31] (some ⟨[0,2,3,1,4,5],c' 5 1,[(3,2)]⟩)) Ee
def KB:aG:=.seq (af [m 13 4,bb 14 .lss 13 0] (.cond (.t 14) (af [bT 2 0,ij 3] .ret) .skip)) (.seq (.draw [m 15 0,bW 16 15,aB 17 2 16,au 18 17,m 19 0,bW 20 19,aB 21 3 20,au 22 21,m 23 4,ba 24 1 22 23,au 25 24,ba 26 3 18 25,cO 27 3 26,o 5 (.alloc 159 [(.pointer none),(.pointer none),(.pointer none)]),bP 3 5 27] (some ⟨[0,1,2,3,4,5,6,7,8,9,10,11,12,13,14],c' 14 1,[(13,3),(13,7),(13,10),(13,12)]⟩)) Ef)
def KD:List aE:=[m 4 12]
def Kz:aG:=.block 1 (af (m 11 0::bd 12 F.sh 11::KD) KB)
abbrev T.acr:Nat:=159
@[simp] def sa:bg:=⟨69,(af [bT 2 0,cd 3] (.block 0 (.loop Kz))),[.slot 2,.slot 3]⟩
@[simp] def qH:bg:=⟨24,(af [dz 4] (.seq (af [m 5 1,m 6 0,bW 7 6,aB 8 0 7,aB 9 0 8,au 10 9,bC 11 10,bp 12 .lss 5 11] (.cond (.t 12) (af (m 13 0::bW 14 13::aB 15 0 14::aB 16 0 15::au 17 16::m 18 1::ba 19 5 17 18::aB 20 3 19::au 21 20::bd 22 F.mc 21::[m 4 22]) .ret) .skip)) (af (pQ 23 F.hF 0::[m 4 23]) .ret))),[.slot 4]⟩
def Lw:aG:=.cond (.t 58) (.draw [m 59 3,m 60 9,m 61 3,m 62 9,ba 63 1 61 62,au 64 63,m 65 8,m 66 10,bH 67 F.im 65 66,bH 68 F.hV 64 67,ba 69 1 59 60,bP 1 69 68] (some ⟨[0,1,2,3,4,5,6,7,8,9,10,11],c' 9 3,[(8,5)]⟩)) .skip
def LA:List aE:=[bb 58 .neq 57 0]
def Lt:aG:=af [bp 52 .lss 51 50] (.seq (cN 52 4) (.seq (.block 5 (af [m 53 51,ba 54 1 49 51,au 55 54,m 9 53,m 10 55] (af (m 56 10::bd 57 F.fb 56::LA) Lw))) (.bs [bb 70 .add 51 1,m 51 70])))
def AN:aG:=af [m 49 7,bC 50 49,bT 51 0] (.block 4 (.loop Lt))
def Lx:List aE:=[bb 48 .eql 47 0]
def Lu:aG:=.seq (af (m 46 8::bd 47 F.fb 46::Lx) (.cond (.t 48) (.exit 3) .skip)) AN
def Ly:List aE:=[m 8 45]
def Lr:aG:=af [bp 33 .lss 32 31] (.seq (cN 33 2) (.seq (.block 3 (af [m 34 32,ba 35 1 30 32,au 36 35,m 6 34,m 7 36] (af (m 37 0::m 38 0::bW 39 38::aB 40 3 39::au 41 40::m 42 6::ba 43 1 41 42::au 44 43::bH 45 F.qH 37 44::Ly) Lu))) (.bs [bb 71 .add 32 1,m 32 71])))
def Lv:aG:=.seq (af [m 27 0,bW 28 27,aB 29 5 28,au 30 29,bC 31 30,bT 32 0] (.block 2 (.loop Lr))) (af [m 72 3,m 2 72] .ret)
def Lz:List aE:=[o 24 (.buildSlice [(.pointer none)] 1 1 [(0,1,(.t 23))]),j9 25 1 8 20 24,m 3 25]
def Ls:aG:=af [bp 17 .lss 16 15] (.seq (cN 17 0) (.seq (.block 1 (af [ba 18 1 14 16,au 19 18,m 5 19] (.bs (m 20 3::m 21 0::m 22 5::bH 23 F.qH 21 22::Lz)))) (.bs [bb 26 .add 16 1,m 16 26])))
@[simp] def qO:bg:=⟨73,(af [fx 2] (af [fx 3] (.seq (af [m 11 0,bW 12 11,aB 13 4 12,au 14 13,bC 15 14,bT 16 0] (.block 0 (.loop Ls))) Lv))),[.slot 2]⟩
def Ky:List aE:=[o 68 (.un .neg (.t 67)),m 4 62,m 5 68]
def Kw:aG:=af (m 62 6::m 63 1::m 64 6::ba 65 1 63 64::au 66 65::bd 67 F.fb 66::Ky) .ret
def Kx:aG:=.seq (af [m 60 6,bb 61 .lss 60 0] (.cond (.t 61) (af [i' 4 0,bT 5 0] .ret) .skip)) Kw
def qJ:aG:=.seq (.draw [m 39 6,bb 40 .lss 39 0,m 41 40,di 42 41 0,b2 43 41 (.nilCheck (.t 42)),eQ 44 41 4 43,dR 45 41 44,di 46 41 7,oI 47 41 1 45 46,dR 48 41 47,di 49 41 0,b2 50 41 (.nilCheck (.t 49)),eQ 51 41 4 50,dR 52 41 51,di 53 41 6,oI 54 41 1 52 53,dR 55 41 54,oH 56 41 .lss 48 55,eh 57 41 56] (some ⟨[0,1,2,3,4,5,6,7,8,9,10,11,12,13,14,15,16,17,18],[true,true,true,false,false,false,false,false,false,false,false,false,false,false,false,false,false,true,true],[]⟩)) (.cond (.t 57) (.bs [m 58 7,m 6 58]) .skip)
def Kv:aG:=af [bp 12 .lss 11 10] (.seq (cN 12 0) (.seq (.block 1 (af [m 13 11,ba 14 1 9 11,au 15 14,m 7 13,m 8 15] (.seq (.seq (.draw [m 16 8,bd 17 F.fb 16,bb 18 .eql 17 0,m 19 18,di 20 19 0,b2 21 19 (.nilCheck (.t 20)),eQ 22 19 2 21,dR 23 19 22,di 24 19 0,b2 25 19 (.nilCheck (.t 24)),eQ 26 19 4 25,dR 27 19 26,di 28 19 7,oI 29 19 1 27 28,dR 30 19 29,oI 31 19 3 23 30,b2 32 19 (.load true 3 (.t 31)),di 33 19 8,b2 34 19 (.call F.fb [(.t 33)]),b2 35 19 (.un .neg (.t 34)),b2 36 19 (.call F.qG [(.t 32),(.t 35)]),b2 37 19 (.un .not (.t 36)),eh 38 19 37] (some ⟨[0,1,2,3,4,5,6,7,8,9,10,11,12,13,14,15,16,17,18,19,20,21,22],[true,true,true,true,false,false,false,false,false,false,false,false,false,false,false,false,false,false,false,false,true,true,true],[(18,7),(18,11),(18,14),(18,16)]⟩)) (.cond (.t 38) (.exit 1) .skip)) qJ))) (.bs [bb 59 .add 11 1,m 11 59])))
@[simp] def r':bg:=⟨69,(af [bT 4 0,bT 5 0] (af [i' 6 0] (.seq (af [m 9 1,bC 10 9,bT 11 0] (.block 0 (.loop Kv))) Kx))),[.slot 4,.slot 5]⟩
@[simp] def qP:bg:=⟨31,(af [ei 2 159 0,dz 4] (.seq (.block 0 (af [m 6 1,bb 7 .gtr 6 0,m 8 7,eG 9 8 1 2,c7 10 8 9,bD 11 8 (.bin .neq (.nil .ptr) (.t 10) (.c (.pointer none))),da 12 8 11,m 5 12] (.cond (.t 5) (af (aB 13 1 2::au 14 13::aB 15 2 2::au 16 15::bH 17 F.kV 14 16::[m 4 17]) .ret) (af [m 19 1,bb 20 .lss 19 0,m 21 20,eG 22 21 0 2,c7 23 21 22,bD 24 21 (.bin .neq (.nil .ptr) (.t 23) (.c (.pointer none))),da 25 21 24,m 18 25] (.cond (.t 18) (af (aB 26 2 2::au 27 26::aB 28 0 2::au 29 28::bH 30 F.kV 27 29::[m 4 30]) .ret) .skip))))) (af [dz 4] .ret))),[.slot 4]⟩
def xU:aG:=.cond (.t 107) (.draw [m 108 14,m 109 11,m 110 0,bW 111 110,aB 112 3 111,au 113 112,m 114 11,ba 115 1 113 114,au 116 115,m 8 108,m 9 109,m 10 116] (some ⟨[0,1,2,3,4,5,6,7,8,9,10,11],[false,false,true,true,true,true,false,true,true,false,false,true],[]⟩)) .skip
def KJ:aG:=af [m 91 15,bb 92 .lss 91 0,m 93 92,di 94 93 15,b2 95 93 (.bin .eql .bR (.t 94) (ci 0)),di 96 93 95,cG 97 96 0,bD 98 96 (.nilCheck (.t 97)),eG 99 96 3 98,c7 100 96 99,cG 101 96 11,mx 102 96 1 100 101,c7 103 96 102,cG 104 96 10,kM 105 96 .lss 103 104,b2 106 93 (.pick (.t 96) (.t 105) (.c (.bool false))),eh 107 93 106] xU
def KM:List aE:=[m 15 90]
def KK:aG:=af [i' 15 0] (.seq (af [m 86 8,kT 87 .neq 86] (.cond (.t 87) (.bs (m 88 14::m 89 8::bH 90 F.hr 88 89::KM)) .skip)) KJ)
def KN:List aE:=[m 80 83,bm 84 80 0,bm 85 80 1,m 14 84]
def vl:aG:=af (m 81 14::m 82 13::bH 83 F.lx 81 82::KN) KK
def KH:aG:=.seq (af (m 75 13::bd 76 F.fb 75::[bb 77 .lss 76 0]) (.cond (.t 77) (.bs (m 78 13::bd 79 F.kU 78::[m 13 79])) .skip)) vl
def AI:aG:=.seq (af [m 73 14,kT 74 .eql 73] (.cond (.t 74) (.exit 1) .skip)) KH
def KI:aG:=.seq (.draw [m 55 0,bW 56 55,aB 57 2 56,au 58 57,m 59 0,bW 60 59,aB 61 3 60,au 62 61,m 63 11,ba 64 1 62 63,au 65 64,ba 66 3 58 65,cO 67 3 66,m 68 2,m 69 13,bd 70 F.fb 69,bp 71 .mul 68 70,bH 72 F.qP 67 71,m 14 72] (some ⟨[0,1,2,3,4,5,6,7,8,9,10,11,12,13,14,15,16,17,18],c' 17 2,[(15,3),(15,7),(15,10),(15,12)]⟩)) AI
def KL:List aE:=[bb 54 .eql 53 0]
def KG:aG:=af [bp 44 .lss 43 42] (.seq (cN 44 0) (.seq (.block 1 (af [m 45 43,ba 46 1 41 43,au 47 46,m 11 45,m 12 47] (af [m 48 12,m 49 1,ba 50 1 48 49,au 51 50,m 13 51] (.seq (af (m 52 13::bd 53 F.fb 52::KL) (.cond (.t 54) (.exit 1) .skip)) KI)))) (.bs [bb 117 .add 43 1,m 43 117])))
def Eg:aG:=.seq (af [m 38 0,bW 39 38,aB 40 5 39,au 41 40,bC 42 41,bT 43 0] (.block 0 (.loop KG))) (af [m 118 8,m 119 9,m 6 118,m 7 119] .ret)
@[simp] def sc:bg:=⟨120,(af [dz 6,bT 7 0] (.seq (.draw [m 16 0,bW 17 16,aB 18 2 17,au 19 18,m 20 0,bW 21 20,aB 22 4 21,au 23 22,m 24 1,ba 25 1 23 24,au 26 25,ba 27 3 19 26,cO 28 3 27,m 29 2,bH 30 F.qP 28 29,m 31 0,bW 32 31,aB 33 4 32,au 34 33,m 35 1,ba 36 1 34 35,au 37 36,m 8 30,i' 9 0,m 10 37] (some ⟨[0,1,2,3,4,5,6,7,8,9,10,11,12,13,15,16,17,18,19,20,21,14,22,23,24],c' 24 1,[(21,17),(21,20)]⟩)) Eg)),[.slot 6,.slot 7]⟩
def Kn:aG:=af [m 36 7,bb 37 .geq 36 0] (.cond (.t 37) (.bs [m 38 0,m 39 7,m 40 4,hR 41 F.qM 38 39 40]) .skip)
def AF:aG:=af [m 32 0,m 33 4,m 34 6,hR 35 F.qL 32 33 34] Kn
def Ko:aG:=.seq (af [m 24 6,kT 25 .eql 24] (.cond (.t 25) (af [m 26 4,m 27 5,m 2 26,m 3 27] .ret) .skip)) (.seq (af [m 28 5,bb 29 .lss 28 0] (.cond (.t 29) (.bs (m 30 6::bd 31 F.kU 30::[m 6 31])) .skip)) AF)
def Kr:List aE:=[m 17 21,bm 22 17 0,bm 23 17 1,m 6 22,m 7 23]
def Ed:aG:=.seq (af [m 15 4,bb 16 .lss 15 0] (.cond (.t 16) (af [i' 2 0,bT 3 0] .ret) .skip)) (af (m 18 0::m 19 4::m 20 5::hR 21 F.sc 18 19 20::Kr) Ko)
def Kp:List aE:=[m 8 12,bm 13 8 0,bm 14 8 1,m 4 13,m 5 14]
def Kq:List aE:=bH 12 F.r' 9 11::Kp
def Km:aG:=.block 1 (af (m 9 0::m 10 0::bd 11 F.qO 10::Kq) Ed)
@[simp] def r9:bg:=⟨42,(af [bT 2 0,bT 3 0] (.block 0 (.loop Km))),[.slot 2,.slot 3]⟩
def LL:aG:=af [bp 10 .lss 9 8] (.seq (cN 10 0) (.seq (.block 1 (af [m 11 9,m 4 11] (.bs [m 12 3,m 13 4,ba 14 1 12 13,⟨none,none,.store 1 (.t 14) (.c (.string ⟨#[48]⟩))⟩]))) (.bs [bb 15 .add 9 1,m 9 15])))
@[simp] def qQ:bg:=⟨17,(af [fx 2] (af [m 5 0,o 6 (.mkSlice [(.string ⟨#[]⟩)] 16 (.t 5) (.t 5)),m 3 6] (.seq (af [m 7 3,bC 8 7,bT 9 0] (.block 0 (.loop LL))) (af [m 16 3,m 2 16] .ret)))),[.slot 2]⟩
def Ll:List aE:=[ba 28 1 17 18,bP 1 28 27]
def Lk:aG:=af [bp 15 .lss 14 13] (.seq (cN 15 0) (.seq (.block 1 (af [m 16 14,m 4 16] (.bs (m 17 3::m 18 4::m 19 0::bW 20 19::aB 21 2 20::au 22 21::m 23 4::ba 24 3 22 23::aB 25 2 24::au 26 25::bd 27 F.hW 26::Ll)))) (.bs [bb 29 .add 14 1,m 14 29])))
@[simp] def qN:bg:=⟨31,(af [fx 2] (af [m 5 0,bW 6 5,aB 7 0 6,aB 8 0 7,au 9 8,bC 10 9,o 11 (.mkSlice [(.string ⟨#[]⟩)] 16 (.t 10) (.t 10)),m 3 11] (.seq (af [m 12 3,bC 13 12,bT 14 0] (.block 0 (.loop Lk))) (af [m 30 3,m 2 30] .ret)))),[.slot 2]⟩
def Ks:aG:=af [bp 21 .lss 20 19] (.seq (cN 21 0) (.seq (.block 1 (af [m 22 20,ba 23 1 18 20,au 24 23,m 6 22,m 7 24] (af [m 25 7,m 26 0,bW 27 26,aB 28 0 27,aB 29 0 28,au 30 29,bC 31 30,bp 32 .geq 25 31] (.cond (.t 32) (.draw [m 33 5,m 34 7,m 35 0,bW 36 35,aB 37 0 36,aB 38 0 37,au 39 38,bC 40 39,bp 41 .sub 34 40,m 42 1,m 43 6,ba 44 1 42 43,au 45 44,bd 46 F.hW 45,ba 47 1 33 41,bP 1 47 46] (some ⟨[0,1,2,3,4,5,6,7,8,9,10,11,12,13,14,15],c' 14 2,[(13,6),(13,7)]⟩)) .skip)))) (.bs [bb 48 .add 20 1,m 20 48])))
def Kt:aG:=.seq (af [m 15 0,bW 16 15,aB 17 4 16,au 18 17,bC 19 18,bT 20 0] (.block 0 (.loop Ks))) (af [m 49 5,m 4 49] .ret)
def Ku:List aE:=[m 5 14]
@[simp] def qI:bg:=⟨50,(af [fx 4] (af (m 8 0::bW 9 8::aB 10 0 9::aB 11 1 10::au 12 11::bC 13 12::bd 14 F.qQ 13::Ku) Kt)),[.slot 4]⟩
def LD:aG:=.seq (af [m 60 5,m 61 0,bW 62 61,aB 63 0 62,aB 64 0 63,au 65 64,bC 66 65,bp 67 .geq 60 66] (.cond (.t 67) (af [m 68 10,m 69 5,m 70 0,bW 71 70,aB 72 0 71,aB 73 0 72,au 74 73,bC 75 74,bp 76 .sub 69 75,ba 77 1 68 76,⟨none,none,.store 1 (.t 77) (.c (.string ⟨#[45,49]⟩))⟩] (af [m 78 6] (.cond (.t 78) (.bs [m 79 10,m 80 5,m 81 0,bW 82 81,aB 83 0 82,aB 84 0 83,au 85 84,bC 86 85,bp 87 .sub 80 86,ba 88 1 79 87,⟨none,none,.store 1 (.t 88) (.c (.string ⟨#[49]⟩))⟩]) .skip))) .skip)) (af [m 89 10,m 4 89] .ret)
def LH:List aE:=[m 10 59]
def LF:aG:=af (m 57 0::m 58 7::bH 59 F.qI 57 58::LH) LD
def LI:List aE:=[ba 55 1 51 52,bP 1 55 54]
def LB:aG:=af [bp 42 .lss 41 40] (.seq (cN 42 0) (.seq (.block 1 (af [m 43 41,ba 44 1 39 41,au 45 44,m 8 43,m 9 45] (af [m 46 7,m 47 8,m 48 9,ba 49 1 46 47,bP 1 49 48] (af [m 50 6] (.cond (.t 50) (.bs (m 51 7::m 52 8::m 53 9::bd 54 F.kU 53::LI)) .skip))))) (.bs [bb 56 .add 41 1,m 41 56])))
def LC:aG:=af [m 27 0,bW 28 27,aB 29 4 28,au 30 29,bC 31 30,o 32 (.mkSlice [(.pointer none)] 8 (.t 31) (.t 31)),m 7 32] (.seq (af [m 33 0,bW 34 33,aB 35 5 34,au 36 35,m 37 1,ba 38 1 36 37,au 39 38,bC 40 39,bT 41 0] (.block 0 (.loop LB))) LF)
def LG:List aE:=[bb 26 .gtr 25 0,m 6 26]
@[simp] def sf:bg:=⟨90,(af [fx 4] (af [m 11 0,bW 12 11,aB 13 3 12,au 14 13,m 15 1,ba 16 1 14 15,au 17 16,m 5 17] (af (m 18 0::bW 19 18::aB 20 2 19::au 21 20::m 22 5::ba 23 3 21 22::cO 24 3 23::bd 25 F.pv 24::LG) LC))),[.slot 4]⟩
def Lm:aG:=af [bp 41 .lss 40 39] (.seq (cN 41 0) (.seq (.block 1 (af [m 42 40,ba 43 1 38 40,au 44 43,m 9 42,m 10 44] (af [m 45 10,m 46 7,bC 47 46,bp 48 .lss 45 47] (.cond (.t 48) (.draw [m 49 7,m 50 10,m 51 0,bW 52 51,aB 53 5 52,au 54 53,m 55 9,ba 56 1 54 55,au 57 56,m 58 1,ba 59 1 57 58,au 60 59,m 61 2,bd 62 F.hF 61,bH 63 F.im 60 62,bd 64 F.hW 63,ba 65 1 49 50,bP 1 65 64] (some ⟨[0,1,2,3,4,5,6,7,8,9,10,11,12,13,14,15,16,17],c' 14 4,[(13,5),(13,8),(13,11)]⟩)) .skip)))) (.bs [bb 66 .add 40 1,m 40 66])))
def vp:aG:=.seq (af [m 35 0,bW 36 35,aB 37 3 36,au 38 37,bC 39 38,bT 40 0] (.block 0 (.loop Lm))) (af [m 67 7,m 6 67] .ret)
def Lq:List aE:=[ba 34 1 29 30,bP 1 34 33]
def Lo:List aE:=bd 33 F.hW 32::Lq
def Ln:aG:=.seq (af [m 18 0,bW 19 18,aB 20 4 19,au 21 20,m 22 1,ba 23 1 21 22,au 24 23,m 8 24] (af [m 25 8,m 26 7,bC 27 26,bp 28 .lss 25 27] (.cond (.t 28) (.bs (m 29 7::m 30 8::m 31 2::bd 32 F.hF 31::Lo)) .skip))) vp
def Lp:List aE:=[m 7 17]
@[simp] def se:bg:=⟨68,(af [fx 6] (af (m 11 0::bW 12 11::aB 13 0 12::aB 14 0 13::au 15 14::bC 16 15::bd 17 F.qQ 16::Lp) Ln)),[.slot 6]⟩
def Kb:List aE:=[o 57 (.build [(.int .i64 (.ofNat 0)),(.string ⟨#[]⟩),(.slice none 0 0),(.slice none 0 0),(.slice none 0 0)] [(0,1,(ci 1)),(1,1,(.t 51)),(2,1,(.t 52)),(3,1,(.t 56))]),bP 5 2 57,ij 3]
def Kc:List aE:=bH 56 F.qI 53 55::Kb
def J8:aG:=af (m 51 10::m 52 9::m 53 4::m 54 4::bd 55 F.qO 54::Kc) .ret
def Ki:List aE:=[m 45 48,bm 49 45 0,bm 50 45 1,m 10 49,m 11 50]
def J':aG:=af (cO 46 2 1::m 47 9::bH 48 F.qc 46 47::Ki) J8
def Kj:List aE:=[m 9 44]
def Ka:aG:=af (m 43 4::bd 44 F.qN 43::Kj) J'
def Kk:List aE:=[o 42 (.build [(.int .i64 (.ofNat 0)),(.string ⟨#[]⟩),(.slice none 0 0),(.slice none 0 0),(.slice none 0 0)] [(0,1,(ci 3)),(2,1,(.t 37)),(4,1,(.t 41))]),bP 5 2 42,ij 3]
def Kl:List aE:=m 38 4::m 39 7::m 40 8::hR 41 F.se 38 39 40::Kk
def J3:aG:=af [m 34 7,bb 35 .geq 34 0] (.cond (.t 35) (af (m 36 4::bd 37 F.qN 36::Kl) .ret) .skip)
def Kd:List aE:=[m 29 31,bm 32 29 0,bm 33 29 1,m 7 32,m 8 33]
def J4:aG:=.seq (af (m 30 4::bd 31 F.r9 30::Kd) J3) Ka
def Ke:List aE:=[o 28 (.build [(.int .i64 (.ofNat 0)),(.string ⟨#[]⟩),(.slice none 0 0),(.slice none 0 0),(.slice none 0 0)] [(0,1,(ci 2)),(3,1,(.t 27))]),bP 5 2 28,ij 3]
def J5:aG:=af [m 23 6,fI 24 23] (.cond (.t 24) (af (m 25 4::m 26 5::bH 27 F.sf 25 26::Ke) .ret) .skip)
def Kf:List aE:=[m 18 20,bm 21 18 0,bm 22 18 1,m 5 21,m 6 22]
def J6:aG:=.seq (af (m 19 4::bd 20 F.sa 19::Kf) J5) J4
def Kg:List aE:=[m 4 17]
def J7:aG:=af (cO 16 2 1::bd 17 F.sd 16::Kg) J6
def J9:aG:=.cond (.t 14) (af [o 15 (.build [(.int .i64 (.ofNat 0)),(.string ⟨#[]⟩),(.slice none 0 0),(.slice none 0 0),(.slice none 0 0)] []),bP 5 2 15,cd 3] .ret) .skip
def Kh:List aE:=[fI 14 13]
abbrev T.acp:Nat:=25
abbrev T.acq:Nat:=33
@[simp] def qF:bg:=⟨58,(af [ei 1 25 0,o 2 (.alloc 33 [(.int .i64 (.ofNat 0)),(.string ⟨#[]⟩),(.slice none 0 0),(.slice none 0 0),(.slice none 0 0)]),cd 3] (.seq (af (cO 12 2 1::bd 13 F.ki 12::Kh) J9) J7)),[.cell 2 true 5,.slot 3]⟩
def Bw:List aE:=[o 16 (.buildSlice [(.int .i64 (.ofNat 0))] 1 1 [(0,1,(ci 1))]),o 17 (.build [(.bool false),(.slice none 0 0),(.slice none 0 0)] [(0,1,(.c (.bool false))),(1,1,(.t 15)),(2,1,(.t 16))]),bP 3 2 17]
def Bv:aG:=af (m 13 0::dU 14 .u64 13::bd 15 F.q1 14::Bw) .ret
def Bx:List aE:=[o 11 (.buildSlice [(.int .i64 (.ofNat 0))] 1 1 [(0,1,(ci 1))]),o 12 (.build [(.bool false),(.slice none 0 0),(.slice none 0 0)] [(0,1,(.c (.bool true))),(1,1,(.t 10)),(2,1,(.t 11))]),bP 3 2 12]
abbrev T.tA:Nat:=55
@[simp] def qR:bg:=⟨18,(af [o 2 (.alloc 55 [(.bool false),(.slice none 0 0),(.slice none 0 0)])] (.seq (af [m 3 0,bb 4 .lss 3 0] (.cond (.t 4) (af (m 5 0::bb 6 .add 5 1::o 7 (.un .neg (.t 6))::dU 8 .u64 7::o 9 (.bin .add .bR (.t 8) (.c (.int .u64 (.ofNat 1))))::bd 10 F.q1 9::Bx) .ret) .skip)) Bv)),[.cell 2 true 3]⟩
def vU:aG:=af [m 24 3,m 2 24] .ret
def BU:List aE:=[o 22 (.bin .add .bR (.c (.string ⟨#[47]⟩)) (.t 21)),bp 23 .add 18 22,m 3 23]
def BN:aG:=.cond (.t 17) (.bs (m 18 3::aB 19 2 1::au 20 19::bd 21 F.qd 20::BU)) .skip
def Cb:List aE:=[bb 17 .gtr 16 0]
def tL:aG:=.seq (af (aB 13 2 1::au 14 13::o 15 (.buildSlice [(.int .i64 (.ofNat 0))] 1 1 [(0,1,(ci 1))])::bH 16 F.oA 14 15::Cb) BN) vU
def BP:aG:=.seq (af [aB 9 0 1,au 10 9] (.cond (.t 10) (.bs [m 11 3,o 12 (.bin .add .bR (.c (.string ⟨#[45]⟩)) (.t 11)),m 3 12]) .skip)) tL
def Cq:List aE:=[m 3 8]
def BQ:aG:=af (aB 6 1 1::au 7 6::bd 8 F.qd 7::Cq) BP
def Cr:List aE:=[bP 3 1 5]
abbrev T.vT:Nat:=55
@[simp] def q2:bg:=⟨25,(af [ei 1 55 0,o 2 (.dw (.c (.string ⟨#[]⟩)))] (af (cO 4 3 1::bd 5 F.ry 4::Cr) BQ)),[.slot 2]⟩
def Bc:aG:=af (m 100 5::bd 101 F.m' 100::[m 4 101]) .ret
def vq:aG:=.bs [m 92 5,m 93 8,m 94 5,m 95 8,ba 96 1 94 95,au 97 96,bb 98 .rem 97 10000,ba 99 1 92 93,bP 1 99 98]
def A8:aG:=.seq (af [m 73 8,bb 74 .add 73 1,m 75 5,bC 76 75,bp 77 .lss 74 76] (cN 77 4)) (.seq (.block 5 (.seq (.draw [m 80 5,m 81 8,bb 82 .add 81 1,ba 83 1 80 82,au 84 83,m 85 5,m 86 8,ba 87 1 85 86,au 88 87,bb 89 .quo 88 10000,bp 90 .add 84 89,ba 91 1 80 82,bP 1 91 90] (some ⟨[0,1,2,3,4,5,6,7,8,9,10,11,12],c' 10 3,[]⟩)) vq)) (.bs [m 78 8,bb 79 .add 78 1,m 8 79]))
def Bo:aG:=.seq (af [bT 8 0] (.block 4 (.loop A8))) Bc
def u':aG:=.bs [m 59 5,m 60 6,m 61 7,bp 62 .add 60 61,m 63 5,m 64 6,m 65 7,bp 66 .add 64 65,ba 67 1 63 66,au 68 67,bb 69 .rem 68 10000,ba 70 1 59 62,bP 1 70 69]
def vj:aG:=.seq (.draw [m 43 5,m 44 6,m 45 7,bp 46 .add 44 45,bb 47 .add 46 1,ba 48 1 43 47,au 49 48,m 50 5,m 51 6,m 52 7,bp 53 .add 51 52,ba 54 1 50 53,au 55 54,bb 56 .quo 55 10000,bp 57 .add 49 56,ba 58 1 43 47,bP 1 58 57] (some ⟨[0,1,2,3,4,5,6,7,8,9,10,11,12,13,14,15,16],c' 14 3,[]⟩)) u'
def Bk:aG:=.seq (.draw [m 26 5,m 27 6,m 28 7,bp 29 .add 27 28,ba 30 1 26 29,au 31 30,m 32 0,m 33 6,ba 34 1 32 33,au 35 34,m 36 1,m 37 7,ba 38 1 36 37,au 39 38,bp 40 .mul 35 39,bp 41 .add 31 40,ba 42 1 26 29,bP 1 42 41] (some ⟨[0,1,2,3,4,5,6,7,8,9,10,11,12,13,14,15,16,17],c' 15 3,[]⟩)) vj
def AS:aG:=af [bp 24 .lss 23 22] (.seq (cN 24 2) (.seq (.block 3 (af [m 25 23,m 7 25] Bk)) (.bs [bb 71 .add 23 1,m 23 71])))
def A3:aG:=af [bp 19 .lss 18 17] (.seq (cN 19 0) (.seq (.block 1 (af [m 20 18,m 6 20] (af [m 21 1,bC 22 21,bT 23 0] (.block 2 (.loop AS))))) (.bs [bb 72 .add 18 1,m 18 72])))
@[simp] def p7:bg:=⟨102,(af [fx 4] (af [m 9 0,bC 10 9,m 11 1,bC 12 11,bp 13 .add 10 12,bb 14 .add 13 1,o 15 (.mkSlice [(.int .i64 (.ofNat 0))] 8 (.t 14) (.t 14)),m 5 15] (.seq (af [m 16 0,bC 17 16,bT 18 0] (.block 0 (.loop A3))) Bo))),[.slot 4]⟩
abbrev T.u3:Nat:=55
@[simp] def rp:bg:=⟨16,(af [o 6 (.alloc 55 [(.bool false),(.slice none 0 0),(.slice none 0 0)])] (af [m 7 0,m 8 7,cG 9 8 1,bD 10 8 (.len .l (.t 9)),bD 11 8 (.bin .gtr .bR (.t 10) (ci 0)),da 12 8 11,m 13 1,m 14 2,o 15 (.build [(.bool false),(.slice none 0 0),(.slice none 0 0)] [(0,1,(.t 12)),(1,1,(.t 13)),(2,1,(.t 14))]),bP 3 6 15] .ret)),[.cell 6 true 3]⟩
def uN:aG:=af [bT 4 0] .ret
def sj:aG:=.bs [m 16 5,bb 17 .sub 16 1,m 5 17]
def sk:aG:=.seq (af [m 34 6,m 35 7,bp 36 .lss 34 35] (.cond (.t 36) (af [i' 4 0] .ret) .skip)) (af [m 37 6,m 38 7,bp 39 .gtr 37 38] (.cond (.t 39) (af [bT 4 1] .ret) .skip))
def yE:aG:=.seq (af [m 14 5,bb 15 .geq 14 0] (cN 15 0)) (.seq (.block 1 (af [bT 6 0,bT 7 0] (.seq (af [m 18 5,m 19 0,bC 20 19,bp 21 .lss 18 20] (.cond (.t 21) (.bs [m 22 0,m 23 5,ba 24 1 22 23,au 25 24,m 6 25]) .skip)) (.seq (af [m 26 5,m 27 1,bC 28 27,bp 29 .lss 26 28] (.cond (.t 29) (.bs [m 30 1,m 31 5,ba 32 1 30 31,au 33 32,m 7 33]) .skip)) sk)))) sj)
@[simp] def oA:bg:=⟨40,(af [bT 4 0] (.seq (af [m 8 0,bC 9 8,m 10 1,bC 11 10,o 12 (.max2 (.t 9) (.t 11)),bb 13 .sub 12 1,m 5 13] (.block 0 (.loop yE))) uN)),[.slot 4]⟩
def v':aG:=af (m 47 5::bd 48 F.m' 47::[m 4 48]) .ret
def sy:aG:=af [m 28 5,m 29 6,ba 30 1 28 29,au 31 30,bb 32 .lss 31 0] (.cond (.t 32) (af [m 33 5,m 34 6,ba 35 1 33 34,au 36 35,bb 37 .add 36 10000,ba 38 1 33 34,bP 1 38 37] (.bs [m 39 5,m 40 6,bb 41 .add 40 1,ba 42 1 39 41,au 43 42,bb 44 .sub 43 1,ba 45 1 39 41,bP 1 45 44])) .skip)
def Cs:aG:=.seq (af [m 14 6,m 15 1,bC 16 15,bp 17 .lss 14 16] (.cond (.t 17) (.draw [m 18 5,m 19 6,ba 20 1 18 19,au 21 20,m 22 1,m 23 6,ba 24 1 22 23,au 25 24,bp 26 .sub 21 25,ba 27 1 18 19,bP 1 27 26] (some ⟨[0,1,2,3,4,5,6,7,8,9,10],c' 8 3,[]⟩)) .skip)) sy
def vX:aG:=af [bp 12 .lss 11 10] (.seq (cN 12 0) (.seq (.block 1 (af [m 13 11,m 6 13] Cs)) (.bs [bb 46 .add 11 1,m 11 46])))
@[simp] def rX:bg:=⟨49,(af [fx 4] (af [m 7 0,o 8 (.append 1 8 (.c (.slice none 0 0)) (.t 7)),m 5 8] (.seq (af [m 9 5,bC 10 9,bT 11 0] (.block 0 (.loop vX))) v'))),[.slot 4]⟩
def Bu:aG:=af [m 14 3,m 2 14] .ret
def Bt:aG:=.seq (af [m 4 0,o 5 (.bin .gtr .bR (.t 4) (.c (.int .u64 (.ofNat 0))))] (cN 5 0)) (.seq (.block 1 (.bs [m 8 3,m 9 0,o 10 (.bin .rem .bR (.t 9) (.c (.int .u64 (.ofNat 10000)))),dU 11 .i64 10,o 12 (.buildSlice [(.int .i64 (.ofNat 0))] 1 1 [(0,1,(.t 11))]),j9 13 1 8 8 12,m 3 13])) (.bs [m 6 0,o 7 (.bin .quo .bR (.t 6) (.c (.int .u64 (.ofNat 10000)))),m 0 7]))
@[simp] def q1:bg:=⟨15,(af [fx 2] (af [fx 3] (.seq (.block 0 (.loop Bt)) Bu))),[.slot 2]⟩
def BB:List aE:=[bP 3 2 31]
def By:aG:=af (aB 27 0 1::au 28 27::m 29 4::m 30 6::hR 31 F.rp 28 29 30::BB) .ret
def BC:List aE:=[m 20 24,bm 25 20 0,bm 26 20 1,m 6 25,m 7 26]
def Bz:aG:=af (aB 21 2 1::au 22 21::m 23 3::bH 24 F.oO 22 23::BC) By
def BI:List aE:=[m 13 17,bm 18 13 0,bm 19 13 1,m 4 18,m 5 19]
def BA:aG:=af (aB 14 1 1::au 15 14::m 16 3::bH 17 F.oO 15 16::BI) Bz
def BM:List aE:=[m 3 12]
abbrev T.Fz:Nat:=55
abbrev T.vS:Nat:=55
@[simp] def ry:bg:=⟨32,(af [ei 1 55 0,o 2 (.alloc 55 [(.bool false),(.slice none 0 0),(.slice none 0 0)])] (af (aB 8 1 1::au 9 8::aB 10 2 1::au 11 10::bH 12 F.ru 9 11::BM) BA)),[.cell 2 true 3]⟩
def vI:aG:=af [m 43 3,m 2 43] .ret
def ss:aG:=.bs [m 14 4,bb 15 .add 14 1,m 4 15]
def tz:aG:=.bs [m 22 6,bb 23 .add 22 1,m 6 23]
def su:aG:=af [m 33 5,bb 34 .rem 33 10,o 35 (.bin .add .bR (ci 48) (.t 34)),dU 36 .u8 35,o 37 (.buildSlice [(.int .u8 (.ofNat 0))] 1 1 [(0,1,(.t 36))]),o 38 (.conv .E8 (.t 37)),m 39 3,bp 40 .add 38 39,m 3 40] (.bs [m 41 5,bb 42 .quo 41 10,m 5 42])
def Bs:aG:=.seq (af [m 20 6,bb 21 .lss 20 4] (cN 21 2)) (.seq (.block 3 (.seq (af [m 24 4,m 25 0,bC 26 25,bb 27 .sub 26 1,bp 28 .eql 24 27,m 29 28,cG 30 29 5,bD 31 29 (.bin .eql .bR (.t 30) (ci 0)),da 32 29 31] (.cond (.t 32) (.exit 2) .skip)) su)) tz)
def Br:aG:=.seq (af [m 10 4,m 11 0,bC 12 11,bp 13 .lss 10 12] (cN 13 0)) (.seq (.block 1 (af [m 16 0,m 17 4,ba 18 1 16 17,au 19 18,m 5 19] (af [bT 6 0] (.block 2 (.loop Bs))))) ss)
@[simp] def qd:bg:=⟨44,(af [o 2 (.dw (.c (.string ⟨#[]⟩)))] (.seq (af [m 7 0,bC 8 7,bb 9 .eql 8 0] (.cond (.t 9) (af [o 2 (.dw (.c (.string ⟨#[48]⟩)))] .ret) .skip)) (af [o 3 (.dw (.c (.string ⟨#[]⟩)))] (.seq (af [bT 4 0] (.block 0 (.loop Br))) vI)))),[.slot 2]⟩
def AQ:aG:=af [m 18 0,m 4 18] .ret
def AR:List aE:=[m 10 13,bm 14 10 0,bm 15 10 1,m 5 14,m 6 15]
def AP:aG:=.seq (af [m 7 1,bC 8 7,bb 9 .gtr 8 0] (cN 9 0)) (.block 1 (af (m 11 0::m 12 1::bH 13 F.oO 11 12::AR) (.bs [m 16 1,m 17 6,m 0 16,m 1 17])))
@[simp] def ru:bg:=⟨19,(af [fx 4] (.seq (.block 0 (.loop AP)) AQ)),[.slot 4]⟩
def yU:aG:=af (m 61 6::bd 62 F.m' 61::[m 63 7,m 4 62,m 5 63]) .ret
def sl:aG:=.bs [m 20 8,bb 21 .sub 20 1,m 8 21]
def zo:List aE:=[m 7 60]
def zX:List aE:=bH 60 F.rX 55 59::zo
def s4:aG:=af [m 51 6,m 52 8,m 53 9,ba 54 1 51 52,bP 1 54 53] (.bs (m 55 7::m 56 1::m 57 9::o 58 (.buildSlice [(.int .i64 (.ofNat 0))] 1 1 [(0,1,(.t 57))])::bH 59 F.p7 56 58::zX))
def Ak:List aE:=[bb 48 .leq 47 0]
def AO:List aE:=m 46 7::bH 47 F.oA 45 46::Ak
def yF:aG:=.seq (af [m 34 10,m 35 9,bp 36 .sub 34 35,bb 37 .gtr 36 1] (cN 37 2)) (.block 3 (af [m 38 9,m 39 10,bp 40 .add 38 39,bb 41 .quo 40 2,m 11 41] (af (m 42 1::m 43 11::o 44 (.buildSlice [(.int .i64 (.ofNat 0))] 1 1 [(0,1,(.t 43))])::bH 45 F.p7 42 44::AO) (.cond (.t 48) (.bs [m 49 11,m 9 49]) (.bs [m 50 11,m 10 50])))))
def uT:aG:=.seq (.block 2 (.loop yF)) s4
def yV:aG:=af [bT 9 1,bT 10 10000] uT
def zj:List aE:=[bb 33 .lss 32 0]
def zi:aG:=.seq (af (m 30 7::m 31 1::bH 32 F.oA 30 31::zj) (.cond (.t 33) (.exit 1) .skip)) yV
def yG:aG:=.seq (af [m 18 8,bb 19 .geq 18 0] (cN 19 0)) (.seq (.block 1 (af (m 22 0::m 23 8::ba 24 1 22 23::au 25 24::o 26 (.buildSlice [(.int .i64 (.ofNat 0))] 1 1 [(0,1,(.t 25))])::m 27 7::j9 28 1 8 26 27::bd 29 F.m' 28::[m 7 29]) zi)) sl)
@[simp] def oO:bg:=⟨64,(af [fx 4,fx 5] (af [m 12 0,bC 13 12,o 14 (.mkSlice [(.int .i64 (.ofNat 0))] 8 (.t 13) (.t 13)),m 6 14] (af [fx 7] (.seq (af [m 15 0,bC 16 15,bb 17 .sub 16 1,m 8 17] (.block 0 (.loop yG))) yU)))),[.slot 4,.slot 5]⟩
@[simp] def m':bg:=⟨21,(af [fx 2] (af [m 4 0,bC 5 4,m 3 5] (.seq (.block 0 (.loop (.seq (af [m 6 3,bb 7 .gtr 6 0,m 8 7,cG 9 8 0,cG 10 8 3,bD 11 8 (.bin .sub .bR (.t 10) (ci 1)),mx 12 8 1 9 11,c7 13 8 12,bD 14 8 (.bin .eql .bR (.t 13) (ci 0)),da 15 8 14] (cN 15 0)) (.block 1 (.bs [m 16 3,bb 17 .sub 16 1,m 3 17]))))) (af [m 18 0,m 19 3,o 20 (.ji 1 (.t 18) none (some (.t 19)) none),m 2 20] .ret)))),[.slot 2]⟩
def EX:List aE:=[m 2 5]
def E2:List aE:=bd 5 F.q2 4::EX
@[simp] def q9:bg:=⟨6,(af [o 2 (.dw (.c (.string ⟨#[]⟩)))] (af (m 3 0::bd 4 F.qR 3::E2) .ret)),[.slot 2]⟩
def EJ:List aE:=[da 108 104 107,m 109 108,eG 110 109 0 14,c7 111 109 110,bD 112 109 (.bin .eql .bR (.t 111) (ci 3)),cG 113 109 112,eQ 114 113 0 14,dR 115 113 114,b2 116 113 (.bin .eql .bR (.t 115) (ci 1)),di 117 113 116,eG 118 117 1 14,c7 119 117 118,bD 120 117 (.bin .eql .bR (.t 119) (.c (.string ⟨#[48]⟩))),b2 121 113 (.pick (.t 117) (.t 120) (.c (.bool false))),bD 122 109 (.pick (.t 113) (.c (.bool true)) (.t 121)),da 123 109 122,m 4 123]
def Et:aG:=af (m 103 15::m 104 103::bD 105 104 (.load true 2 (.t 6))::bD 106 104 (.load true 5 (.t 14))::bD 107 104 (.call F.rY [(.t 105),(.t 106)])::EJ) .ret
def ET:List aE:=[m 98 100,bm 101 98 0,bm 102 98 1,o 14 (.alloc 33 [(.int .i64 (.ofNat 0)),(.string ⟨#[]⟩),(.slice none 0 0),(.slice none 0 0),(.slice none 0 0)]),bP 5 14 101,m 15 102]
def Eu:aG:=af (cO 99 2 6::bd 100 F.qF 99::ET) Et
def xl:aG:=.bs [m 51 9,bb 52 .add 51 1,m 9 52]
def tO:aG:=.bs [aB 92 1 6,au 93 92,cO 94 5 10,o 95 (.buildSlice [(.string ⟨#[]⟩),(.int .i64 (.ofNat 0)),(.slice none 0 0),(.string ⟨#[]⟩),(.string ⟨#[]⟩)] 5 1 [(0,5,(.t 94))]),j9 96 5 80 93 95,aB 97 1 6,bP 1 97 96]
def tQ:aG:=.bs [m 57 11,bb 58 .add 57 1,m 11 58]
def sN:aG:=af [m 81 12,bb 82 .neq 81 0] (.cond (.t 82) (.draw [aB 83 2 10,au 84 83,m 85 11,m 86 12,bd 87 F.q9 86,o 88 (.build [(.int .i64 (.ofNat 0)),(.string ⟨#[]⟩)] [(0,1,(.t 85)),(1,1,(.t 87))]),o 89 (.buildSlice [(.int .i64 (.ofNat 0)),(.string ⟨#[]⟩)] 2 1 [(0,2,(.t 88))]),j9 90 2 24 84 89,aB 91 2 10,bP 1 91 90] (some ⟨[0,1,2,3,4,5,6,7,8,9],c' 7 3,[(4,1),(6,1)]⟩)) .skip)
def Ep:aG:=.seq (af [m 54 11,m 55 0,bp 56 .lss 54 55] (cN 56 4)) (.seq (.block 5 (af [m 59 9,bb 60 .mul 59 3,m 61 11,bb 62 .mul 61 5,bp 63 .add 60 62,bb 64 .rem 63 7,bb 65 .sub 64 3,m 12 65] (.seq (af [m 66 9,m 67 0,bp 68 .mul 66 67,m 69 11,bp 70 .add 68 69,m 13 70] (af [m 71 13,m 72 1,bC 73 72,bp 74 .lss 71 73] (.cond (.t 74) (.bs [m 75 1,m 76 13,ba 77 1 75 76,au 78 77,bb 79 .rem 78 6,bb 80 .sub 79 3,m 12 80]) .skip))) sN))) tQ)
def wB:aG:=.block 4 (.loop Ep)
def Er:aG:=.seq (af [m 47 9,m 48 0,bb 49 .add 48 2,bp 50 .lss 47 49] (cN 50 2)) (.seq (.block 3 (af [o 53 (.build [(.string ⟨#[]⟩),(.int .i64 (.ofNat 0)),(.slice none 0 0),(.string ⟨#[]⟩),(.string ⟨#[]⟩)] [(0,1,(.c (.string ⟨#[114]⟩))),(1,1,(ci 1)),(3,1,(.c (.string ⟨#[48]⟩)))]),o 10 (.alloc 28 [(.string ⟨#[]⟩),(.int .i64 (.ofNat 0)),(.slice none 0 0),(.string ⟨#[]⟩),(.string ⟨#[]⟩)]),bP 5 10 53] (.seq (af [bT 11 0] wB) tO))) xl)
def wC:aG:=.seq (af [bT 9 0] (.block 2 (.loop Er))) Eu
def tN:aG:=.bs [m 27 7,bb 28 .add 27 1,m 7 28]
def sM:aG:=.draw [aB 39 0 6,au 40 39,m 41 8,bd 42 F.q9 41,o 43 (.build [(.string ⟨#[]⟩),(.string ⟨#[]⟩),(.string ⟨#[]⟩),(.string ⟨#[]⟩),(.bool false)] [(0,1,(.c (.string ⟨#[120]⟩))),(1,1,(.c (.string ⟨#[48]⟩))),(3,1,(.t 42))]),o 44 (.buildSlice [(.string ⟨#[]⟩),(.string ⟨#[]⟩),(.string ⟨#[]⟩),(.string ⟨#[]⟩),(.bool false)] 5 1 [(0,5,(.t 43))]),j9 45 5 72 40 44,aB 46 0 6,bP 1 46 45] (some ⟨[0,1,2,3,4,5,6,7,8],c' 6 3,[(3,1),(5,1)]⟩)
def Es:aG:=.seq (af [m 24 7,m 25 0,bp 26 .lss 24 25] (cN 26 0)) (.seq (.block 1 (af [i' 8 0] (.seq (af [m 29 7,m 30 1,bC 31 30,bp 32 .lss 29 31] (.cond (.t 32) (.bs [m 33 1,m 34 7,ba 35 1 33 34,au 36 35,bb 37 .rem 36 5,bb 38 .sub 37 4,m 8 38]) .skip)) sM))) tN)
def Ev:aG:=.seq (af [m 17 5,fI 18 17] (.cond (.t 18) (af [cd 4] .ret) .skip)) (af [m 19 0,bb 20 .rem 19 4,bb 21 .add 20 4,bb 22 .rem 21 4,o 23 (.bin .add .bR (ci 2) (.t 22)),m 0 23] (af [o 6 (.alloc 25 [(.slice none 0 0),(.slice none 0 0)])] (.seq (af [bT 7 0] (.block 0 (.loop Es))) wC)))
def EW:List aE:=[m 5 16]
abbrev T.mg:Nat:=25
abbrev T.nA:Nat:=28
abbrev T.Eo:Nat:=33
@[simp] def so:bg:=⟨124,(af [cd 4] (af (o 16 (.call F.HB [])::EW) Ev)),[.slot 4]⟩
attribute [simp] p6 wQ wP rA p2 mG nQ s8 zl zm oY oX u2 w' nX kj qe Ix mP w4 C3 Ik zA w3 IC uU w2 IB H' CX H6 zy H7 te mN CV H8 w0 Ia H9 CW Ib Ic xC Jr C6 C5 w1 hU CY Ih CZ Ii C1 Iz IA Ir Is Iq mO Io C0 Ip CF sn C' D5 DF El wA DU Em DX D3 wz D4 C8 xV KW AL KR AJ KZ KO vm K0 KS vn K1 KT KU K2 KV KP KX AK K3 xW KY KQ Eh K4 Ei K5 K9 Li Lc Lj K6 xX Ek K7 K' Ld Le Lf Lg La Lh K8 Ej Lb AM vo qK KF LK LJ KA AG KC KE AH Ee Ef KB KD Kz Lw LA Lt AN Lx Lu Ly Lr Lv Lz Ls Ky Kw Kx qJ Kv xU KJ KM KK KN vl KH AI KI KL KG Eg Kn AF Ko Kr Ed Kp Kq Km LL Ll Lk Ks Kt Ku LD LH LF LI LB LC LG Lm vp Lq Lo Ln Lp Kb Kc J8 Ki J' Kj Ka Kk Kl J3 Kd J4 Ke J5 Kf J6 Kg J7 J9 Kh Bw Bv Bx vU BU BN Cb tL BP Cq BQ Cr Bc vq A8 Bo u' vj Bk AS A3 uN sj sk yE v' sy Cs vX Bu Bt BB By BC Bz BI BA BM vI ss tz su Bs Br AQ AR AP yU sl zo zX s4 Ak AO yF uT yV zj zi yG EX E2 EJ Et ET Eu xl tO tQ sN Ep wB Er wC tN sM Es Ev EW
section
variable[bL]
def aN:List Nat->Nat
 | []=>0
 | d::a=>d+4294967296*aN a
def dg(an:List Nat)(i:Nat):Nat:=an[i]?.getD 0
def dK(an:List Nat):Prop:=∀d∈an,d<4294967296
def strip:List Nat->List Nat
 | []=>[]
 | d::a=>if strip a=[]/\d=0 then[] else d::strip a
def cq(an:List Nat):List Value:=an.map λ(d:Nat)=>Value.int .u32 (d:Int)
def vE(y:bz)(a:List Value):Prop:=y=.cells a (.n 1)∨y=.ro a
def dh(H:ae)(v:Value)(an:List Nat):Prop:=
 dK an/\((v=.slice none 0 0/\an=[])∨∃c a d y b,v=.slice (some ⟨c,a,none⟩) an.length d/\H.get c=some y/\vE y b/\(b.drop a).take an.length=cq an/\a+an.length<=b.length/\an.length<=d/\bL.s c)
def Tz:bz->Bool:=λ_=>true
end
@[simp] theorem adT(cs:List Value)(t:TypeId):Tz (.cells cs (.t t))=true:=rfl
end Go.Dam.C
namespace Go.Dam.C
open Go Go.Dam
variable[bL]
abbrev EN(x:bz)(l:List Value):Prop:=rowOf x=some l/\Tz x=true
def eT(H:ae)(v:Value)(an:List Nat):Prop:=
 (v=.pointer none/\an=[])∨∃b x s,v=.pointer (some ⟨b,0,none⟩)/\H.get b=some x/\EN x [s]/\dh H s an
def Has(X:aA)(f:Nat)(F:bg):Prop:=X.gv f=none/\X.T f=some F
structure dQ(X:aA):Prop where
 hk:Has X F.hk C.hk
 ek:Has X F.ek C.ek
 hl:Has X F.hl C.hl
 dx:Has X F.dx C.dx
 lp:Has X F.lp C.lp
 nP:Has X F.nP C.nP
 nR:Has X F.nR C.nR
 kg:Has X F.kg C.kg
 rz:Has X F.rz C.rz
 mE:Has X F.mE C.mE
 nS:Has X F.nS C.nS
 nT:Has X F.nT C.nT
 mF:Has X F.mF C.mF
 p5:Has X F.p5 C.p5
 rD:Has X F.rD C.rD
 mD:Has X F.mD C.mD
 p4:Has X F.p4 C.p4
 rC:Has X F.rC C.rC
 rB:Has X F.rB C.rB
 p3:Has X F.p3 C.p3
 oR:Has X F.oR C.oR
 ow:Has X F.ow C.ow
 q0:Has X F.q0 C.q0
 qZ:Has X F.qZ C.qZ
 ly:Has X F.ly C.ly
 jE:Has X F.jE C.jE
 qj:Has X F.qj C.qj
 hF:Has X F.hF C.hF
 l2:Has X F.l2 C.l2
 hW:Has X F.hW C.hW
 jc:Has X F.jc C.jc
 qk:Has X F.qk C.qk
 hV:Has X F.hV C.hV
 kU:Has X F.kU C.kU
 kV:Has X F.kV C.kV
 im:Has X F.im C.im
 lx:Has X F.lx C.lx
 hr:Has X F.hr C.hr
 fb:Has X F.fb C.fb
 nW:Has X F.nW C.nW
 l1:Has X F.l1 C.l1
variable{X:aA}{pm:Perm}{H ab:ae}
end Go.Dam.C
namespace Go.Dam.C
open Go Go.Dam
variable{X:aA}{pm:Perm}{H ab:ae}
theorem Call.has{f:FuncId}{args:List Value}{R:Value->ae->Prop}{F:bg}(a:Has X f F)(b:Nat.ble args.length F.kh=true)
 (h:wp X pm (.code F.body) (ub args 0 []) H [] λx l ab=>(x=.normal∨x=.ret)/\∃aq,kn l ab F.res=some aq/\R (iw aq) ab):Call X pm f args H R:=
 Call.func a.1 a.2 (Nat.le_of_ble_eq_true b) h
theorem vE.row{y:bz}{a:List Value}(h:vE y a):rowOf y=some a:=by rcases h with rfl | rfl<;>rfl
theorem vE.ji{y:bz}{d:List Value}(e:vE y d){l h m cap c off:Nat}(a:H.get c=some y)(b7:l<=h)(cH:h<=m)(b:m<=cap):
 (jU 1 (some ⟨c,off,none⟩) l h m cap).run pm H=some (.slice (some ⟨c,off+l,none⟩) (h-l) (m-l),H):=by
 rcases e with rfl | rfl
 ·have:=DM (pm:=pm) (cn:=1) (off:=off) a (.inl rfl) b7 cH b;simpa using this
 ·rw[abf a b7 cH b];simp
section
variable[bL]
theorem dh.take{a:Option Addr}{cap:Nat}{an:List Nat}(h:dh H (.slice a an.length cap) an)(k:Nat)(av:k<=an.length):dh H (.slice a k cap) (an.take k):=by
 obtain⟨a,h⟩:=h;refine⟨λd b=>a d (tt b),?_⟩
 rcases h with⟨b7,rfl⟩ | ⟨c,off,dm,y,row,aP,b7,cH,cD,dS,gf⟩
 ·cases b7;obtain rfl:k=0:=by simpa using av
  exact .inl ⟨rfl,by simp⟩
 ·cases aP;refine .inr ⟨c,off,cap,y,row,by simp[tj av],b7,cH,?_,by simp;omega,by have:=gf.1;simp;omega,gf.2⟩;have:=congrArg (List.take k) cD;rw[List.take_take]at this;simp only[l6];rw[this];simp[cq,List.map_take]
theorem dh.form{v:Value}{an:List Nat}(h:dh H v an):∃a cap,v=.slice a an.length cap:=by
 obtain⟨_,⟨rfl,rfl⟩ | ⟨_,_,cap,_,_,rfl,_⟩⟩:=h
 ·exact⟨_,_,rfl⟩
 ·exact⟨_,_,rfl⟩
theorem dh.nil:dh H (.slice none 0 0) []:=⟨λ_ h=>(by cases h),.inl ⟨rfl,rfl⟩⟩
theorem dh.u{v:Value}{an:List Nat}(h:dh H v an)(a:ck pm H)(av:bx pm H ab):dh ab v an:=by
 refine⟨h.1,h.2.imp id ?_⟩;rintro⟨c,b,d,y,e,f,g,i⟩;exact⟨c,b,d,y,e,f,av.some a g,i⟩
theorem eT.u{v:Value}{an:List Nat}(h:eT H v an)(a:ck pm H)(av:bx pm H ab):eT ab v an:=by
 refine h.imp id ?_;rintro⟨b,x,s,c,d,e,f⟩;exact⟨b,x,s,c,av.some a d,e,f.u a av⟩
end
theorem dh.cell{an:List Nat}{a:List Value}{off i:Nat}(h:(a.drop off).take an.length=cq an)(b:i<an.length):a[off+i]? = some (.int .u32 ((an[i]:Nat):Int)):=by
 have:=congrArg (·[i]?) h;simp only[jY b,jZ]at this;rw[this];simp[cq,b]
theorem dK.get{an:List Nat}(h:dK an)(i:Nat):an[i]?.getD 0<4294967296:=by
 cases e:an[i]? with
 | none=>simp
 | some d=>exact h d (cX e)
theorem fu{n:Int}  (aP:0<=n:=by omega)(h:n<18446744073709551616:=by omega):wr .u64 n=n:=by
 rw[r7];simp[IntKind.wrap,IntKind.bits,IntKind.signed];omega
theorem cE{n:Int}  (aP:-9223372036854775808<=n:=by omega)(h:n<9223372036854775808:=by omega):wr .i64 n=n:=by
 rw[r7];simp[IntKind.wrap,IntKind.bits,IntKind.signed];split<;>omega
theorem k6{n:Int}:wr .u32 n=n%4294967296:=by
 rw[r7];simp[IntKind.wrap,IntKind.bits,IntKind.signed]
section
variable[bL]
theorem iG(a:Has X F.dx dx){v:Value}{an:List Nat}(c:eT H v an):Call X pm F.dx [v] H λr ab=>ab=H/\dh H r an:=by
 refine Call.has a rfl ?_
 rcases c with⟨rfl,rfl⟩ | ⟨b,x,s,rfl,b7,cH,cD⟩
 ·simp[dh,dK]
 ·simp[b7,cH,cD]
theorem sK(a:Has X F.hl hl){v:Value}{an:List Nat}(b:dh H v an)(i:Nat):
 Call X pm F.hl [v,.int .i64 (i:Int)] H λr ab=>ab=H/\r=.int .u64 ((dg an i:Nat):Int):=by
 refine Call.has a rfl ?_;obtain⟨c,⟨rfl,rfl⟩ | ⟨_,_,_,_,_,rfl,d,e,f,_⟩⟩:=b
 ·simp[dg]
 ·have b:=c.get i;by_cases a:i<an.length
  ·have c:=dh.cell f a;have f:wr .u64 ((an[i]:Nat):Int)=((an[i]:Nat):Int):=fu (h:=by simp[a]at b;omega);simp[a,d,e.row,c,f,dg]
  ·simp[a,dg]
end
theorem JD{an:List Nat}{k:Nat}(h:∀i,k<=i->an[i]?.getD 0=0):strip an=strip (an.take k):=by
 induction an generalizing k with
 | nil=>simp
 | cons d an ih=>
   cases k with
   | zero=>
     have a:strip an=strip (an.take 0):=ih λi _=>by simpa using h (i+1) (by omega)
     have b:d=0:=by simpa using h 0 (by omega)
     simp[strip,a,b]
   | succ k=>
     have a:strip an=strip (an.take k):=ih λi _=>by simpa using h (i+1) (by omega)
     simp only[List.take_succ_cons,strip,<-a]
theorem abu{an:List Nat}(h:an=[]∨an[an.length-1]?.getD 0≠0):strip an=an:=by
 induction an with
 | nil=>rfl
 | cons _ an ih=>
   cases an with
   | nil=>simp[strip]at h|-;exact h
   | cons _ _=>
     have:=ih (.inr (by simpa using h));simp only[strip]at this|-;simp only[this];simp
section
variable[bL]
def Uy(H:ae)(v:Value)(an:List Nat):Prop:=∃b x s,v=.pointer (some ⟨b,0,none⟩)/\H.get b=some x/\EN x [s]/\dh H s an
theorem HR(m:Has X F.ek ek)(a:ck pm H){v:Value}{an:List Nat}(b:dh H v an)(s:an.length<=1073741824):
 Call X pm F.ek [v] H λr ab=>bx pm H ab/\Uy ab r (strip an):=by
 refine Call.has m rfl ?_;have n:∃e c,v=.slice e an.length c:=by
  obtain⟨_,⟨rfl,rfl⟩ | ⟨_,_,c,_,_,rfl,_⟩⟩:=b
  ·exact⟨_,_,rfl⟩
  ·exact⟨_,_,rfl⟩
 obtain⟨e,c,rfl⟩:=n;simp;refine fh.of (λk:Nat=>[(3,.int .i64 (k:Int)),(0,.slice e an.length c)]) (λk ab=>ab=H/\k<=an.length/\∀i,k<=i->an[i]?.getD 0=0) id an.length (by simp) ⟨rfl,bc _,λi h=>by simp[h]⟩ ?_;rintro k ab ⟨rfl,d,f⟩;by_cases o:0<k
 ·obtain⟨_,⟨_,rfl⟩ | ⟨_,_,_,_,_,p,j,l,q,_⟩⟩:=id b
  ·simp at d;omega
  cases p;have c:wr .i64 ((k:Int)-1)=((k-1:Nat):Int):=by rw[cE];omega
  have e:=dh.cell q (show k-1<an.length by omega);simp[o,c,j,l.row,e,show k-1<an.length by omega];refine⟨λg=>.of (k-1) (by simp;omega) (by simp) ⟨rfl,by omega,λi h=>?_⟩,λg=>?_⟩
  ·by_cases r:i=k-1
   ·subst r;simp[show k-1<an.length by omega,g]
   ·exact f i (by omega)
  ·rw[l.ji j (by omega) (by omega) (by omega)];simp[a.make,a.pick];refine⟨(bx.refl a).new _,⟨_,_,_,rfl,cc,⟨rfl,rfl⟩,?_⟩⟩;have c:strip an=an.take k:=by
    rw[JD f,abu];right;simp[tj d];rw[jY (by omega)];simpa [show k-1<an.length by omega]using g
   rw[c];exact(dh.take b k d).u a ((bx.refl a).new _)
 ·obtain rfl:k=0:=by omega
  have c:strip an=[]:=by rw[JD f];rfl
  rw[c];obtain⟨_,⟨g,rfl⟩ | ⟨_,_,_,_,_,j,l,p,_,_⟩⟩:=id b
  ·cases g;simp[abe,a.make,a.pick];exact⟨(bx.refl a).new _,⟨_,_,_,rfl,cc,⟨rfl,rfl⟩,.nil⟩⟩
  ·cases j;simp;rw[p.ji l (by omega) (by omega) (by omega)];simp[a.make,a.pick];exact⟨(bx.refl a).new _,⟨_,_,_,rfl,cc,⟨rfl,rfl⟩,(dh.take b 0 d).u a ((bx.refl a).new _)⟩⟩
theorem mK(a:Has X F.ek ek)(b:ck pm H){v:Value}{an:List Nat}(c:dh H v an)(d:an.length<=1073741824):
 Call X pm F.ek [v] H λr ab=>bx pm H ab/\eT ab r (strip an):=(HR a b c d).mono λ_ _ h=>⟨h.1,.inr h.2⟩
def bt(an:List Nat):Nat->Nat
 | 0=>0
 | i+1=>bt an i+dg an i*4294967296^i
end
theorem dK.dg{an:List Nat}(h:dK an)(i:Nat):dg an i<4294967296:=h.get i
theorem Wd(d:Nat)(an:List Nat)(i:Nat):dg (d::an) (i+1)=dg an i:=by simp[dg]
theorem ab4(d:Nat)(an:List Nat)(i:Nat):bt (d::an) (i+1)=d+4294967296*bt an i:=by
 induction i with
 | zero=>simp[bt,dg]
 | succ i ih=>
   rw[bt,ih,Wd,bt,eB];grind
theorem iO{an:List Nat}{i:Nat} (h:an.length<=i:=by omega):bt an i=aN an:=by
 induction an generalizing i with
 | nil=>
   induction i with
   | zero=>rfl
   | succ i ih=>rw[bt,ih (by simp)];simp[dg,aN]
 | cons _ an ih=>
   cases i with
   | zero=>simp at h
   | succ i=>rw[ab4,ih (by simpa using h)];rfl
theorem l'{an:List Nat}(h:dK an)(i:Nat):bt an i<4294967296^i:=by
 induction i with
 | zero=>simp[bt]
 | succ i ih=>
   have:=h.dg i;rw[bt,eB];have:dg an i*4294967296^i<=4294967295*4294967296^i:=fV _ (by omega);omega
theorem oT{an:List Nat}(h:dK an):aN an<4294967296^an.length:=by rw[<-iO (h:=bc _)];exact l' h _
theorem mJ(an:List Nat):aN (strip an)=aN an:=by
 induction an with
 | nil=>rfl
 | cons _ an ih=>
   simp only[strip];split
   ·rename_i h;simp[aN,<-ih,h.1,h.2]
   ·simp[aN,ih]
theorem Qj{an:List Nat}(h:dK an):dK (strip an):=by
 induction an with
 | nil=>exact h
 | cons d an ih=>
   simp only[strip];split
   ·intro d a;cases a
   ·intro e a
    rcases hH.1 a with rfl | a
    ·exact h _ (.head _)
    ·exact ih (λd b=>h d (.tail _ b)) e a
theorem xK(an:List Nat):strip (strip an)=strip an:=by
 induction an with
 | nil=>rfl
 | cons _ an ih=>
   simp only[strip];split
   ·rfl
   ·rename_i h;simp only[strip,ih,aw h]
theorem JC(an:List Nat):(strip an).length<=an.length:=by
 induction an with
 | nil=>simp[strip]
 | cons _ an ih=>simp only[strip];split<;>simp;omega
section
variable[bL]
def c1(an:List Nat)(k:Nat):Nat:=aN (an.drop k)
end
theorem mA(an:List Nat)(k:Nat):c1 an k=dg an k+4294967296*c1 an (k+1):=by
 unfold c1 dg
 induction an generalizing k with
 | nil=>simp[aN]
 | cons _ an ih=>
   cases k with
   | zero=>simp[aN]
   | succ k=>simpa using ih k
theorem s0(an:List Nat):c1 an 0=aN an:=rfl
theorem uE{an:List Nat}{k:Nat} (h:an.length<=k:=by omega):c1 an k=0:=by simp[c1,List.drop_eq_nil_of_le h,aN]
theorem Pn{a b:List Nat}(aI:dK a)(c:dK b){k:Nat}(h:c1 a k<c1 b k):aN a<aN b:=by
 induction k with
 | zero=>exact h
 | succ k ih=>
   refine ih ?_;rw[mA a k,mA b k];have:=aI.dg k;have:=c.dg k;omega
section
variable[bL]
structure cr(H:ae)(v:Value)(n:Nat):Prop where
 ex:∃an,eT H v an/\strip an=an/\aN an=n
theorem eT.Q{v:Value}{an:List Nat}(h:eT H v an):dK an:=by
 rcases h with⟨_,rfl⟩ | ⟨b,x,s,_,_,_,h⟩
 ·intro _ a;cases a
 ·exact h.1
theorem cr.u{v:Value}{n:Nat}(h:cr H v n)(a:ck pm H)(av:bx pm H ab):cr ab v n:=⟨h.ex.imp λ_ h=>⟨h.1.u a av,h.2⟩⟩
end
theorem wT{an:List Nat}(h:strip an=an)(aP:an≠[]):4294967296^(an.length-1)<=aN an:=by
 induction an with
 | nil=>exact absurd rfl aP
 | cons d an ih=>
   have a:strip an=an/\¬(strip an=[]/\d=0):=by
    simp only[strip]at h;split at h
    ·cases h
    ·rename_i b;simp only[List.cons.injEq,true_and]at h;exact⟨h,b⟩
   cases an with
   | nil=>
     have:d≠0:=by intro e;exact a.2 ⟨rfl,e⟩
     simp[aN];omega
   | cons _ _=>
     have:=ih a.1 (by simp);simp only[iK,Nat.add_sub_cancel]at this|-;rw[aN,eB];omega
theorem s5{an:List Nat}(h:strip an=an){k:Nat}(av:aN an<4294967296^k):an.length<=k:=by
 by_cases a:an=[]
 ·simp[a]
 ·have:=wT h a;have a:4294967296^(an.length-1)<4294967296^k:=dk this av;have:=(rS (by omega:1<4294967296)).1 a;omega
section
variable[bL]
def Small(n:Nat):Prop:=n<4294967296^134217728
end
theorem Small.len{n:Nat}{an:List Nat}(h:Small n)(a:strip an=an)(b:aN an=n):an.length<=134217728:=by
 unfold Small at h;generalize 134217728=k at h|-;exact s5 a (b▸h)
section
variable[bL]
def gJ(a b:Nat):Int:=if a<b then -1 else if a=b then 0 else 1
theorem AV(c:dQ X){v w:Value}{a b:List Nat}(aI:eT H v a)(d:eT H w b)(p:a.length<=1073741824)(p:b.length<=1073741824):
 Call X pm F.lp [v,w] H λr ab=>ab=H/\r=.int .i64 (gJ (aN a) (aN b)):=by
 have e:=aI.Q;have f:=d.Q;refine Call.has c.lp rfl ?_;simp;refine al.of (iG c.dx aI) ?_;rintro _ _ ⟨rfl,g⟩;simp;refine al.of (iG c.dx d) ?_;rintro _ H ⟨rfl,i⟩;obtain⟨l,m,rfl⟩:=g.form;obtain⟨n,o,rfl⟩:=i.form;simp;refine fh.of (λk:Nat=>[(7,.int .i64 ((k:Int)-1)),(5,.slice l a.length m),(6,.slice n b.length o)]) (λk ab=>ab=H/\k<=max a.length b.length/\c1 a k=c1 b k) id (max a.length b.length) ?_ ⟨rfl,bc _,by rw[uE,uE]⟩ ?_
 ·simp;have:wr .i64 ((if a.length<b.length then(b.length:Int) else a.length)-1)=((max a.length b.length:Nat):Int)-1:=by
   rw[cE (aP:=by split<;>omega) (h:=by split<;>omega)];split<;>omega
  rw[this]
 rintro k ab ⟨rfl,_,j⟩
 cases k with
 | zero=>
   simp;rw[s0,s0]at j;simp[gJ,j]
 | succ k=>
   simp;refine al.of (sK c.hl g k) ?_;rintro _ _ ⟨rfl,rfl⟩;simp;refine al.of (sK c.hl i k) ?_;rintro _ _ ⟨rfl,rfl⟩;simp;have c:=mA a k;have c:=mA b k;refine⟨λ_=>⟨λ_=>?_,λ_=>?_⟩,λ_=>.of k (by simp) (by simp;rw[cE]) ⟨rfl,by omega,by omega⟩⟩
   ·have:=Pn e f (k:=k) (by omega);simp[gJ,this]
   ·have:=Pn f e (k:=k) (by omega);have c:¬aN a<aN b:=by omega
    have d:¬aN a=aN b:=by omega
    simp[gJ,c,d]
end
theorem xQ(n:Nat):times [.int .u32 0] n=cq (List.replicate n 0):=by
 induction n with
 | zero=>rfl
 | succ n ih=>simp only[times,ih,List.replicate_succ];rfl
@[simp] theorem qD(an:List Nat):(cq an).length=an.length:=by simp[cq]
theorem qE(an:List Nat)(i d:Nat):(cq an).set i (.int .u32 (d:Int))=cq (an.set i d):=by simp[cq,List.map_set]
theorem TB{an:List Nat}{i:Nat}(h:i<an.length):(cq an)[i]? = some (.int .u32 ((dg an i:Nat):Int)):=by simp[cq,dg,h]
section
variable[bL]
theorem sS{c:Nat}{an:List Nat}{n:Nat}(h:H.get c=some (.cells (cq an) (.n 1)))(aY:dK an)(a:an.length=n)(b:bL.s c):dh H (.slice (some ⟨c,0,none⟩) n n) an:=by
 subst a;exact⟨aY,.inr ⟨c,0,_,_,_,rfl,h,.inl rfl,by simp[cq,qn],by simp,bc _,b⟩⟩
end
theorem dK.set{an:List Nat}(h:dK an)(i:Nat){d:Nat}(a:d<4294967296):dK (an.set i d):=λe b=>(List.mem_or_eq_of_mem_set b).elim (h e) λq=>q▸a
theorem Qi(n:Nat):dK (List.replicate n 0):=λ_ a=>by rw[Da a];omega
theorem ab5{an:List Nat}{i j d:Nat}(h:i<=j):bt (an.set j d) i=bt an i:=by
 induction i with
 | zero=>rfl
 | succ i ih=>rw[bt,bt,ih (by omega)];simp[dg,show ¬j=i by omega]
theorem yW{an:List Nat}{i d:Nat}(h:i<an.length):dg (an.set i d) i=d:=by simp[dg,h]
theorem po{an:List Nat}{i d:Nat}(h:i<an.length):bt (an.set i d) (i+1)=bt an i+d*4294967296^i:=by
 rw[bt,ab5 (bc _),yW h]
section
variable[bL]
structure Out(pm:Perm)(H ab:ae)(c:Nat)(an:List Nat)(n:Nat):Prop where
 u:bx pm H ab
 get:ab.get c=some (.cells (cq an) (.n 1))
 len:an.length=n
 Q:dK an
 low:H.next<=c
theorem Out.wK(_:ck pm H)(h:bx pm H ab)(n:Nat):Out pm H (ab.new (.cells (times [.int .u32 0] n) (.n 1))) ab.next (List.replicate n 0) n:=
 ⟨h.new _,by rw[xQ];simp,by simp,Qi n,h.next⟩
theorem Out.put{c:Nat}{an:List Nat}{n:Nat}(h:Out pm H ab c an n)(i:Nat){d:Nat}(a:d<4294967296):Out pm H (ab.put c (.cells (cq (an.set i d)) (.n 1))) c (an.set i d) n:=
 ⟨h.u.put h.low h.get _,by simp,by simp[h.len],h.Q.set i a,h.low⟩
theorem TQ(e:dQ X)(d:ck pm H){v w:Value}{a b:List Nat}(aI:eT H v a)(m:eT H w b)(C:a.length<1073741824)(C:b.length<1073741824):
 Call X pm F.nP [v,w] H λr ab=>bx pm H ab/\∃an,eT ab r (strip an)/\dK an/\aN an=aN a+aN b:=by
 have o:=aI.Q;have p:=m.Q;refine Call.has e.nP rfl ?_;simp;refine al.of (iG e.dx aI) ?_;rintro _ _ ⟨rfl,q⟩;simp;refine al.of (iG e.dx m) ?_;rintro _ H ⟨rfl,t⟩;obtain⟨x,y,rfl⟩:=q.form;obtain⟨z,A,rfl⟩:=t.form;obtain⟨n,u⟩:∃n,n=max a.length b.length+1:=⟨_,rfl⟩;have B:wr .i64 ((if a.length<b.length then(b.length:Int) else a.length)+1)=(n:Int):=by
  rw[cE (aP:=by split<;>omega) (h:=by split<;>omega)];split<;>omega
 simp[B];rw[nO d];simp
 refine fh.of (λs:Nat×List Nat×Nat=>[(8,.int .u64 (s.2.2:Int)),(7,.slice (some ⟨H.next,0,none⟩) n n),(5,.slice x a.length y),(6,.slice z b.length A),(23,.int .i64 (s.1:Int)),(22,.int .i64 (n:Int))])
  (λs ab=>Out pm H ab H.next s.2.1 n/\s.2.2<=1/\s.1<=n/\bt s.2.1 s.1+s.2.2*4294967296^s.1=bt a s.1+bt b s.1) (λs=>n-s.1) (0,List.replicate n 0,0) (by simp) ⟨Out.wK d (bx.refl d) n,by simp,by simp,rfl⟩ ?_
 rintro⟨i,j,f⟩ ab ⟨c,m,x,k⟩;simp only at c m x k;by_cases l:i<n
 ·simp[l];refine al.of (sK e.hl (q.u d c.u) i) ?_;rintro _ _ ⟨rfl,rfl⟩;simp;refine al.of (sK e.hl (t.u d c.u) i) ?_;rintro _ ab ⟨rfl,rfl⟩;have m:=o.dg i;have m:=p.dg i;obtain⟨s,h⟩:∃s,s=f+(dg a i+dg b i):=⟨_,rfl⟩;obtain⟨g,_⟩:∃g,g=s%4294967296:=⟨_,rfl⟩;have m:wr .u64 ((f:Int)+wr .u64 ((dg a i:Int)+(dg b i:Int)))=(s:Int):=by
   rw[fu (n:=(dg a i:Int)+dg b i),fu];omega
  have n:wr .u32 (s:Int)=(g:Int):=by rw[k6];omega
  simp[m,n,l,c.get,c.len,d.may (bc _),qE];refine .of (i+1,j.set i g,s/4294967296) (by simp;omega) (by simp;rw[cE]) ⟨c.put i (by omega),by simp;omega,by simp;omega,?_⟩
  ·simp only;rw[po (by rw[c.len];exact l),bt,bt,eB];have:s=g+4294967296*(s/4294967296):=by omega
   have l:g*4294967296^i+s/4294967296*(4294967296^i*4294967296)=s*4294967296^i:=by
    generalize s/4294967296=q at*
    subst this;generalize 4294967296^i=a;grind
   have g:s*4294967296^i=f*4294967296^i+dg a i*4294967296^i+dg b i*4294967296^i:=by subst h;grind
   omega
 ·obtain rfl:i=n:=by omega
  simp;have g:bt a i=aN a:=iO;have g:bt b i=aN b:=iO;have g:bt j i=aN j:=iO (h:=by rw[c.len];exact bc _);have g:=l' o (max a.length b.length);have i:=l' p (max a.length b.length);rw[iO]at g i;have n:f=0:=by
   rcases zP f with h | h
   ·exact h
   ·obtain rfl:f=1:=by omega
    rw[u,eB]at k;rw[<-u]at k;omega
  subst n;refine al.of (mK e.ek c.u.ok (sS c.get c.Q c.len (d.new _ c.low)) (by rw[c.len];omega)) ?_;rintro r _ ⟨d,e⟩;simp;exact⟨c.u.trans d,j,e,c.Q,by omega⟩
theorem ML(e:dQ X)(d:ck pm H){v w:Value}{a b:List Nat}(aI:eT H v a)(k:eT H w b)(t:a.length<1073741824)(t:b.length<1073741824)(y:strip b=b):
 Call X pm F.nR [v,w] H λr ab=>bx pm H ab/\(aN a<aN b/\r=.tuple #[.pointer none,.bool false]∨aN b<=aN a/\∃p an,r=.tuple #[p,.bool true]/\eT ab p (strip an)/\dK an/\aN an=aN a-aN b):=by
 have o:=aI.Q;have z:=k.Q;refine Call.has e.nR rfl ?_;simp;refine al.of (AV e aI k (by omega) (by omega)) ?_;rintro _ H ⟨rfl,rfl⟩;simp;by_cases t:aN a<aN b
 ·simp[gJ,t];exact bx.refl d
 have A:(gJ (aN a) (aN b)<0)=False:=by
  unfold gJ;rw[aw t];split<;>simp
 simp[A];intro _;refine al.of (iG e.dx aI) ?_;rintro _ _ ⟨rfl,l⟩;simp;refine al.of (iG e.dx k) ?_;rintro _ H ⟨rfl,u⟩;obtain⟨B,C,rfl⟩:=l.form;obtain⟨D,E,rfl⟩:=u.form;obtain⟨n,x⟩:∃n,n=a.length:=⟨_,rfl⟩;simp;rw[<-x]at l|-;rw[nO d];simp
 refine fh.of (λs:Nat×List Nat×Int=>[(9,.int .i64 s.2.2),(8,.slice (some ⟨H.next,0,none⟩) n n),(6,.slice B n C),(7,.slice D b.length E),(24,.int .i64 (s.1:Int)),(23,.int .i64 (n:Int))])
  (λs ab=>Out pm H ab H.next s.2.1 n/\-1<=s.2.2/\s.2.2<=0/\s.1<=n/\(bt s.2.1 s.1:Int)+s.2.2*((4294967296^s.1:Nat):Int)=bt a s.1-bt b s.1) (λs=>n-s.1) (0,List.replicate n 0,0) (by simp[x]) ⟨Out.wK d (bx.refl d) n,by simp,by simp,by simp,rfl⟩ ?_
 rintro⟨i,j,f⟩ ab ⟨c,k,t,x,A⟩;simp only at c k t x A;by_cases m:i<n
 ·simp[m];refine al.of (sK e.hl (l.u d c.u) i) ?_;rintro _ _ ⟨rfl,rfl⟩;have h:=o.dg i;have h:=z.dg i;have h:wr .i64 ((dg a i:Nat):Int)=((dg a i:Nat):Int):=cE;have r:wr .i64 ((dg b i:Nat):Int)=((dg b i:Nat):Int):=cE;simp[h];refine al.of (sK e.hl (u.u d c.u) i) ?_;rintro _ ab ⟨rfl,rfl⟩;obtain⟨s,v⟩:∃s:Int,s=f+((dg a i:Int)-dg b i):=⟨_,rfl⟩;obtain⟨g,_⟩:∃g:Nat,(g:Int)=s%4294967296:=⟨(s%4294967296).toNat,by omega⟩;obtain⟨q,w⟩:∃q:Int,q=s/4294967296:=⟨_,rfl⟩;have h:wr .i64 (f+wr .i64 ((dg a i:Int)-(dg b i:Int)))=s:=by
   rw[cE (n:=(dg a i:Int)-dg b i),cE];omega
  have k:wr .u32 s=(g:Int):=by rw[k6];omega
  have l:s.fdiv 4294967296=q:=by rw[Int.fdiv_eq_ediv_of_nonneg _ (by omega)];exact w.symm
  simp[r,h,k,l,m,c.get,c.len,d.may (bc _),qE];refine .of (i+1,j.set i g,q) (by simp;omega) (by simp;rw[cE]) ⟨c.put i (by omega),by simp;omega,by simp;omega,by simp;omega,?_⟩;show((bt (j.set i g) (i+1):Nat):Int)+q*((4294967296^(i+1):Nat):Int)=(bt a (i+1):Int)-(bt b (i+1):Int);rw[po (by rw[c.len];exact m),bt,bt,eB];have:s=g+4294967296*q:=by omega
  generalize 4294967296^i=p at*
  simp only[Int.natCast_add,zW];have h:s*p=f*p+dg a i*p-dg b i*p:=by rw[v];grind
  have h:s*p=g*p+q*(p*4294967296):=by rw[this];grind
  simp only[Int.cast_ofNat_Int];omega
 ·obtain rfl:i=n:=by omega
  simp;have k:b.length<=a.length:=s5 y (dk (by omega) (oT o));have k:bt a i=aN a:=iO;have k:bt b i=aN b:=iO;have k:bt j i=aN j:=iO (h:=by rw[c.len];exact bc _);have k:=l' c.Q i;have g:f=0:=by
   rcases(by omega:f<0∨f≥0) with h | h
   ·obtain rfl:f=-1:=by omega
    omega
   ·omega
  subst g;refine al.of (mK e.ek c.u.ok (sS c.get c.Q c.len (d.new _ c.low)) (by rw[c.len];omega)) ?_;rintro r _ ⟨d,e⟩;simp;exact⟨c.u.trans d,by omega,j,e,c.Q,by omega⟩
theorem dh.at{e:Option Addr}{n cap i:Nat}{an:List Nat}(h:dh H (.slice e n cap) an)(f:n=an.length)(b:i<n):
 ∃c off y a,e=some ⟨c,off,none⟩/\H.get c=some y/\rowOf y=some a/\a[off+i]? = some (.int .u32 ((dg an i:Nat):Int)):=by
 subst f;obtain⟨_,⟨d,rfl⟩ | ⟨c,off,_,y,a,g,d,j,k,_⟩⟩:=h
 ·cases d;simp at b
 ·cases g;refine⟨c,off,y,a,rfl,d,j.row,?_⟩;rw[dh.cell k b];simp[dg,b]
theorem dh.len{a:Option Addr}{n cap:Nat}{an:List Nat}(h:dh H (.slice a n cap) an):n=an.length:=by
 obtain⟨_,⟨b,rfl⟩ | ⟨_,_,_,_,_,c,_⟩⟩:=h
 ·cases b;rfl
 ·cases c;rfl
theorem UE(o:dQ X)(f:ck pm H){v w:Value}{a b:List Nat}(aI:eT H v a)(y:eT H w b)(M:a.length<536870912)(M:b.length<536870912):
 Call X pm F.kg [v,w] H λr ab=>bx pm H ab/\∃an,eT ab r (strip an)/\dK an/\aN an=aN a*aN b:=by
 have G:=aI.Q;have I:=y.Q;refine Call.has o.kg rfl ?_;simp;refine al.of (iG o.dx aI) ?_;rintro _ _ ⟨rfl,p⟩;simp;refine al.of (iG o.dx y) ?_;rintro _ H ⟨rfl,q⟩;obtain⟨J,z,rfl⟩:=p.form;obtain⟨t,u,rfl⟩:=q.form;obtain⟨n,A⟩:∃n,n=a.length:=⟨_,rfl⟩;obtain⟨m,B⟩:∃m,m=b.length:=⟨_,rfl⟩;rw[<-A]at p|-;rw[<-B]at q|-;obtain⟨N,_⟩:∃N,N=n+m:=⟨_,rfl⟩;have y:wr .i64 ((n:Int)+m)=(N:Int):=by rw[cE];omega
 simp[y];rw[nO f];simp
 refine fh.of (λs:Nat×List Nat=>[(7,.slice (some ⟨H.next,0,none⟩) N N),(6,.slice t m u),(23,.slice J n z),(25,.int .i64 (s.1:Int)),(24,.int .i64 (n:Int))])
  (λs ab=>Out pm H ab H.next s.2 N/\s.1<=n/\bt s.2 (s.1+m)=bt a s.1*aN b) (λs=>n-s.1) (0,List.replicate N 0) (by simp) ⟨Out.wK f (bx.refl f) _,by simp,?_⟩ ?_
 ·simp[bt];have:∀k,bt (List.replicate N 0) k=0:=by
   intro k
   induction k with
   | zero=>rfl
   | succ k ih=>rw[bt,ih];simp[dg,xd];split<;>simp
  exact this m
 rintro⟨i,g⟩ ab ⟨c,y,x⟩;simp only at c y x;by_cases C:i<n
 ·obtain⟨K,L,_,_,rfl,y,J,M⟩:=(p.u f c.u).at A C;have p:=G.dg i;simp[C,y,J,M]
  refine fh.of (λs:Nat×List Nat×Nat=>[(10,.int .u64 (s.2.2:Int)),(9,.int .u32 (dg a i:Int)),(8,.int .i64 (i:Int)),(7,.slice (some ⟨H.next,0,none⟩) N N),(6,.slice t m u),(30,.slice t m u),(32,.int .i64 (s.1:Int)),(31,.int .i64 (m:Int)),(23,.slice (some ⟨K,L,none⟩) n z),(25,.int .i64 (i:Int)),(24,.int .i64 (n:Int))])
   (λs ab=>Out pm H ab H.next s.2.1 N/\s.1<=m/\s.2.2<4294967296/\bt s.2.1 (i+s.1)+s.2.2*4294967296^(i+s.1)=bt g (i+s.1)+dg a i*(4294967296^i*bt b s.1)/\∀j,i+s.1<=j->dg s.2.1 j=dg g j) (λs=>m-s.1) (0,g,0) (by simp) ⟨c,by simp,by simp,by simp[bt],by simp⟩ ?_
  rintro⟨k,d,h⟩ ab ⟨c,p,t,D,r⟩;simp only at c p t D r;by_cases E:k<m
  ·obtain⟨_,_,_,_,rfl,H,O,P⟩:=(q.u f c.u).at B E;have p:=I.dg k;have p:=c.Q.dg (i+k);have Q:dg a i*dg b k<=4294967295*4294967295:=gk (by omega) (by omega);obtain⟨j,w⟩:∃j,j=dg a i*dg b k:=⟨_,rfl⟩;rw[<-w]at Q;obtain⟨s,R⟩:∃s,s=h+(j+dg d (i+k)):=⟨_,rfl⟩;obtain⟨e,_⟩:∃e,e=s%4294967296:=⟨_,rfl⟩;have p:wr .u64 ((dg a i:Nat):Int)=((dg a i:Nat):Int):=fu;have q:wr .u64 ((dg b k:Nat):Int)=((dg b k:Nat):Int):=fu;have t:wr .u64 ((dg d (i+k):Nat):Int)=((dg d (i+k):Nat):Int):=fu;have u:wr .u64 ((dg a i:Int)*(dg b k:Int))=(j:Int):=by
    have l:(dg a i:Int)*(dg b k:Int)=(j:Int):=by rw[w];simp
    rw[l];exact fu
   have y:wr .u64 ((h:Int)+wr .u64 ((j:Int)+(dg d (i+k):Int)))=(s:Int):=by
    rw[fu (n:=(j:Int)+(dg d (i+k):Int)),fu];omega
   have j:wr .u32 (s:Int)=(e:Int):=by rw[k6];omega
   have z:wr .i64 ((i:Int)+(k:Int))=((i+k:Nat):Int):=by rw[cE];omega
   have A:=TB (an:=d) (i:=i+k) (by rw[c.len];omega);have B:=setCells_one (cs:=cq d) (i:=i+k) (v:=.int .u32 (e:Int)) (by rw[qD,c.len];omega);simp[E,H,O,P,p,q,u,y,j,z,c.get,A,t,show i+k<N by omega,B,f.may (bc _),qE];refine .of (k+1,d.set (i+k) e,s/4294967296) (by simp;omega) (by simp;rw[cE]) ⟨c.put (i+k) (by omega),by simp;omega,by simp;omega,?_,λl F=>?_⟩
   ·show bt (d.set (i+k) e) (i+k+1)+s/4294967296*4294967296^(i+k+1)=bt g (i+k+1)+dg a i*(4294967296^i*bt b (k+1));rw[po (by rw[c.len];omega),bt,bt,<-r (i+k) (bc _),eB];have v:4294967296^i*(dg b k*4294967296^k)=dg b k*4294967296^(i+k):=by rw[hG];generalize 4294967296^i=n;generalize 4294967296^k=S;grind
    have T:s=e+4294967296*(s/4294967296):=by omega
    have j:e*4294967296^(i+k)+s/4294967296*(4294967296^(i+k)*4294967296)=s*4294967296^(i+k):=by
     generalize s/4294967296=S at*
     subst T;generalize 4294967296^(i+k)=n;grind
    have j:s*4294967296^(i+k)=h*4294967296^(i+k)+dg a i*(dg b k*4294967296^(i+k))+dg d (i+k)*4294967296^(i+k):=by
     subst R w;generalize 4294967296^(i+k)=n;grind
    rw[uh (4294967296^i),v,uh];omega
   ·show dg (d.set (i+k) e) l=dg g l;have F:i+(k+1)<=l:=F;rw[<-r l (by omega)];simp[dg,show ¬i+k=l by omega]
  ·obtain rfl:k=m:=by omega
   have e:wr .u32 (h:Int)=(h:Int):=by rw[k6];omega
   have j:wr .i64 ((i:Int)+(k:Int))=((i+k:Nat):Int):=by rw[cE];omega
   simp[e,j,show i+k<N by omega,c.get,c.len,f.may (bc _),qE];refine .of (i+1,d.set (i+k) h) (by simp;omega) (by simp;rw[cE]) ⟨c.put (i+k) (by omega),by simp;omega,?_⟩;show bt (d.set (i+k) h) (i+1+k)=bt a (i+1)*aN b;rw[show i+1+k=i+k+1 by omega,po (by rw[c.len];omega),D,x,bt,iO (an:=b)];generalize 4294967296^i=p;grind
 ·obtain rfl:i=n:=by omega
  simp;have b:bt a i=aN a:=iO;have d:bt g (i+m)=aN g:=iO (h:=by rw[c.len];omega);refine al.of (mK o.ek c.u.ok (sS c.get c.Q c.len (f.new _ c.low)) (by rw[c.len];omega)) ?_;rintro r _ ⟨e,f⟩;simp;exact⟨c.u.trans e,g,f,c.Q,by rw[<-d,x,b]⟩
theorem A9(d:dQ X)(a:ck pm H){x:Nat}(i:x<18446744073709551616):
 Call X pm F.hk [.int .u64 (x:Int)] H λr ab=>bx pm H ab/\eT ab r (strip [x%4294967296,x/4294967296]):=by
 refine Call.has d.hk rfl ?_;have e:wr .u32 (x:Int)=((x%4294967296:Nat):Int):=by rw[k6];omega
 have f:wr .u32 ((x/4294967296:Nat):Int)=((x/4294967296:Nat):Int):=by rw[k6];omega
 obtain⟨c,h⟩:∃c,c=x%4294967296:=⟨_,rfl⟩;obtain⟨b,g⟩:∃b,b=x/4294967296:=⟨_,rfl⟩;rw[<-h]at e|-;rw[<-g]at f|-;have h:((x:Int)).fdiv 4294967296=(b:Int):=by rw[g];exact Ca x
 simp[e,f,h,a.make,a.pick];have e:dK [c,b]:=by intro _ f;simp at f;omega
 refine al.of (mK d.ek ((bx.refl a).new (.cells (cq [c,b]) (.n 1))).ok (sS (an:=[c,b]) cc e rfl (a.new _ (bc _))) (by simp)) ?_;rintro r _ ⟨b,c⟩;simp;exact⟨((bx.refl a).new _).trans b,c⟩
end
theorem CG(x:Nat):aN (strip [x%4294967296,x/4294967296])=x:=by
 rw[mJ];simp[aN];omega
section
variable[bL]
theorem yg(f:dQ X){v:Value}{a:List Nat}(aI:eT H v a) (w:a.length<=1073741824:=by omega):
 Call X pm F.nS [v] H λr ab=>ab=H/\r=if a.length<=2 then .tuple #[.int .u64 ((aN a:Nat):Int),.bool true] else .tuple #[.int .u64 0,.bool false]:=by
 have g:=aI.Q;refine Call.has f.nS rfl ?_;simp;refine al.of (iG f.dx aI) ?_;rintro _ H ⟨rfl,d⟩;obtain⟨p,q,rfl⟩:=d.form;obtain⟨n,h⟩:∃n,n=a.length:=⟨_,rfl⟩;rw[<-h]at d|-;by_cases j:n<=2
 ·simp[show ¬2<n by omega,j];refine fh.of (λi:Nat=>[(4,.int .u64 ((bt a i:Nat):Int)),(13,.slice p n q),(14,.int .i64 (n:Int)),(15,.int .i64 (i:Int))]) (λi ab=>ab=H/\i<=n) (λi=>n-i) 0 (by simp[bt]) ⟨rfl,by omega⟩ ?_;rintro i H ⟨rfl,_⟩;by_cases e:i<n
  ·obtain⟨_,r,_,s,rfl,k,l,c⟩:=d.at h e;have d:=g.dg i;have m:=l' g i;have o:wr .u64 ((dg a i:Nat):Int)=((dg a i:Nat):Int):=fu;rcases(by omega:i=0∨i=1) with rfl | rfl
   ·have f:wr .i64 0=0:=rfl;have g:(0:Nat) ||| dg a 0=dg a 0:=by simp
    have d:=wY (a:=0) (b:=dg a 0);rw[g]at d;have d:ha .or .u64 0 ((dg a 0:Nat):Int)=some (.int .u64 ((dg a 0:Nat):Int)):=d;have c:s[r]? = some (.int .u32 ((dg a 0:Nat):Int)):=c;simp[e,k,l,c,o,f,bt,d];refine .of 1 (by show n-1<n-0;omega) ?_ ⟨rfl,by omega⟩;simp[bt];rfl
   ·have u:wr .i64 32=32:=rfl;obtain⟨t,v⟩:∃t,t=dg a 1*4294967296:=⟨_,rfl⟩;have f:wr .u64 (((dg a 1:Nat):Int)*4294967296)=(t:Int):=by rw[fu];omega
    have d:=wY (aI:=by simp at m;omega) (a:=bt a 1) (b:=t);have g:bt a 1 ||| t=bt a 2:=by
     rw[Nat.or_comm,v];have:=wX (a:=dg a 1) (i:=32) (b:=bt a 1) (by simpa using m);simp only[Nat.reducePow]at this;rw[this,bt.eq_2 a 1];simp;omega
    rw[g]at d;simp[e,k,l,c,o,u,f,d];refine .of 2 (by show n-2<n-1;omega) ?_ ⟨rfl,by omega⟩;simp;rfl
  ·obtain rfl:i=n:=by omega
   simp[iO (an:=a) (i:=i)]
 ·simp[show 2<n by omega,j]
def aj(x:Nat):Nat:=if x=0 then 0 else x.log2+1
end
theorem Ff(x:Nat):x<2^aj x:=by
 unfold aj;split
 ·subst x;simp
 ·exact Nat.lt_log2_self
theorem Bj{x:Nat}(h:x≠0):2^(aj x-1)<=x:=by
 unfold aj;rw[aw h];exact Nat.log2_self_le h
theorem Fe{x n:Nat}(b7:2^n<=x)(cH:x<2^(n+1)):aj x=n+1:=by
 have a:x≠0:=by have:=jF n;omega
 have b:=Ff x;have c:=Bj a;have a:=(rS (by omega:1<2)).1 (dk b7 b);have d:=(rS (by omega:1<2)).1 (dk c cH);omega
section
variable[bL]
def wE(k:Nat):Nat:=2^k/2
def oZ(x n:Nat):Nat:=x/2^n
end
theorem E9(s:dQ X){x:Nat}(u:x<18446744073709551616):Call X pm F.ow [.int .u64 (x:Int)] H λr ab=>ab=H/\r=.int .i64 ((aj x:Nat):Int):=by
 refine Call.has s.ow rfl ?_;simp
 refine fh.of (λs:Nat×Nat=>[(0,.int .u64 ((oZ x s.2:Nat):Int)),(3,.int .i64 (s.2:Int)),(4,.int .i64 ((wE s.1:Nat):Int))])
  (λs ab=>ab=H/\s.1<=6/\s.2+2^s.1<=64/\oZ x s.2<2^(2^s.1)/\(s.2=0∨oZ x s.2≠0)) (λs=>s.1) (6,0) (by simp[wE,oZ]) ⟨rfl,by simp,by simp,by simpa [oZ]using u,.inl rfl⟩ ?_
 rintro⟨k,n⟩ H ⟨rfl,s,m,c,d⟩;simp only at s m c d
 cases k with
 | zero=>
   have b:wE 0=0:=rfl;rw[b];obtain⟨q,a⟩:∃q,q=oZ x n:=⟨_,rfl⟩;rw[<-a]at c d|-;have b:wr .i64 (q:Int)=(q:Int):=cE (h:=by simp at c;omega);unfold oZ at a;have e:wr .i64 ((n:Int)+(q:Int))=((n+q:Nat):Int):=by rw[cE (h:=by simp at c;omega)];simp
   simp[b,e];have f:q=0∨q=1:=by simp at c;omega
   rcases f with rfl | rfl
   ·have:n=0:=by rcases d with h | h;exact h;exact absurd rfl h
    subst this;simp at a;subst a;simp[aj]
   ·have b:2^n<=x:=by
     have:=Nat.div_mul_le_self x (2^n);rw[<-a]at this;omega
    have e:x<2^(n+1):=by
     have:=Nat.lt_mul_div_succ x (jF n);rw[<-a]at this;rw[eB];omega
    rw[Fe b e];simp
 | succ k=>
   have s:wE (k+1)=2^k:=by simp[wE,eB]
   have h:0<2^k:=jF k;have v:2^k<=32:=hX (n:=2) (i:=k) (j:=5) (by omega) (by omega);rw[s];have s:(0:Int)<((2^k:Nat):Int):=by omega
   obtain⟨a,b⟩:∃s,s=2^k:=⟨_,rfl⟩;have s:n+a*2<=64:=by rw[b];simpa [eB]using m
   rw[<-b]at h v|-;have o:wE k=a/2:=by rw[b];rfl
   obtain⟨q,e⟩:∃q,q=oZ x n:=⟨_,rfl⟩;rw[<-e]at c d|-;have r:min a 64=a:=by omega
   have l:((q:Int)).fdiv (2^a)=((q/2^a:Nat):Int):=by
    have:=GK q (2^a);simpa using this
   obtain⟨p,f⟩:∃p,p=q/2^a:=⟨_,rfl⟩;rw[<-f]at l;have w:wr .i64 ((n:Int)+(a:Int))=((n+a:Nat):Int):=by rw[cE];simp
   have t:wr .i64 ((a:Int)/2)=((a/2:Nat):Int):=by rw[cE];omega
   by_cases g:p=0
   ·simp[h,r,l,g,t];refine .of (k,n) (by simp) (by simp[<-e,o]) ⟨rfl,by simp;omega,?_,?_,by simpa [<-e]using d⟩
    ·simp;rw[<-b];omega
    ·simp only;rw[<-e,<-b];rw[g]at f;exact(Nat.div_eq_zero_iff_lt (jF _)).1 f.symm
   ·simp[h,r,l,g,w,t];have i:p=oZ x (n+a):=by rw[f,e,oZ,oZ,zL,hG]
    refine .of (k,n+a) (by simp) (by simp[<-i,o]) ⟨rfl,by simp;omega,?_,?_,.inr (by simp only;rw[<-i];exact g)⟩
    ·simp;rw[<-b];omega
    ·simp only;rw[<-i,f,<-b];rw[Nat.div_lt_iff_lt_mul (jF _),<-hG];rw[show a+a=2^(k+1) by rw[eB,<-b];omega];exact c
theorem ab8{x:Nat}(h:x≠0):∃z q,x=2^z*(2*q+1):=by
 induction x using Nat.strongRecOn with
 | ind x ih=>
   by_cases a:x%2=1
   ·exact⟨0,x/2,by simp;omega⟩
   ·obtain⟨z,q,e⟩:=ih (x/2) (by omega) (by omega);exact⟨z+1,q,by rw[eB];generalize 2^z=p at *;have:x=2*(x/2):=(by omega);rw[this,e];grind⟩
theorem YH{x z q:Nat}(a:x=2^z*(2*q+1))(b:z<64)(b:x<18446744073709551616):x &&& (18446744073709551616-x)=2^z:=by
 have c:18446744073709551616=2^z*(2*2^(63-z)):=by
  rw[show 2*2^(63-z)=2^(64-z) by rw[<-Nat.pow_succ'];congr 1;omega,<-hG,show z+(64-z)=64 by omega]
 have f:=jF z;have d:q<2^(63-z):=by
  rw[a,c]at b;have:=Nat.lt_of_mul_lt_mul_left b;omega
 have b:18446744073709551616-x=2^z*(2*(2^(63-z)-(q+1))+1):=by
  rw[a,c,<-Nat.mul_sub];congr 1;omega
 rw[b,a];rw[eZ (2^z),eZ (2^z),<-Nat.shiftLeft_eq,<-Nat.shiftLeft_eq,<-Nat.shiftLeft_and_distrib];have e:(2*q+1) &&& (2*(2^(63-z)-(q+1))+1)=1:=by
  apply Nat.eq_of_testBit_eq;intro i;rw[Nat.testBit_and]
  cases i with
  | zero=>simp[Nat.testBit_zero]
  | succ i=>
    rw[Nat.testBit_succ,Nat.testBit_succ,Nat.testBit_succ];rw[show(2*q+1)/2=q by omega,show(2*(2^(63-z)-(q+1))+1)/2=2^(63-z)-(q+1) by omega];rw[Nat.testBit_two_pow_sub_succ d];simp;intro h _;simpa using h
 rw[e,Nat.shiftLeft_eq,Nat.one_mul]
theorem Vm(z:Nat):aj (2^z)=z+1:=Fe (bc _) (by rw[eB];have:=jF z;omega)
theorem U6(g:dQ X){x z q:Nat}(c:x=2^z*(2*q+1))(d:x<18446744073709551616):Call X pm F.q0 [.int .u64 (x:Int)] H λr ab=>ab=H/\r=.int .i64 (z:Int):=by
 have k:=jF z;have l:x≠0:=by
  rw[c];have:0<2^z*(2*q+1):=tm k (by omega);omega
 have h:z<64:=by
  have:2^z<=x:=by rw[c];exact xp _ (by omega)
  exact(rS (by omega:1<2)).1 (dk this (by simpa using d))
 have i:=YH c h d;refine Call.has g.q0 rfl ?_;have j:wr .u64 (-(x:Int))=((18446744073709551616-x:Nat):Int):=by
  rw[r7];simp[IntKind.wrap,IntKind.bits,IntKind.signed];omega
 obtain⟨n,m⟩:∃n,n=18446744073709551616-x:=⟨_,rfl⟩;rw[<-m]at j i;have e:=UY (a:=x) (b:=n) d (by omega);rw[i]at e;obtain⟨p,f⟩:∃p,p=2^z:=⟨_,rfl⟩;rw[<-f]at e;simp[l,j,e];have o:aj p=z+1:=by rw[f];exact Vm z
 refine al.of (E9 g (x:=p) ?_) ?_
 ·rw[f];have:=(rS (by omega:1<2)).2 h;simpa using this
 rintro _ H ⟨rfl,rfl⟩;rw[o];have c:wr .i64 (z:Int)=(z:Int):=cE;simp[c]
theorem CH(a b:List Nat):aN (a++b)=aN a+4294967296^a.length*aN b:=by
 induction a with
 | nil=>simp[aN]
 | cons _ a ih=>simp only[mW,aN,ih,iK,eB];generalize 4294967296^a.length=p;grind
section
variable[bL]
theorem TS(b:dQ X){v:Value}{a:List Nat}(aI:eT H v a)(g:strip a=a)(h:a.length<=1073741824):Call X pm F.rz [v] H λr ab=>ab=H/\r=.int .i64 ((aj (aN a):Nat):Int):=by
 have f:=aI.Q;refine Call.has b.rz rfl ?_;simp;refine al.of (iG b.dx aI) ?_;rintro _ H ⟨rfl,c⟩;obtain⟨_,_,rfl⟩:=c.form;obtain⟨n,d⟩:∃n,n=a.length:=⟨_,rfl⟩;rw[<-d]at c|-
 cases n with
 | zero=>
   obtain rfl:a=[]:=List.length_eq_zero_iff.1 d.symm;simp[aN,aj]
 | succ n=>
   obtain⟨_,_,_,_,rfl,h,j,k⟩:=c.at d (i:=n) (by omega);have c:=f.dg n;have c:wr .u64 ((dg a n:Nat):Int)=((dg a n:Nat):Int):=fu;have d:wr .i64 (n:Int)=(n:Int):=cE;have l:wr .i64 (32*(n:Int))=((32*n:Nat):Int):=by rw[cE];simp
   have m:¬((n:Int)+1=0):=by omega
   simp[m,d,l,h,j,k,c];refine al.of (E9 b (x:=dg a n) (by omega)) ?_;rintro _ H ⟨rfl,rfl⟩;have e:dg a n≠0:=by
    intro o;have p:strip a=strip (a.take n):=JD λi _=>by
     by_cases q:i=n
     ·subst q;exact o
     ·simp[show a.length<=i by omega]
    have b:=JC (a.take n);rw[<-p,g]at b;simp at b;omega
   have g:aj (aN a)=32*n+aj (dg a n):=by
    have b:aN a=bt a n+dg a n*4294967296^n:=by rw[<-iO (an:=a) (i:=n+1),bt]
    have c:=l' f n;have d:(4294967296:Nat)^n=2^(32*n):=by rw[qm]
    rw[d]at b c;have d:=Ff (dg a n);have c:=Bj e;have f:aj (dg a n)≠0:=by unfold aj;rw[aw e];omega
    obtain⟨k,f⟩:∃k,aj (dg a n)=k+1:=⟨aj (dg a n)-1,by omega⟩;rw[f]at d c|-;rw[show 32*n+(k+1)=(32*n+k)+1 by omega];simp only[Nat.add_sub_cancel]at c;refine Fe ?_ ?_
    ·rw[hG,b,eZ];have:=fV (2^(32*n)) c;omega
    ·rw[show 32*n+k+1=(k+1)+32*n by omega,hG,b];have:=fV (2^(32*n)) (Nat.succ_le_of_lt d);rw[j0]at this;omega
   rw[g];have b:aj (dg a n)<=64:=by
    have:=Bj e;have b:(2:Nat)^(aj (dg a n)-1)<2^32:=by omega
    have:=(rS (by omega:1<2)).1 b;omega
   have b:wr .i64 (32*(n:Int)+((aj (dg a n):Nat):Int))=((32*n+aj (dg a n):Nat):Int):=by rw[cE];simp
   simp[b]
end
theorem JL{a:List Nat}{k:Nat}(h:∀i,i<k->dg a i=0):bt a k=0:=by
 induction k with
 | zero=>rfl
 | succ k ih=>rw[bt,ih λi _=>h i (by omega),h k (by omega)];simp
theorem wU(a:List Nat)(k:Nat):aN a=bt a k+4294967296^k*c1 a k:=by
 induction k with
 | zero=>simp[bt,s0]
 | succ k ih=>
   rw[ih,bt,mA a k,eB];generalize 4294967296^k=p;grind
section
variable[bL]
theorem yf(c:dQ X){v:Value}{a:List Nat}(aI:eT H v a) (x:a.length<=1073741824:=by omega):
 Call X pm F.mE [v] H λr ab=>ab=H/\∃z:Nat,r=.int .i64 (z:Int)/\z<=34359738368/\(aN a=0/\z=0∨∃q,aN a=2^z*(2*q+1)):=by
 have o:=aI.Q;refine Call.has c.mE rfl ?_;simp;refine al.of (iG c.dx aI) ?_;rintro _ H ⟨rfl,d⟩;obtain⟨p,s,rfl⟩:=d.form;obtain⟨n,h⟩:∃n,n=a.length:=⟨_,rfl⟩;rw[<-h]at d|-;simp;refine fh.of (λi:Nat=>[(6,.slice p n s),(7,.int .i64 (n:Int)),(8,.int .i64 (i:Int))]) (λi ab=>ab=H/\i<=n/\∀j,j<i->dg a j=0) (λi=>n-i) 0 (by simp) ⟨rfl,by omega,λj t=>by omega⟩ ?_;rintro i H ⟨rfl,_,e⟩;by_cases f:i<n
 ·obtain⟨_,_,_,_,rfl,k,l,m⟩:=d.at h f;have u:=o.dg i;have v:wr .u64 ((dg a i:Nat):Int)=((dg a i:Nat):Int):=fu;have d:wr .i64 ((i:Int)+1)=((i+1:Nat):Int):=by rw[cE];simp
  have w:wr .i64 (32*(i:Int))=((32*i:Nat):Int):=by rw[cE];simp
  by_cases b:dg a i=0
  ·simp[f,k,l,m,b,d];exact .of (i+1) (by show n-(i+1)<n-i;omega) (by simp) ⟨rfl,by omega,λj t=>by rcases(by omega:j<i∨j=i) with a | rfl;exact e j a;exact b⟩
  ·obtain⟨z,q,g⟩:=ab8 b;simp[f,k,l,m,b,v,w];refine al.of (U6 c g (by omega)) ?_;rintro _ H ⟨rfl,rfl⟩;have b:z<32:=by
    have:2^z<=dg a i:=by rw[g];exact xp _ (by omega)
    exact(rS (by omega:1<2)).1 (dk this (by simpa using u))
   have b:wr .i64 (32*(i:Int)+(z:Int))=((32*i+z:Nat):Int):=by rw[cE];simp
   simp[b];refine⟨32*i+z,by simp,by omega,.inr ⟨q+2^(31-z)*c1 a (i+1),?_⟩⟩;rw[wU a i,JL e,mA a i,g,hG,show(4294967296:Nat)^i=2^(32*i) by rw[qm]];have:(4294967296:Nat)=2^z*(2*2^(31-z)):=by
    rw[show 2*2^(31-z)=2^(32-z) by rw[<-Nat.pow_succ'];congr 1;omega,<-hG,show z+(32-z)=32 by omega]
   rw[this];generalize 2^(32*i)=p;generalize 2^z=r;generalize 2^(31-z)=s;generalize c1 a (i+1)=t;grind
 ·obtain rfl:i=n:=by omega
  simp;exact⟨0,by simp,by omega,.inl ⟨by rw[<-iO (an:=a) (i:=i),JL e],rfl⟩⟩
theorem D8(u:dQ X)(m:ck pm H){v:Value}{a:List Nat}(aI:eT H v a)(la:a.length<536870912){k:Nat}(av:k<8589934592):
 Call X pm F.nT [v,.int .i64 (k:Int)] H λr ab=>bx pm H ab/\∃an,eT ab r (strip an)/\dK an/\aN an=aN a*2^k/\an.length=a.length+k/32+1:=by
 have G:=aI.Q;refine Call.has u.nT rfl ?_;simp;refine al.of (iG u.dx aI) ?_;rintro _ H ⟨rfl,w⟩;obtain⟨I,J,rfl⟩:=w.form;obtain⟨n,x⟩:∃n,n=a.length:=⟨_,rfl⟩;rw[<-x]at w|-;obtain⟨q,K⟩:∃q,q=k/32:=⟨_,rfl⟩;obtain⟨s,L⟩:∃s,s=k%32:=⟨_,rfl⟩;obtain⟨N,_⟩:∃N,N=n+q+1:=⟨_,rfl⟩;have y:((k:Int)).tdiv 32=(q:Int):=by rw[K];rfl
 have M:((k:Int)).tmod 32=(s:Int):=by rw[L];rfl
 have z:wr .i64 (q:Int)=(q:Int):=cE;have K:wr .i64 (wr .i64 ((n:Int)+(q:Int))+1)=(N:Int):=by rw[cE (n:=(n:Int)+q),cE];omega
 have O:(2:Nat)^k=4294967296^q*2^s:=by rw[show(4294967296:Nat)=2^32 by rfl,<-qm,<-hG];congr 1;omega
 have P:2^s*2^(32-s)=4294967296:=by rw[<-hG,show s+(32-s)=32 by omega]
 have Q:=jF s;have L:2^s<=2147483648:=hX (n:=2) (i:=s) (j:=31) (by omega) (by omega);simp[y,z,K];rw[nO m];simp
 refine fh.of (λs:Nat×List Nat=>[(6,.slice (some ⟨H.next,0,none⟩) N N),(1,.int .i64 (k:Int)),(19,.slice I n J),(20,.int .i64 (n:Int)),(21,.int .i64 (s.1:Int))])
  (λt ab=>Out pm H ab H.next t.2 N/\t.1<=n/\bt t.2 (t.1+q+1)=bt a t.1*2^k/\dg t.2 (t.1+q)<2^s) (λs=>n-s.1) (0,List.replicate N 0) (by simp) ⟨Out.wK m (bx.refl m) _,by simp,?_,?_⟩ ?_
 ·simp only[Nat.zero_add,bt,Nat.zero_mul];rw[JL (λi A=>by simp[dg,xd];split<;>simp)];simp[dg,xd];split<;>simp
 ·simp[dg,xd];split<;>simp<;>omega
 rintro⟨i,d⟩ ab ⟨c,A,o,B⟩;simp only at c A o B;by_cases C:i<n
 ·obtain⟨_,_,_,_,rfl,F,H,R⟩:=(w.u m c.u).at x C;have S:=G.dg i;have r:=c.Q.dg (i+q);obtain⟨e,p⟩:∃e,e=dg a i*2^s:=⟨_,rfl⟩;have T:e<4294967296*2^s:=by rw[p];exact C9 S Q
  obtain⟨l,U⟩:∃l,l=e%4294967296:=⟨_,rfl⟩;obtain⟨g,t⟩:∃h,h=e/4294967296:=⟨_,rfl⟩;have V:g<2^s:=by rw[t];exact ts T
  have W:wr .u64 ((dg a i:Nat):Int)=((dg a i:Nat):Int):=fu;have X:wr .i64 ((i:Int)+1)=((i+1:Nat):Int):=by rw[cE];simp
  have Y:wr .i64 ((i:Int)+(q:Int))=((i+q:Nat):Int):=by rw[cE];simp
  have Z:wr .i64 (((i:Int)+(q:Int))+1)=((i+q+1:Nat):Int):=by rw[cE];simp
  have aa:min s 64=s:=by omega
  have x5:wr .u64 (((dg a i:Nat):Int)*2^s)=(e:Int):=by
   have f:((dg a i:Nat):Int)*2^s=(e:Int):=by rw[p];simp
   rw[f];exact fu
  have x6:wr .u32 (e:Int)=(l:Int):=by rw[k6];omega
  have x7:((e:Int)).fdiv 4294967296=(g:Int):=by rw[t];exact Ca e
  have x8:wr .u32 (g:Int)=(g:Int):=by rw[k6];omega
  obtain⟨j,D⟩:∃j,j=i+q+1:=⟨_,rfl⟩;have x9:wr .i64 ((i:Int)+(q:Int)+1)=(j:Int):=by rw[Z,D]
  have ab:=TB (an:=d) (i:=i+q) (by rw[c.len];omega);obtain⟨f,E⟩:∃f,f=dg d (i+q)+l:=⟨_,rfl⟩;have x:∃t,l=t*2^s:=by
   refine⟨dg a i%2^(32-s),?_⟩;rw[U,p,<-P,eZ (dg a i),Nat.mul_mod_mul_left,eZ]
  have w:dg d (i+q) ||| l=f:=by
   obtain⟨t,a⟩:=x;rw[Nat.or_comm,a,wX B,E,a];omega
  have ad:f<4294967296:=by rw[<-w];exact Nat.or_lt_two_pow (n:=32) r (by omega)
  have t:=Z5 (a:=dg d (i+q)) (b:=l) r (by omega);rw[w]at t;have r:=setCells_one (cs:=cq d) (i:=i+q) (v:=.int .u32 (f:Int)) (by rw[qD,c.len];omega);have w:=setCells_one (cs:=cq (d.set (i+q) f)) (i:=j) (v:=.int .u32 (g:Int)) (by rw[qD,tl,c.len];omega);rw[qE]at r w;simp[C,F,H,R,W,X,Y,y,M,z,aa,x5,x6,c.get,ab,t,r,m.may (bc _),x7,x8,x9,w,show i+q<N by omega,show j<N by omega];subst D;refine .of (i+1,(d.set (i+q) f).set (i+q+1) g) (by show n-(i+1)<n-i;omega) (by simp) ⟨(c.put (i+q) ad).put (i+q+1) (by omega),by simp;omega,?_,?_⟩
  ·show bt ((d.set (i+q) f).set (i+q+1) g) (i+1+q+1)=bt a (i+1)*2^k;rw[show i+1+q+1=(i+q+1)+1 by omega,po (by rw[tl,c.len];omega),po (by rw[c.len];omega),bt];rw[bt]at o;rw[rP,<-o,eB,O,E];have b:dg a i*4294967296^i*(4294967296^q*2^s)=e*4294967296^(i+q):=by
    rw[p,hG];generalize 4294967296^i=a;generalize 4294967296^q=a;generalize 2^s=a;grind
   rw[b];have a:e=l+4294967296*g:=by omega
   rw[a];generalize 4294967296^(i+q)=p;grind
  ·show dg ((d.set (i+q) f).set (i+q+1) g) (i+1+q)<2^s;rw[show i+1+q=i+q+1 by omega,yW (by rw[tl,c.len];omega)];exact V
 ·obtain rfl:i=n:=by omega
  simp;have b:bt d (i+q+1)=aN d:=iO (h:=by rw[c.len];omega);refine al.of (mK u.ek c.u.ok (sS c.get c.Q c.len (m.new _ c.low)) (by rw[c.len];omega)) ?_;rintro r _ ⟨e,f⟩;simp;exact⟨c.u.trans e,d,f,c.Q,by rw[<-b,o,iO (an:=a)],by rw[c.len];omega⟩
theorem dh.drop{c off cap:Nat}{n:Nat}{a:List Nat}(h:dh H (.slice (some ⟨c,off,none⟩) n cap) a)(q:Nat)(j:q<=n):dh H (.slice (some ⟨c,off+q,none⟩) (n-q) (cap-q)) (a.drop q):=by
 have j:=h.len;obtain⟨d,⟨a,rfl⟩ | ⟨_,_,_,y,e,f,a,g,i,_,b⟩⟩:=h
 ·cases a
 ·cases f;refine⟨λf h=>d f (Dd h),.inr ⟨c,off+q,cap-q,y,e,by simp,a,g,?_,by simp;omega,by have:=b.1;simp;omega,b.2⟩⟩;have:=congrArg (List.drop q) i;rw[List.drop_take,List.drop_drop]at this;simp only[Dc];rw[this];simp[cq,List.map_drop]
end
theorem zd(a:List Nat)(k:Nat)(aY:dK a):c1 a k=aN a/4294967296^k:=by
 rw[wU a k,I9 _ _ (u6 (by omega)),u4 (l' aY k)];omega
section
variable[bL]
theorem OA(f:dQ X)(d:ck pm H){v:Value}{a:List Nat}(aI:eT H v a)(la:a.length<1073741824){k:Nat}(av:k<137438953472):
 Call X pm F.mF [v,.int .i64 (k:Int)] H λr ab=>bx pm H ab/\∃an,eT ab r (strip an)/\dK an/\aN an=aN a/2^k/\an.length<=a.length:=by
 have C:=aI.Q;refine Call.has f.mF rfl ?_;simp;refine al.of (iG f.dx aI) ?_;rintro _ H ⟨rfl,o⟩;obtain⟨_,x,rfl⟩:=o.form;obtain⟨n,D⟩:∃n,n=a.length:=⟨_,rfl⟩;rw[<-D]at o|-;obtain⟨q,R⟩:∃q,q=k/32:=⟨_,rfl⟩;obtain⟨s,S⟩:∃s,s=k%32:=⟨_,rfl⟩;have E:((k:Int)).tdiv 32=(q:Int):=by rw[R];rfl
 have T:((k:Int)).tmod 32=(s:Int):=by rw[S];rfl
 have G:wr .i64 (q:Int)=(q:Int):=cE;have I:(2:Nat)^k=4294967296^q*2^s:=by rw[show(4294967296:Nat)=2^32 by rfl,<-qm,<-hG];congr 1;omega
 have U:2^s*2^(32-s)=4294967296:=by rw[<-hG,show s+(32-s)=32 by omega]
 have V:=jF s;by_cases R:n<=q
 ·simp[E,G,show ¬q<n by omega];refine al.of (mK f.ek d .nil (by simp)) ?_;rintro r _ ⟨b,c⟩;simp;refine⟨b,[],c,λ_ e=>(by cases e),?_,by simp⟩;rw[I,<-zL,<-zd a q C,uE];simp[aN]
 ·obtain⟨W,F,X,_,rfl,J,_,_⟩:=o.at D (i:=q) (by omega);have z:n<=x/\∃A,vE X A:=by
   obtain⟨_,⟨a,_⟩ | ⟨_,_,_,_,A,b,a,c,_,_,_⟩⟩:=id o
   ·cases a
   ·cases b;rw[J]at a;cases a;exact⟨by omega,A,c⟩
  obtain⟨z,_,A⟩:=z;have K:=A.ji (pm:=pm) (H:=H) (l:=q) (h:=n) (m:=x) (cap:=x) (off:=F) J (by omega) z (bc _);have y:=o.drop q (by omega);obtain⟨b,B⟩:∃b,b=a.drop q:=⟨_,rfl⟩;obtain⟨N,L⟩:∃N,N=n-q:=⟨_,rfl⟩;rw[<-B,<-L]at y;rw[<-L]at K;have M:dK b:=y.1;have o:b.length=N:=by rw[B,Dc];omega
  simp[E,G,show q<n by omega,K];rw[nO d];simp
  refine fh.of (λt:Nat×List Nat=>[(6,.slice (some ⟨H.next,0,none⟩) N N),(1,.int .i64 (k:Int)),(5,.slice (some ⟨W,F+q,none⟩) N (x-q)),(24,.int .i64 (N:Int)),(25,.int .i64 (t.1:Int))])
   (λt ab=>Out pm H ab H.next t.2 N/\t.1<=N/\bt t.2 t.1+4294967296^t.1*(c1 b t.1/2^s)=aN b/2^s) (λs=>N-s.1) (0,List.replicate N 0) (by simp) ⟨Out.wK d (bx.refl d) _,by simp,by simp[bt,s0]⟩ ?_
  rintro⟨i,g⟩ ab ⟨c,n,p⟩;simp only at c n p;by_cases O:i<N
  ·simp[O];refine al.of (sK f.hl (y.u d c.u) i) ?_;rintro _ ab ⟨rfl,rfl⟩;have h:wr .i64 ((i:Int)+1)=((i+1:Nat):Int):=by rw[cE];simp
   obtain⟨j,k⟩:∃j,j=i+1:=⟨_,rfl⟩;rw[<-k]at h;simp[h];refine al.of (sK f.hl (y.u d c.u) j) ?_;rintro _ ab ⟨rfl,rfl⟩;have l:=M.dg i;have n:=M.dg j;obtain⟨t,m⟩:∃t,t=dg b j*4294967296:=⟨_,rfl⟩;have Y:wr .u64 (((dg b j:Nat):Int)*4294967296)=(t:Int):=by rw[fu];omega
   obtain⟨u,H⟩:∃u,u=t+dg b i:=⟨_,rfl⟩;have P:=wY (a:=dg b i) (b:=t);have n:dg b i ||| t=u:=by
    rw[Nat.or_comm,m,H];have:=wX (a:=dg b j) (i:=32) (b:=dg b i) (by simpa using l);simp only[Nat.reducePow]at this;omega
   rw[n]at P;have Z:min s 64=s:=by omega
   obtain⟨w,Q⟩:∃w,w=u/2^s:=⟨_,rfl⟩;have x4:((u:Int)).fdiv (2^s)=(w:Int):=by
    have:=GK u (2^s);rw[Q];simpa using this
   obtain⟨e,hd⟩:∃e,e=w%4294967296:=⟨_,rfl⟩;have o:wr .u32 (w:Int)=(e:Int):=by rw[k6];omega
   have n:=setCells_one (cs:=cq g) (i:=i) (v:=.int .u32 (e:Int)) (by rw[qD,c.len];omega);rw[qE]at n;simp[Y,P,T,Z,x4,o,n,O,c.get,d.may (bc _),h];refine .of (j,g.set i e) (by show N-j<N-i;omega) (by simp) ⟨c.put i (by omega),by simp;omega,?_⟩;show bt (g.set i e) j+4294967296^j*(c1 b j/2^s)=aN b/2^s;rw[<-p,k,po (by rw[c.len];omega),eB];have aa:c1 b i/2^s=e+4294967296*(c1 b (i+1)/2^s):=by
    have a:(c1 b i/2^s)/4294967296=c1 b (i+1)/2^s:=by
     rw[zL,eZ,<-zL,mA b i,I9 _ _ (by omega),u4 l];simp
    have a:(c1 b i/2^s)%4294967296=e:=by
     rw[hd,Q,H,m,mA b i,mA b (i+1),<-k];have:dg b i+4294967296*(dg b j+4294967296*c1 b (j+1))=(dg b j*4294967296+dg b i)+2^s*(4294967296*(2^(32-s)*c1 b (j+1))):=by
      have e:4294967296*(4294967296*c1 b (j+1))=2^s*(4294967296*(2^(32-s)*c1 b (j+1))):=by
       generalize c1 b (j+1)=z;have:2^s*2^(32-s)*(4294967296*z)=4294967296*(4294967296*z):=by rw[U]
       generalize 2^s=x at*
       generalize 2^(32-s)=y at*
       grind
      omega
     rw[this,I9 _ _ V,Nat.add_mul_mod_self_left]
    omega
   rw[aa];generalize 4294967296^i=e;generalize c1 b (i+1)/2^s=r;grind
  ·obtain rfl:i=N:=by omega
   simp;have b:bt g i=aN g:=iO (h:=by rw[c.len];omega);refine al.of (mK f.ek c.u.ok (sS c.get c.Q c.len (d.new _ c.low)) (by rw[c.len];omega)) ?_;rintro r _ ⟨d,e⟩;simp;refine⟨c.u.trans d,g,e,c.Q,?_,by rw[c.len];omega⟩;rw[uE,b]at p;simp at p;rw[p,I,<-zL,<-zd a q C,B,c1]
end
theorem Po{an:List Nat}{j k d:Nat}(h:j<k):c1 (an.set j d) k=c1 an k:=by
 unfold c1;rw[List.drop_set,aL h]
section
variable[bL]
theorem S1(x:dQ X)(g:ck pm H){v:Value}{a:List Nat}(l:dh H v a)(p:a.length<=1073741824){y:Nat}(o:0<y)(p:y<4294967296):
 Call X pm F.p5 [v,.int .u64 (y:Int)] H λr ab=>bx pm H ab/\∃s p,r=.tuple #[s,.int .u64 ((aN a%y:Nat):Int)]/\dh ab s p/\aN p=aN a/y/\p.length=a.length:=by
 have z:=l.1;refine Call.has x.p5 rfl ?_;obtain⟨A,B,rfl⟩:=l.form;obtain⟨n,q⟩:∃n,n=a.length:=⟨_,rfl⟩;rw[<-q]at l|-;simp;rw[nO g];simp
 refine fh.of (λt:Nat×List Nat×Nat=>[(0,.slice A n B),(1,.int .u64 (y:Int)),(6,.slice (some ⟨H.next,0,none⟩) n n),(7,.int .u64 (t.2.2:Int)),(8,.int .i64 ((t.1:Int)-1))])
  (λt ab=>Out pm H ab H.next t.2.1 n/\t.1<=n/\t.2.2<y/\c1 a t.1=c1 t.2.1 t.1*y+t.2.2) (λt=>t.1) (n,List.replicate n 0,0) (by simp;rw[cE]) ⟨Out.wK g (bx.refl g) _,by simp,o,?_⟩ ?_
 ·simp only;rw[uE,uE (h:=by simp)];simp
 rintro⟨k,e,r⟩ ab ⟨c,p,m,j⟩;simp only at c p m j
 cases k with
 | zero=>
   simp;rw[s0,s0]at j;have b:aN a/y=aN e:=by
    rw[j,eZ,Nat.mul_add_div o,u4 m];omega
   have d:aN a%y=r:=by
    rw[j,eZ,Nat.mul_add_mod,n1 m]
   exact⟨c.u,_,⟨rfl,by omega⟩,e,sS c.get c.Q c.len (g.new _ c.low),b.symm,by rw[c.len,q]⟩
 | succ k=>
   obtain⟨_,_,_,_,rfl,C,D,E⟩:=(l.u g c.u).at q (i:=k) (by omega);have F:=z.dg k;have G:wr .u64 ((dg a k:Nat):Int)=((dg a k:Nat):Int):=fu;obtain⟨t,H⟩:∃t,t=r*4294967296:=⟨_,rfl⟩;have I:wr .u64 ((r:Int)*4294967296)=(t:Int):=by rw[fu];omega
   obtain⟨u,J⟩:∃u,u=t+dg a k:=⟨_,rfl⟩;have w:=wY (a:=t) (b:=dg a k);have l:t ||| dg a k=u:=by
    rw[H,J];have:=wX (a:=r) (i:=32) (b:=dg a k) (by simpa using F);simp only[Nat.reducePow]at this;omega
   rw[l]at w;obtain⟨d,h⟩:∃d,d=u/y:=⟨_,rfl⟩;have K:d<4294967296:=by
    rw[h];exact ts (by
     have:(r+1)*4294967296<=y*4294967296:=fV _ m;omega)
   have L:((u:Int)).tdiv (y:Int)=(d:Int):=by rw[h];rfl
   obtain⟨f,s⟩:∃f,f=u%y:=⟨_,rfl⟩;have p:((u:Int)).tmod (y:Int)=(f:Int):=by rw[s];rfl
   have q:wr .u64 (d:Int)=(d:Int):=fu;have t:wr .u32 (d:Int)=(d:Int):=by rw[k6];omega
   have l:¬y=0:=by omega
   have l:=Ha .u64 (u:Int) (y:Int) (by omega);have m:=Hb .u64 (u:Int) (y:Int) (by omega);rw[L,q]at l;rw[p]at m;have q:wr .i64 ((k:Int)-1)=(k:Int)-1:=cE;have p:=setCells_one (cs:=cq e) (i:=k) (v:=.int .u32 (d:Int)) (by rw[qD,c.len];omega);rw[qE]at p;simp[G,I,w,l,t,q,m,C,D,E,show k<n by omega,c.get,p,g.may (bc _)];have g:f<y:=by rw[s];exact o1 _ o
   refine .of (k,e.set k d,f) (by simp) (by simp) ⟨c.put k K,by simp;omega,g,?_⟩;show c1 a k=c1 (e.set k d) k*y+f;rw[mA a k,j,mA (e.set k d) k,yW (by rw[c.len];omega),Po (by omega)];have c:y*d+f=u:=by rw[h,s];exact xi u y
   have:u=r*4294967296+dg a k:=by omega
   generalize c1 e (k+1)=z at*
   grind
end
theorem ab6(w:List Nat)(m:Nat):bt w (m+3)=bt w m+4294967296^m*(dg w m+4294967296*(dg w (m+1)+4294967296*dg w (m+2))):=by
 simp only[bt,eB];generalize 4294967296^m=p;grind
theorem ab7(w:List Nat)(m:Nat):bt w (m+2)=bt w m+4294967296^m*(dg w m+4294967296*dg w (m+1)):=by
 simp only[bt,eB];generalize 4294967296^m=p;grind
section
variable[bL]
structure lb(A V:Nat)(two v1 v2 a0:Nat):Prop where
 ex:∃P Ml M6,0<P/\A=Ml+P*(a0+4294967296*two)/\V=M6+P*(v2+4294967296*v1)/\Ml<P/\M6<P
 a0:a0<4294967296
 v2:v2<4294967296
 v1:0<v1
 lt:A<4294967296*V
end
theorem lb.pos{A V a v1 b c:Nat}(g:lb A V a v1 b c):0<V:=by have:=g.lt;omega
theorem lb.low{A V b v1 a c:Nat}(g:lb A V b v1 a c):A/V*(a+4294967296*v1)<=c+4294967296*b:=by
 obtain⟨P,_,_,_,_,_,_,_⟩:=g.ex;have h:=Nat.div_mul_le_self A V;generalize A/V=Q at*
 have e:Q*(P*(a+4294967296*v1))<=Q*V:=nZ Q (by omega);have d:P*(Q*(a+4294967296*v1))<P*(c+4294967296*b+1):=by
  have:P*(Q*(a+4294967296*v1))=Q*(P*(a+4294967296*v1)):=by grind
  rw[this,uh P _ 1];omega
 have:=Nat.lt_of_mul_lt_mul_left d;omega
theorem lb.top{A V b v1 a c:Nat}(g:lb A V b v1 a c):A/V*v1<=b:=by
 have h:=g.low;have b:=g.a0;generalize A/V=Q at*
 have e:Q*(a+4294967296*v1)=Q*a+4294967296*(Q*v1):=by grind
 omega
theorem lb.mask{A V a v1 b c:Nat}(g:lb A V a v1 b c):A/V<=4294967295:=by
 have:=ts (k:=4294967296) (by rw[eZ];exact g.lt:A<V*4294967296);omega
theorem lb.start{A V a v1 b c:Nat}(g:lb A V a v1 b c):A/V<=min (a/v1) 4294967295:=by
 have:=g.top;have a:=(Nat.le_div_iff_mul_le g.v1).2 this;have:=g.mask;omega
theorem lb.dec{A V b v1 a c q r:Nat}(g:lb A V b v1 a c)(h:A/V<=q)(f:r+q*v1=b)(b:r*4294967296+c<q*a):A/V<=q-1:=by
 have d:=g.low
 rcases xk (A/V) q with b | b
 ·omega
 ·obtain e:A/V=q:=by omega
  rw[e]at d;have b:q*(a+4294967296*v1)=q*a+4294967296*(q*v1):=by grind
  omega
theorem lb.stop{A V c v1 a b q r:Nat}(g:lb A V c v1 a b)(e:q<=4294967295)(f:r+q*v1=c)(d:4294967296<=r∨q*a<=r*4294967296+b):q<=A/V+1:=by
 have f:=g.v2;have f:=g.v1;have f:q*a<=r*4294967296+b:=by
  rcases d with h | h
  ·have:q*a<=4294967295*4294967295:=gk e (by omega);omega
  ·exact h
 obtain⟨P,_,d,_,_,f,_,_⟩:=g.ex;have h:q*(a+4294967296*v1)<=b+4294967296*c:=by
  have:q*(a+4294967296*v1)=q*a+4294967296*(q*v1):=by grind
  omega
 have i:q*V<A+V:=by
  have g:q*V=q*d+P*(q*(a+4294967296*v1)):=by rw[f];grind
  have f:P*(q*(a+4294967296*v1))<=P*(b+4294967296*c):=nZ P h;have b:q*d<=4294967295*d:=fV d e;have b:P*(4294967296*1)<=P*(a+4294967296*v1):=nZ P (by omega);omega
 rcases xk (A/V+1) q with a | a
 ·exfalso;have b:(A/V+2)*V<=q*V:=fV V a;have b:=Nat.lt_mul_div_succ A g.pos;rw[eZ]at b;have:(A/V+2)*V=(A/V+1)*V+V:=by grind
  omega
 ·exact a
section
variable[bL]
def pC(ev:Nat)(H:ae)(v:Value)(an:List Nat):Prop:=
 dK an/\∃a c y b,v=.slice (some ⟨ev,a,none⟩) an.length c/\H.get ev=some y/\rowOf y=some b/\∀i,i<an.length->b[a+i]? = some (.int .u32 ((dg an i:Nat):Int))
structure iz(pm:Perm)(c:Nat)(H ab:ae):Prop where
 ok:ck pm ab
 next:H.next<=ab.next
 get:∀x,x≠c->ab.get x=H.get x
theorem iz.refl(a:ck pm H)(c:Nat):iz pm c H H:=⟨a,bc _,λ_ _=>rfl⟩
theorem iz.trans{c:Nat}{a:ae}(h:iz pm c H ab)(g:iz pm c ab a):iz pm c H a:=⟨g.ok,a8 h.next g.next,λx a=>(g.get x a).trans (h.get x a)⟩
theorem _root_.Go.Dam.ck.up(h:ck pm H)(n:Nat):ck pm (H.up n):=⟨h.num,a8 h.ah (gj _ _),λb a=>h.wf b (a8 (gj _ _) a),λb a=>h.new b (a8 (gj _ _) a)⟩
theorem iz.up{c:Nat}(h:iz pm c H ab)(n:Nat):iz pm c H (ab.up n):=⟨h.ok.up n,a8 h.next (gj _ _),h.get⟩
theorem iz.put{c:Nat}(h:iz pm c H ab){y:bz}(d:ab.get c=some y)(x:bz):iz pm c H (ab.put c x):=
 ⟨⟨h.ok.num,h.ok.ah,λb a=>by have a:ab.next<=b:=a;have:=h.ok.lt d;rw[a6 (by omega)];exact h.ok.wf b a,λb a=>h.ok.new b a⟩,h.next,λz a=>by rw[a6 a];exact h.get z a⟩
theorem pC.only{ev c:Nat}{v:Value}{an:List Nat}(h:pC ev H v an)(a:ev≠c)(b:iz pm c H ab):pC ev ab v an:=by
 obtain⟨c,d,e,y,f,g,i,j⟩:=h;exact⟨c,d,e,y,f,g,(b.get ev a).trans i,j⟩
end
theorem dK.r5{an:List Nat}(h:dK an)(i:Nat):wr .u64 ((C.dg an i:Nat):Int)=((C.dg an i:Nat):Int):=by
 have:=h.dg i;exact fu
theorem dK.JY{an:List Nat}(h:dK an)(i:Nat):wr .i64 ((C.dg an i:Nat):Int)=((C.dg an i:Nat):Int):=by
 have:=h.dg i;exact cE
theorem va{p w:List Nat}{j i:Nat}(a:p.length=j) (b:i<w.length:=by omega):(cq (p++w))[j+i]? = some (.int .u32 ((dg w i:Nat):Int)):=by
 subst a;simp[cq,dg,b]
theorem DQ{p w:List Nat}{j i d:Nat}(a:p.length=j)(b:i<w.length):setCells (cq (p++w)) (j+i) [.int .u32 (d:Int)]=some (cq (p++w.set i d)):=by
 subst a;rw[setCells_one (by simp;omega),qE];rw[List.set_append_right _ _ (by omega)];simp
theorem wa{w:List Nat}{i t d:Nat} (h:i≠t:=by omega):dg (w.set i d) t=dg w t:=by simp[dg,h]
section
variable[bL]
def DT(pm:Perm)(c:Nat)(H:ae)(p w:List Nat)(n A V:Nat):cl:=λx l ab=>
 (x=e1.normal∨x=e1.ret)/\∃a,kn l ab [.slot 4]=some a/\(iw a=.int .u32 ((A/V:Nat):Int)/\iz pm c H ab/\∃a,ab.get c=some (.cells (cq (p++a)) (.n 1))/\dK a/\a.length=w.length/\
  bt a (n+1)=A%V/\∀i,n<i->dg a i=dg w i)
theorem Td{ai:ae}{c ev j n cap x pO:Nat}(aj:iz pm c ai H)(y:pm.may c=true)(N:ev≠c){p w b:List Nat}{A V q:Nat}{O:bz}{S:List Value}(m:p.length=j)(hc:H.get c=some (.cells (cq (p++w)) (.n 1)))
 (ak:dK w) (z:dK b) (T:ai.get ev=some O) (U:rowOf O=some S) (W:∀i,i<n->S[x+i]? = some (.int .u32 ((dg b i:Nat):Int))) (O:n<1073741824) (O:n+1<=w.length) (_:j<1073741824)
 (hA:A=bt w (n+1)) (K:V=bt b n) (al:0<V) (an:A/V<=q) (ao:q<=A/V+1) (aq:q<=4294967295) {l:bn}
 (S:aF 0 l=some (.slice (some ⟨c,j,none⟩) (n+1) cap)) (O:aF 1 l=some (.slice (some ⟨ev,x,none⟩) n pO)) (l5:aF 5 l=some (.int .i64 (n:Int))) (l7:aF 7 l=some (.int .u64 (q:Int))):
 wp X pm (.code p6) l H [] (DT pm c ai p w n A V):=by
 simp[O]
 refine fh.of (λs:Nat×List Nat×Nat×Int=>[(0,.slice (some ⟨c,j,none⟩) (n+1) cap),(1,.slice (some ⟨ev,x,none⟩) n pO),(5,.int .i64 (n:Int)),(7,.int .u64 (q:Int)),(9,.int .u64 (s.2.2.1:Int)),(10,.int .i64 s.2.2.2),(82,.slice (some ⟨ev,x,none⟩) n pO),(83,.int .i64 (n:Int)),(84,.int .i64 (s.1:Int))])
  (λs ab=>iz pm c ai ab/\ab.get c=some (.cells (cq (p++s.2.1)) (.n 1))/\dK s.2.1/\s.2.1.length=w.length/\s.1<=n/\(∀d,s.1<=d->dg s.2.1 d=dg w d)/\s.2.2.1<4294967296/\-1<=s.2.2.2/\s.2.2.2<=0/\
   (bt s.2.1 s.1:Int)+s.2.2.2*((4294967296^s.1:Nat):Int)=bt w s.1-q*bt b s.1+s.2.2.1*((4294967296^s.1:Nat):Int)) (λs=>n-s.1) (0,w,0,0) (by simp[S,O,l5,l7]) ⟨aj,hc,ak,rfl,by simp,λ_ _=>rfl,by simp,by simp,by simp,by simp[bt]⟩ ?_
 rintro⟨i,a,g,o⟩ _ ⟨C,r,h,D,O,t,S,aj,ak,ar⟩;simp only at r h D O t S aj ak ar;have au:=(C.get ev N).trans T;by_cases Y:i<n
 ·have E:=W i Y;have F:=va (p:=p) (w:=a) m (i:=i);have O:=z.dg i;have O:=h.dg i;obtain⟨c,B⟩:∃s,s=g+q*dg b i:=⟨_,rfl⟩;have G:q*dg b i<=4294967295*4294967295:=gk aq (by omega);obtain⟨u,v⟩:∃A,A=q*dg b i:=⟨_,rfl⟩;rw[<-v]at B G;have H:wr .u64 ((q:Int)*((dg b i:Nat):Int))=(u:Int):=by
   have e:(q:Int)*((dg b i:Nat):Int)=(u:Int):=by rw[v];simp
   rw[e];exact fu
  have I:wr .u64 ((g:Int)+(u:Int))=(c:Int):=by rw[fu];omega
  obtain⟨e,_⟩:∃d,d=c%4294967296:=⟨_,rfl⟩;have J:wr .u32 (c:Int)=(e:Int):=by rw[k6];omega
  have L:wr .i64 (e:Int)=(e:Int):=cE;obtain⟨f,M⟩:∃s:Int,s=o+((dg a i:Int)-e):=⟨_,rfl⟩;have Q:wr .i64 (o+wr .i64 (((dg a i:Nat):Int)-(e:Int)))=f:=by
   rw[cE (n:=(dg a i:Int)-e),cE];omega
  obtain⟨j,_⟩:∃d:Nat,(d:Int)=f%4294967296:=⟨(f%4294967296).toNat,by omega⟩;have R:wr .u32 f=(j:Int):=by rw[k6];omega
  obtain⟨k,X⟩:∃u:Int,u=f/4294967296:=⟨_,rfl⟩;have Z:f.fdiv 4294967296=k:=by rw[Int.fdiv_eq_ediv_of_nonneg _ (by omega)];exact X.symm
  obtain⟨l,aa⟩:∃A,A=c/4294967296:=⟨_,rfl⟩;have u:((c:Int)).fdiv 4294967296=(l:Int):=by rw[aa];exact Ca c
  have A:wr .i64 ((i:Int)+1)=((i+1:Nat):Int):=by rw[cE];simp
  have G:=DQ (p:=p) (w:=a) (d:=j) m (i:=i) (by omega);simp[Y,au,U,E,r,F,h.JY,z.r5,H,I,J,L,Q,R,Z,u,A,G,show i<n+1 by omega,y];refine .of (i+1,a.set i j,l,k) (by show n-(i+1)<n-i;omega) (by simp) ⟨C.put r _,by simp,h.set i (by omega),by simp[D],by simp;omega,λu A=>?_,by simp;omega,by simp;omega,by simp;omega,?_⟩
  ·have A:i+1<=u:=A;show dg (a.set i j) u=dg w u;rw[wa];exact t u (by omega)
  ·show((bt (a.set i j) (i+1):Nat):Int)+k*((4294967296^(i+1):Nat):Int)=(bt w (i+1):Int)-q*(bt b (i+1):Int)+l*((4294967296^(i+1):Nat):Int);rw[po (by omega),bt,bt,<-t i (bc _),eB];have d:f=j+4294967296*k:=by omega
   have n:(c:Int)=e+4294967296*l:=by omega
   have p:(c:Int)=g+q*dg b i:=by rw[B,v];simp
   generalize 4294967296^i=P at*
   simp only[Int.natCast_add,zW,Int.cast_ofNat_Int];have u:(j:Int)*P+k*(P*4294967296)=f*P:=by rw[d];grind
   have d:f*P=o*P+(dg a i:Int)*P-e*P:=by rw[M];grind
   have d:(e:Int)*P+l*(P*4294967296)=c*P:=by rw[n];grind
   have d:(c:Int)*P=g*P+q*(dg b i*P):=by rw[p];grind
   have c:(q:Int)*((bt b i:Int)+dg b i*P)=q*bt b i+q*(dg b i*P):=by grind
   rw[c];omega
 ·obtain rfl:i=n:=by omega
  have X:=va (p:=p) (w:=a) m (i:=i);have O:=h.dg i;have Z:wr .i64 (g:Int)=(g:Int):=cE;obtain⟨e,av⟩:∃s:Int,s=o+((dg a i:Int)-g):=⟨_,rfl⟩;have E:wr .i64 (o+wr .i64 (((dg a i:Nat):Int)-(g:Int)))=e:=by
   rw[cE (n:=(dg a i:Int)-g),cE];omega
  obtain⟨l,aa⟩:∃d:Nat,(d:Int)=e%4294967296:=⟨(e%4294967296).toNat,by omega⟩;have F:wr .u32 e=(l:Int):=by rw[k6];omega
  have ad:=DQ (p:=p) (w:=a) (d:=l) m (i:=i) (by omega);have O:0<4294967296^i:=u6 (by omega);have O:=l' z i;rw[<-K]at O;have O:=l' h i;have O:A=bt w i+dg w i*4294967296^i:=by rw[hA,bt]
  have aw:=t i (bc _);have G:(bt a i:Int)+e*((4294967296^i:Nat):Int)=A-q*V:=by
   rw[O,K];generalize 4294967296^i=P at*
   rw[av,aw];simp only[Int.natCast_add,zW];have b:(o+((dg w i:Int)-g))*P=o*P+dg w i*P-g*P:=by grind
   rw[b];omega
  have ae:=xi A V;have hR:A%V<V:=o1 _ al;obtain⟨Q,H⟩:∃Q,Q=A/V:=⟨_,rfl⟩;obtain⟨R,I⟩:∃R,R=A%V:=⟨_,rfl⟩;rw[<-H,<-I]at ae;rw[<-I]at hR;rw[<-H]at an ao;have J:(A:Int)=Q*V+R:=by rw[<-ae];simp;grind
  have af:q=Q∨q=Q+1:=by omega
  by_cases g:e<0
  ·have hq:q=Q+1:=by
    rcases af with rfl | b
    ·exfalso;rw[J]at G;have c:e*((4294967296^i:Nat):Int)<=-1*((4294967296^i:Nat):Int):=I6 (by omega) (by omega);omega
    ·exact b
   have ax:(bt a i:Int)+e*((4294967296^i:Nat):Int)=R-V:=by
    rw[G,J,hq];simp;grind
   have ay:e=-1:=by
    rcases(by omega:e=-1∨e<=-2) with b | b
    ·exact b
    ·exfalso;have c:e*((4294967296^i:Nat):Int)<=-2*((4294967296^i:Nat):Int):=I6 b (by omega);omega
   rw[ay]at ax aa E F;have az:l=4294967295:=by omega
   have g:¬((0:Int)<=e):=by omega
   simp[X,h.JY,r,Z,E,F,ad,y]
   refine fh.of (λs:Nat×List Nat×Nat=>[(0,.slice (some ⟨c,j,none⟩) (i+1) cap),(5,.int .i64 (i:Int)),(7,.int .u64 (q:Int)),(13,.int .u64 (s.2.2:Int)),(135,.slice (some ⟨ev,x,none⟩) i pO),(136,.int .i64 (i:Int)),(137,.int .i64 (s.1:Int))])
    (λs ab=>iz pm c ai ab/\ab.get c=some (.cells (cq (p++s.2.1)) (.n 1))/\dK s.2.1/\s.2.1.length=w.length/\s.1<=i/\(∀d,s.1<=d->dg s.2.1 d=dg (a.set i l) d)/\s.2.2<=1/\
     bt s.2.1 s.1+s.2.2*4294967296^s.1=bt a s.1+bt b s.1) (λs=>i-s.1) (0,a.set i l,0) (by simp) ⟨C.put r _,by simp,h.set i (by omega),by simp[D],by simp,λ_ _=>rfl,by simp,by simp[bt]⟩ ?_
   rintro⟨k,f,u⟩ _ ⟨L,A,v,M,g,B,o,ag⟩;simp only at A v M g B o ag;have aA:=(L.get ev N).trans T;by_cases ah:k<i
   ·have q:=W k ah;have g1:=va (p:=p) (w:=f) m (i:=k);have g:=z.dg k;have g:=v.dg k;obtain⟨c,ab⟩:∃s,s=u+(dg f k+dg b k):=⟨_,rfl⟩;have y1:wr .u64 ((u:Int)+wr .u64 (((dg f k:Nat):Int)+((dg b k:Nat):Int)))=(c:Int):=by
     rw[fu (n:=((dg f k:Nat):Int)+((dg b k:Nat):Int)),fu];omega
    obtain⟨j,_⟩:∃d,d=c%4294967296:=⟨_,rfl⟩;have y2:wr .u32 (c:Int)=(j:Int):=by rw[k6];omega
    obtain⟨n,ai⟩:∃g,g=c/4294967296:=⟨_,rfl⟩;have g:((c:Int)).fdiv 4294967296=(n:Int):=by rw[ai];exact Ca c
    have o:wr .i64 ((k:Int)+1)=((k+1:Nat):Int):=by rw[cE];simp
    have s:=DQ (p:=p) (w:=f) (d:=j) m (i:=k) (by omega);simp[ah,aA,U,q,A,g1,v.r5,z.r5,y1,y2,g,o,s,show k<i+1 by omega,y];refine .of (k+1,f.set k j,n) (by show i-(k+1)<i-k;omega) (by simp) ⟨L.put A _,by simp,v.set k (by omega),by simp[M],by simp;omega,λg o=>?_,by simp;omega,?_⟩
    ·have o:k+1<=g:=o;show dg (f.set k j) g=_;rw[wa];exact B g (by omega)
    ·show bt (f.set k j) (k+1)+n*4294967296^(k+1)=bt a (k+1)+bt b (k+1);have d:dg f k=dg a k:=by rw[B k (bc _),wa]
     rw[po (by omega),bt,bt,<-d,eB];have i:c=j+4294967296*n:=by omega
     generalize 4294967296^k=P at*
     have d:j*P+n*(P*4294967296)=c*P:=by rw[i];grind
     have d:c*P=u*P+dg f k*P+dg b k*P:=by rw[ab];grind
     omega
   ·obtain rfl:k=i:=by omega
    have c:=va (p:=p) (w:=f) m (i:=k);have b:dg f k=4294967295:=by rw[B k (bc _),yW (by omega),az]
    rw[b]at c;have b:=l' v k;have n:u=1/\bt f k=R:=by
     rw[<-K]at ag;rcases(by omega:u=0∨u=1) with rfl | rfl
     ·exfalso;omega
     ·exact⟨rfl,by omega⟩
    obtain⟨rfl,P⟩:=n;have g:wr .u32 (4294967295+wr .u32 1)=0:=by decide
    have b:=DQ (p:=p) (w:=f) (d:=0) m (i:=k) (by omega);have m:wr .u64 ((q:Int)-1)=(Q:Int):=by rw[fu];omega
    have n:wr .u32 (Q:Int)=(Q:Int):=by rw[k6];omega
    have b:setCells (cq (p++f)) (j+k) [.int .u32 0]=some (cq (p++f.set k 0)):=b;simp[c,A,g,m,n,b,y,DT];refine⟨by rw[H];simp,L.put A _,f.set k 0,rfl,v.set k (by omega),by simp[M],?_,λb _=>?_⟩
    ·rw[po (by omega),P,I];simp
    ·rw[wa,B b (by omega),wa,t b (by omega)]
  ·have c:q=Q:=by
    rcases af with b | b
    ·exact b
    ·exfalso;have d:(bt a i:Int)+e*((4294967296^i:Nat):Int)=R-V:=by
      rw[G,J,b];simp;grind
     have b:0<=e*((4294967296^i:Nat):Int):=Int.mul_nonneg (by omega) (by omega);omega
   have d:(bt a i:Int)+e*((4294967296^i:Nat):Int)=R:=by rw[G,J,c];grind
   have f:e=0:=by
    rcases(by omega:e=0∨1<=e) with b | b
    ·exact b
    ·exfalso;have g:1*((4294967296^i:Nat):Int)<=e*((4294967296^i:Nat):Int):=I6 b (by omega);omega
   rw[f]at d aa E F;have b:wr .u32 (q:Int)=(q:Int):=by rw[k6];omega
   simp[X,h.JY,r,Z,E,F,b,ad,y,DT];refine⟨by rw[c,H];simp,C.put r _,a.set i l,rfl,h.set i (by omega),by simp[D],?_,λa _=>?_⟩
   ·rw[po (by omega)];have:l=0:=by omega
    rw[this,<-I];omega
   ·rw[wa,t a (by omega)]
theorem abr(hX:dQ X)(M:ck pm H){c ev j n cap:Nat}(N:pm.may c=true)(E:ev≠c){p w b:List Nat}(u:p.length=j)(O:H.get c=some (.cells (cq (p++w)) (.n 1)))
 (e:dK w) {dB:Value} (s:pC ev H dB b) (hn:n=b.length) (ae:2<=n) (ae:n<1073741824) (ae:n+1<=w.length) (P:j<1073741824) (Q:dg b (n-1)≠0) (hA:bt w (n+1)<4294967296*aN b):
 Call X pm F.rD [.slice (some ⟨c,j,none⟩) (n+1) cap,dB] H λr ab=>r=.int .u32 ((bt w (n+1)/aN b:Nat):Int)/\iz pm c H ab/\∃ay,ab.get c=some (.cells (cq (p++ay)) (.n 1))/\dK ay/\ay.length=w.length/\
  bt ay (n+1)=bt w (n+1)%aN b/\∀i,n<i->dg ay i=dg w i:=by
 obtain⟨m,rfl⟩:∃m,n=m+2:=⟨n-2,by omega⟩;have f:=s.1;have G:aN b=bt b (m+2):=(iO).symm;have ae:=l' e m;have af:=l' f m
 have g:lb (bt w (m+2+1)) (aN b) (dg w (m+1)+4294967296*dg w (m+2)) (dg b (m+1)) (dg b m) (dg w m):=
  ⟨⟨4294967296^m,bt w m,bt b m,u6 (by omega),ab6 w m,by rw[G];exact ab7 b m,ae,af⟩,e.dg m,f.dg m,qo (by simpa using Q),hA⟩
 obtain⟨A,I⟩:∃A,A=bt w (m+2+1):=⟨_,rfl⟩;obtain⟨V,J⟩:∃V,V=aN b:=⟨_,rfl⟩;rw[<-I,<-J]at g|-;obtain⟨ag,pO,_,_,rfl,y,z,B⟩:=s.2;rw[<-hn];have ah:=e.dg m;have aj:=e.dg (m+1);have s:=e.dg (m+2);have s:=f.dg m;have s:=f.dg (m+1);obtain⟨d,ak⟩:∃t,t=dg w (m+1)+4294967296*dg w (m+2):=⟨_,rfl⟩;rw[<-ak]at g;have g1:=va (p:=p) (w:=w) u (i:=m+1);have g2:=va (p:=p) (w:=w) u (i:=m+2);have g0:=va (p:=p) (w:=w) u (i:=m);have R:=B (m+1) (by omega);have e0:=B m (by omega);have S:wr .i64 ((m:Int)+2-1)=((m+1:Nat):Int):=by rw[cE];omega
 have x2:wr .i64 (m:Int)=(m:Int):=cE;refine Call.has hX.rD rfl ?_;show wp X pm _ _ _ _ (DT pm c H p w (m+2) A V);simp[-p6];refine cx.yI M rfl rfl rfl ?_;obtain⟨t,ht⟩:∃t,t=dg w (m+2)*4294967296:=⟨_,rfl⟩;have x3:wr .u64 (((dg w (m+2):Nat):Int)*4294967296)=(t:Int):=by rw[fu];omega
 have T:=wY (a:=t) (b:=dg w (m+1));have s:t ||| dg w (m+1)=d:=by
  have:=wX (a:=dg w (m+2)) (i:=32) (b:=dg w (m+1)) (by simpa using aj);simp only[Nat.reducePow]at this;rw[ht];omega
 rw[s]at T;have s:dg b (m+1)≠0:=by simpa using Q
 have U:=Ha .u64 (d:Int) ((dg b (m+1):Nat):Int) (by omega);obtain⟨h,C⟩:∃q,q=d/dg b (m+1):=⟨_,rfl⟩;have s:((d:Int)).tdiv ((dg b (m+1):Nat):Int)=(h:Int):=by rw[C];rfl
 have Q:h<=d:=by rw[C];exact lA _ _
 rw[s,fu]at U;obtain⟨k,W⟩:∃q,q=min h 4294967295:=⟨_,rfl⟩;have x7:(if 4294967295<h then(4294967295:Int) else(h:Int))=(k:Int):=by rw[W];split<;>omega
 have s:k*dg b (m+1)<=d:=by
  have a:k*dg b (m+1)<=h*dg b (m+1):=fV _ (by omega);have a:h*dg b (m+1)<=d:=by rw[C];exact Nat.div_mul_le_self _ _
  omega
 obtain⟨l,al⟩:∃l,l=k*dg b (m+1):=⟨_,rfl⟩;have x8:wr .u64 ((k:Int)*((dg b (m+1):Nat):Int))=(l:Int):=by
  have a:(k:Int)*((dg b (m+1):Nat):Int)=(l:Int):=by rw[al];simp
  rw[a];exact fu
 obtain⟨Y,_⟩:∃r,r=d-l:=⟨_,rfl⟩;have h:wr .u64 ((d:Int)-(l:Int))=(Y:Int):=by rw[fu];omega
 simp[-p6,O,g1,g2,e.r5,S,x3,T,R,y,z,f.r5,U,x7,x8,h];have an:∀q:Nat,q<=4294967295->q*dg b m<=4294967295*4294967295:=λq h=>gk h (by omega)
 refine fh.of (λs:Nat×Nat=>[(0,.slice (some ⟨c,j,none⟩) (m+2+1) cap),(1,.slice (some ⟨ev,ag,none⟩) (m+2) pO),(5,.int .i64 ((m:Int)+2)),(7,.int .u64 (s.1:Int)),(8,.int .u64 (s.2:Int))])
  (λs ab=>iz pm c H ab/\ab.get c=H.get c/\A/V<=s.1/\s.1<=4294967295/\s.2+s.1*dg b (m+1)=d) (λs=>s.1) (k,Y) (by simp) ⟨(iz.refl M c).up _,rfl,by have:=g.start;simp only;rw[<-C,<-W]at this;exact this,by simp;omega,by simp only;omega⟩ ?_
 rintro⟨q,r⟩ _ ⟨v,Z,D,o,x⟩;simp only at D o x;simp[-p6];refine cx.yI v.ok rfl rfl rfl ?_;have ao:=(v.get ev E).trans y;have K:=Z.trans O;by_cases L:¬4294967295<r
 ·have F:wr .u64 ((r:Int)*4294967296)=((r*4294967296:Nat):Int):=by rw[fu];omega
  obtain⟨c,X⟩:∃t,t=r*4294967296:=⟨_,rfl⟩;rw[<-X]at F;have aa:=wY (a:=c) (b:=dg w m);have aq:c ||| dg w m=c+dg w m:=by
   have:=wX (a:=r) (i:=32) (b:=dg w m) (by simpa using ah);simp only[Nat.reducePow]at this;rw[X];omega
  obtain⟨u2,ar⟩:∃h,h=c+dg w m:=⟨_,rfl⟩;rw[aq,<-ar]at aa;obtain⟨p,j⟩:∃c,c=q*dg b m:=⟨_,rfl⟩;have c:=an q o;have c:wr .u64 ((q:Int)*((dg b m:Nat):Int))=(p:Int):=by
   have a:(q:Int)*((dg b m:Nat):Int)=(p:Int):=by rw[j];simp
   rw[a];exact fu
  simp[-p6,show m<m+2+1 by omega,L,ao,z,K,g0,e0,R,S,x2,F,aa,c,e.r5,f.r5];by_cases ab:u2<p
  ·have w:=g.dec D x (by rw[<-j];omega);have c:0<q:=by rcases zP q with i | i;subst i;simp at j;omega;exact i
   have H:wr .u64 ((q:Int)-1)=((q-1:Nat):Int):=by rw[fu];omega
   have ad:wr .u64 ((r:Int)+((dg b (m+1):Nat):Int))=((r+dg b (m+1):Nat):Int):=by rw[fu];omega
   obtain⟨a,ai⟩:∃a,a=q-1:=⟨_,rfl⟩;rw[<-ai]at H w;obtain⟨n,au⟩:∃n,n=r+dg b (m+1):=⟨_,rfl⟩;rw[<-au]at ad;simp[-p6,ab,H,ad];refine⟨.of (a,n) (by simp;omega) (by simp) ⟨v.up _,Z,w,by simp;omega,?_⟩,λi=>by omega⟩;show n+a*dg b (m+1)=d;have:q=a+1:=by omega
   subst this;rw[rP]at x;omega
  ·simp[-p6,ab];intro _;exact Td (ai:=H) (b:=b) (cap:=cap) (pO:=pO) (v.up _) N E u K e f y z (λi _=>B i (by omega)) (by omega) (by omega) P I (by rw[J,G]) g.pos D (g.stop o x (.inr (by rw[<-j];omega))) o (by simp) (by simp) (by simp) (by simp)
 ·have L:4294967295<r:=by omega
  simp[-p6,L];exact Td (ai:=H) (b:=b) (cap:=cap) (pO:=pO) (v.up _) N E u K e f y z (λi _=>B i (by omega)) (by omega) (by omega) P I (by rw[J,G]) g.pos D (g.stop o x (.inl (by omega))) o (by simp) (by simp) (by simp) (by simp)
theorem eT.nat{v:Value}{an:List Nat}(h:eT H v (strip an)):cr H v (aN an):=⟨⟨_,h,xK an,mJ an⟩⟩
theorem eT.block{v:Value}{an:List Nat}(h:eT H v an)(aP:an≠[]):∃b x s,v=.pointer (some ⟨b,0,none⟩)/\H.get b=some x/\rowOf x=some [s]/\dh H s an:=by
 rcases h with⟨_,h⟩ | h
 ·exact absurd h aP
 ·obtain⟨b,x,s,a,c,d,e⟩:=h;exact⟨b,x,s,a,c,d.1,e⟩
def ra(pm:Perm)(H:ae)(a b:List Nat):cl:=λx l ab=>(x=e1.normal∨x=e1.ret)/\∃c,kn l ab [.slot 4,.slot 5,.slot 6]=some c/\
 (bx pm H ab/\(aN b=0/\iw c=.tuple #[.pointer none,.pointer none,.bool false]∨aN b≠0/\∃q m,iw c=.tuple #[q,m,.bool true]/\cr ab q (aN a/aN b)/\cr ab m (aN a%aN b)))
end
theorem CI{b:List Nat}(a:strip b=b):aN b=0↔b=[]:=by
 constructor
 ·intro h;have:=s5 a (k:=0) (by rw[h];simp);exact List.length_eq_zero_iff.1 (by omega)
 ·rintro rfl;rfl
section
variable[bL]
theorem _root_.Go.Dam.ck.perm{cu:Perm}(h:ck cu H)(a:pm.num=none)(aY:pm.ah<=H.next):ck pm H:=⟨a,aY,h.wf,h.new⟩
theorem _root_.Go.Dam.bx.perm{cu:Perm}(h:bx cu H ab)(a:pm.num=none)(aY:pm.ah<=H.next):bx pm H ab:=⟨h.ok.perm a (a8 aY h.next),h.next,h.get⟩
theorem _root_.Go.Dam.bx.aah{c:Nat}(d:ck pm H){n:Nat}(e:H.next<=c)(f:c<H.next+n)(x:bz):bx pm H ((H.up n).put c x) where
 ok:=⟨d.num,a8 d.ah (gj _ _),λb a=>by
  have a:H.next+n<=b:=a;rw[a6 (by omega),r4];exact d.wf b (by omega),λb a=>d.new b (a8 (gj _ _) a)⟩
 next:=gj _ _
 get:=λb a=>by rw[a6 (by omega),r4]
theorem dh.fz{v:Value}{an:List Nat}(h:dh H v an){k:List Value->Nat->bf}:(fz 1 v k).run pm H=(k (cq an) an.length).run pm H:=by
 obtain⟨_,⟨rfl,rfl⟩ | ⟨_,_,_,_,_,rfl,a,b,c,d,_⟩⟩:=h
 ·rfl
 ·simp only[Dam.fz,bf.run,a,b.row,Nat.mul_one,bB,cJ];rw[hd d];simp only[cond_true,c]
theorem dh.parts{v:Value}{an:List Nat}(h:dh H v an)(aP:an≠[]):∃c off cap y a,v=.slice (some ⟨c,off,none⟩) an.length cap/\H.get c=some y/\rowOf y=some a/\bB a off an.length=some (cq an):=by
 obtain⟨_,⟨rfl,rfl⟩ | ⟨c,off,cap,y,a,rfl,b,d,e,f,_⟩⟩:=h
 ·exact absurd rfl aP
 ·refine⟨c,off,cap,y,a,rfl,b,d.row,?_⟩;simp only[bB,cJ];rw[hd f];simp only[cond_true,e]
end
theorem ab9(an:List Nat):(cq an).all dd=true:=by simp[cq]
theorem U1{pm:Perm}{c off len cap bytes n:Nat}{cs:List Value}{new:List Value}{z:cM}(h:H.get c=some (.cells cs z))(a:pm.may c=true)(b:new.length=n)(aP:n≠0)(d:len+n<=cap)(aY:off+len+n<=cs.length)(e:new.all dd=true):
 (fj 1 bytes (.slice (some ⟨c,off,none⟩) len cap) new n).run pm H=some (.slice (some ⟨c,off,none⟩) (len+n) cap,H.put c (.cells (cs.take (off+len)++(new++cs.drop (off+len+n))) z)):=by
 subst b;simp only[fj,dc,cJ,aP,d,decide_false,decide_true,cond_false,cond_true,putRow,bf.run,h,e,setCells,Nat.mul_one];rw[hd aY];simp only[cond_true,bf.run,a]
theorem U2{pm:Perm}{c off len cap bytes n:Nat}{cs:List Value}{new:List Value}{z:cM}(h:H.get c=some (.cells cs z))(a:pm.may c=true)(b:new.length=n)(aP:n≠0)(d:len+n<=cap)(aY:off+len+n<=cs.length)(e:new.all dd=true):
 (fj 1 bytes (.slice (some ⟨c,off,none⟩) len cap) new n).runT pm H=some (.slice (some ⟨c,off,none⟩) (len+n) cap,H.put c (.cells (cs.take (off+len)++(new++cs.drop (off+len+n))) z),[c],[c]):=by
 subst b;simp only[fj,dc,cJ,aP,d,decide_false,decide_true,cond_false,cond_true,putRow,bf.runT,h,e,setCells,Nat.mul_one];rw[hd aY];simp only[cond_true,bf.runT,a]
theorem Vl{x:Nat}(h:x≠0):0<aj x:=by unfold aj;rw[aw h];omega
theorem Vk{x k:Nat}(h:x<2^k):aj x<=k:=by
 by_cases a:x=0
 ·subst a;simp[aj]
 ·have b:=Bj a;have:=(rS (by omega:1<2)).1 (dk b h);omega
section
variable[bL]
structure jo(pm:Perm)(c:Nat)(H ab:ae):Prop where
 ok:ck pm ab
 next:H.next<=ab.next
 get:∀x,x<H.next->x≠c->ab.get x=H.get x
theorem jo.refl(a:ck pm H)(c:Nat):jo pm c H H:=⟨a,bc _,λ_ _ _=>rfl⟩
theorem jo.u{c:Nat}{a:ae}(h:jo pm c H ab)(g:bx pm ab a):jo pm c H a:=⟨g.ok,a8 h.next g.next,λx a b=>(g.get x (fK a h.next)).trans (h.get x a b)⟩
theorem jo.only{c:Nat}{a:ae}(h:jo pm c H ab)(g:iz pm c ab a):jo pm c H a:=⟨g.ok,a8 h.next g.next,λx b a=>(g.get x a).trans (h.get x b a)⟩
theorem jo.put{c d:Nat}(h:jo pm c H ab){y:bz}(e:ab.get d=some y)(f:d=c∨H.next<=d)(x:bz):jo pm c H (ab.put d x) where
 ok:=⟨h.ok.num,h.ok.ah,λb a=>by have a:ab.next<=b:=a;have:=h.ok.lt e;rw[a6 (by omega)];exact h.ok.wf b a,λb a=>h.ok.new b a⟩
 next:=h.next
 get:=λz c d=>by rw[a6 (by omega)];exact h.get z c d
theorem jo.to{c:Nat}{ai:ae}(h:jo pm c H ab)(k:bx pm ai H)(a:ai.next<=c):bx pm ai ab:=⟨h.ok,a8 k.next h.next,λb a=>(h.get b (fK a k.next) (by omega)).trans (k.get b a)⟩
theorem pC.PE{ev c:Nat}{v:Value}{an:List Nat}(h:pC ev H v an)(b:ck pm H)(d:ev≠c)(k:jo pm c H ab):pC ev ab v an:=by
 obtain⟨c,e,f,y,g,i,a,j⟩:=h;exact⟨c,e,f,y,g,i,(k.get ev (b.lt a) d).trans a,j⟩
end
theorem gU{W:List Nat}{L:Nat}(a:L<W.length)(h:dg W L=0):cq W=(cq W).take L++([.int .u32 0]++(cq W).drop (L+1)):=by
 have:W.set L 0=W:=by
  apply n4;intro i;by_cases b:L=i
  ·subst b;simp[dg,a]at h;simp[a,h]
  ·simp[b]
 have b:=setCells_one (cs:=cq W) (i:=L) (v:=.int .u32 ((0:Nat):Int)) (by simpa using a);rw[qE,this]at b;have a:setCells (cq W) L [.int .u32 0]=some (cq W):=b;simp only[setCells,cJ,List.length_singleton]at a;rw[hd (by rw[qD];omega)]at a;simp only[cond_true,aJ]at a;exact a.symm
theorem Y9{w:List Nat}{k:Nat}(h:k<=w.length):aN (w.take k)=bt w k:=by
 have a:=CH (w.take k) (w.drop k);rw[zM]at a;have b:=wU w k;rw[l6,tj h]at a;unfold c1 at b;omega
theorem W0(p w:List Nat):c1 (p++w) p.length=aN w:=by simp[c1]
section
variable[bL]
theorem Ub(A:dQ X){ai:ae}(Y:bx pm ai H){c ev n m d cR:Nat}(ak:ai.next<=c)(ao:bL.s c){W a b cC:List Nat}{dB:Value}(Z:H.get c=some (.cells (cq W) (.n 1)))(aq:W.length=n+2)(aI:d=n+2)(hW:dK W)(ar:pm.may c=true)
 (B:pC ev H dB cC) (aa:ev≠c) (x:cC.length=m+2) (au:strip cC=cC) (I:aN W=aN a*2^cR) (C:aN cC=aN b*2^cR) (aI:m+2<=n) (hn:n<268435456) (ad:aN b≠0) (av:4294967296^(m+1)<=aN b)
 (aI:cR<32) (aw:aN a<4294967296^n) {l:bn} {v0:Value} (_:aF 0 l=some v0) (J:aF 7 l=some dB) (ax:aF 10 l=some (.int .i64 (cR:Int))) (ae:aF 11 l=some (.slice (some ⟨c,0,none⟩) (n+1) d)):wp X pm (.code wP) l H [] (ra pm ai a b):=by
 have g:=Y.ok;obtain⟨af,ag,_,_,rfl,_,_,_⟩:=B.2;rw[x]at J B;have ay:c<H.next:=g.lt Z;obtain⟨K,_⟩:∃K,K=n+1-(m+2):=⟨_,rfl⟩;have x1:wr .i64 ((n:Int)+1-((m:Int)+2))=(K:Int):=by rw[cE];omega
 obtain⟨V,e⟩:∃V,V=aN cC:=⟨_,rfl⟩;have ah:0<V:=by rw[e,C];exact tm (qo ad) (jF _)
 have t:=B.1;have L:=jF cR;have aj:V<4294967296^(m+2):=by rw[e,<-x];exact oT t
 have aI:4294967296^(m+1)<=V:=by
  have:=wT au (by rintro rfl;simp at x);rwa [x,show m+2-1=m+1 by omega,<-e]at this
 have az:dg cC (m+2-1)≠0:=by
  intro h;have a:aN cC=bt cC (m+1):=by rw[<-iO (an:=cC) (i:=m+1+1),bt];simp at h;simp[h]
  have:=l' t (m+1);omega
 simp[-wQ,J,ae,x1];rw[nO g];simp[-wQ];have kq:jo pm c H (H.new (.cells (times [.int .u32 0] K) (.n 1))):=(jo.refl g c).u ((bx.refl g).new _);have au:wr .i64 ((K:Int)-1)=(K:Int)-1:=cE
 refine fh.of (λt:Nat×List Nat×List Nat=>[(7,.slice (some ⟨ev,af,none⟩) (m+2) ag),(10,.int .i64 (cR:Int)),(11,.slice (some ⟨c,0,none⟩) (n+1) d),(12,.slice (some ⟨H.next,0,none⟩) K K),(13,.int .i64 ((t.1:Int)-1))])
  (λt ab=>jo pm c H ab/\ab.get c=some (.cells (cq t.2.1) (.n 1))/\ab.get H.next=some (.cells (cq t.2.2) (.n 1))/\dK t.2.1/\t.2.1.length=n+2/\dK t.2.2/\t.2.2.length=K/\t.1<=K/\
   c1 t.2.1 t.1<V/\aN W=aN t.2.1+c1 t.2.2 t.1*(4294967296^t.1*V)) (λt=>t.1) (K,W,List.replicate K 0) (by simp[J,ax,ae,au]) ⟨kq,by rw[sY ay];exact Z,by rw[xQ];simp,hW,aq,Qi K,by simp,by simp,?_,?_⟩ ?_
 ·show c1 W K<V;rw[zd W K hW,I];refine ts ?_;refine fK (C9 aw L) ?_;have a:4294967296^n=4294967296^K*4294967296^(m+1):=by rw[<-hG];congr 1;omega
  rw[a,l3];refine nZ _ ?_;rw[e,C];exact fV _ av
 ·show aN W=aN W+c1 (List.replicate K 0) K*_;rw[uE (h:=by simp)];simp
 rintro⟨k,w,f⟩ M ⟨q,D,N,r,o,O,E,t,y,s⟩;simp only at D N r o O E t y s
 cases k with
 | zero=>
   simp;rw[s0]at y;rw[s0]at s;simp only[Nat.pow_zero,Nat.one_mul]at s;have l:aN f=aN a/aN b:=by
    have:aN W/V=aN f:=by
     rw[s,Nat.add_mul_div_right _ _ ah,u4 y];omega
    rw[<-this,I,e,C,Nat.mul_div_mul_right _ _ L]
   have p:aN w=aN a%aN b*2^cR:=by
    have:aN W%V=aN w:=by rw[s,Nat.add_mul_mod_self_right,n1 y]
    rw[<-this,I,e,C,Nat.mul_mod_mul_right]
   have u:aN (w.take (n+1))=aN w:=by
    rw[Y9 (by omega)];have a:=wU w (n+1);have b:c1 w (n+1)=0:=by
     rw[zd w _ r];refine u4 ?_;have:4294967296^(m+2)<=4294967296^(n+1):=hX (by omega) (by omega);exact fK (Nat.lt_trans y aj) this
    rw[b,Nat.mul_zero,Nat.add_zero]at a;exact a.symm
   have v:dh M (.slice (some ⟨c,0,none⟩) (n+1) d) (w.take (n+1)):=⟨λt y=>r t (tt y),.inr ⟨c,0,d,_,_,by simp[o],D,.inl rfl,by simp[cq,List.map_take,o],by simp[o],by simp[o];omega,ao⟩⟩;refine al.of (mK A.ek q.ok (sS N O E (g.new _ (bc _))) (by omega)) ?_;rintro t _ ⟨h,z⟩;simp;refine al.of (mK A.ek h.ok (v.u q.ok h) (by simp;omega)) ?_;rintro _ _ ⟨i,v⟩;simp;refine al.of (OA A i.ok v (dk (JC _) (by simp;omega)) (k:=cR) (by omega)) ?_;rintro v _ ⟨j,F,G,_,H,_⟩;simp[ra,ad];refine⟨(q.to Y ak).trans (h.trans (i.trans j)),t,v,⟨rfl,rfl⟩,?_,?_⟩
   ·rw[<-l];exact(z.u h.ok (i.trans j)).nat
   ·have:aN a%aN b=aN F:=by rw[H,mJ,u,p,Nat.mul_div_cancel _ L]
    rw[this];exact G.nat
 | succ k=>
   obtain⟨h,_⟩:∃h,h=k+(m+2)+1:=⟨_,rfl⟩;have y1:wr .i64 (wr .i64 ((k:Int)+((m:Int)+2))+1)=(h:Int):=by rw[cE (n:=(k:Int)+((m:Int)+2)),cE];omega
   have P:=DM (pm:=pm) (H:=M) (cn:=1) (l:=k) (h:=h) (m:=d) (cap:=d) (off:=0) D (.inl rfl) (by omega) (by omega) (bc _);simp only[Nat.zero_add,Nat.mul_one]at P;have t:h-k=m+2+1:=by omega
   rw[t]at P;simp[-wQ,y1,P];obtain⟨u,F⟩:∃u,u=w.drop k:=⟨_,rfl⟩;have X:w.take k++u=w:=by rw[F];exact zM k w
   have z:(w.take k).length=k:=by simp[o];omega
   have t:dK u:=by rw[F];exact λG R=>r G (Dd R)
   have an:u.length=n+2-k:=by rw[F,Dc,o]
   have o:aN u=dg w k+4294967296*c1 w (k+1):=by rw[F];exact mA w k
   have o:=r.dg k;have S:aN u<4294967296*V:=by omega
   have T:c1 u (m+2+1)=0:=by
    rw[zd u _ t];refine u4 (fK S ?_);rw[eB,eZ];exact fV _ (I5 aj)
   have o:bt u (m+2+1)=aN u:=by
    have:=wU u (m+2+1);rw[T,Nat.mul_zero,Nat.add_zero]at this;exact this.symm
   have aA:H.next≠c:=by omega
   have y:=abr A (pm:=pm) (H:=M) q.ok (c:=c) (ev:=ev) (j:=k) (n:=m+2) (cap:=d-k) ar aa (p:=w.take k) (w:=u) (b:=cC) (dB:=.slice (some ⟨ev,af,none⟩) (m+2) ag) z (by rw[X];exact D) t (B.PE g aa q) x.symm (by omega) (by omega) (by omega) (by omega) az (by rw[o,<-e];exact S);rw[o,<-e]at y;refine al.of y ?_;rintro _ H2 ⟨rfl,hO,a,aB,aC,aD,aE,aF⟩;obtain⟨Q,U⟩:∃Q,Q=aN u/V:=⟨_,rfl⟩;have aG:Q<4294967296:=by rw[U];exact ts (by rw[eZ];exact S)
   rw[<-U];have ab:H2.get H.next=some (.cells (cq f) (.n 1)):=(hO.get _ aA).trans N;have d:=setCells_one (cs:=cq f) (i:=k) (v:=.int .u32 (Q:Int)) (by rw[qD,E];omega);rw[qE]at d;have e:pm.may H.next=true:=g.may (bc _);simp[-wQ,show k<K by omega,ab,d,e];have aH:c1 a (m+2+1)=0:=by
    have:a.drop (m+2+1)=u.drop (m+2+1):=by
     apply n4;intro i;have b:=aF (m+2+1+i) (by omega);simp only[jZ];unfold dg at b
     rcases xk (m+2+1+i) u.length with c | c
     ·have d:m+2+1+i<a.length:=by omega
      simp only[en c,en d,je]at b|-;rw[b]
     ·rw[hc c,hc (by omega)]
    unfold c1 at T|-;rw[this];exact T
   have ai:aN a=aN u%V:=by
    have:=wU a (m+2+1);rw[aH,Nat.mul_zero,Nat.add_zero,aE]at this;exact this
   have d:k<K:=by omega
   refine .of (k,w.take k++a,f.set k Q) (by simp) (by simp;rw[cE]) ⟨(q.only hO).put ab (.inr (bc _)) _,?_,by simp,?_,?_,O.set k aG,by simp[E],by simp;omega,?_,?_⟩
   ·show(H2.put H.next _).get c=_;rw[a6 (by omega)];exact aB
   ·intro G R
    rcases fc.1 R with h | h
    ·exact r G (tt h)
    ·exact aC G h
   ·show(w.take k++a).length=n+2;rw[o4,z,aD,an];omega
   ·show c1 (w.take k++a) k<V;have:=W0 (w.take k) a;rw[z]at this;rw[this,ai];exact o1 _ ah
   ·show aN W=aN (w.take k++a)+c1 (f.set k Q) k*(4294967296^k*V);rw[s,CH,z,ai,mA (f.set k Q) k,yW (by omega),Po (by omega),eB];have a:aN w=aN (w.take k)+4294967296^k*aN u:=by
     have:=CH (w.take k) u;rw[X,z]at this;exact this
    have b:V*Q+aN u%V=aN u:=by rw[U];exact xi _ _
    rw[a];generalize aN u%V=R at*
    rw[<-b];generalize 4294967296^k=P;generalize c1 f (k+1)=Z;generalize aN (w.take k)=T;grind
theorem Ud(y:dQ X){ai:ae}(k:bx pm ai H){c ev iA n m g cR f:Nat}(o:ai.next<=c)(A:bL.s c){W a b cC:List Nat}{dB:Value}{uc:bz}{B:Option Addr}{C:Nat}(p:H.get c=some (.cells (cq W) (.n 1)))(D:W.length=n+2)(E:g=n+2)(F:dK W)
 (q:H.get iA=some uc) (r:rowOf uc=some [.slice B n C]) (G:iA≠c) (s:pC ev H dB cC) (t:ev≠c) (j:cC.length=m+2) (I:strip cC=cC) (J:aN W=aN a*2^cR) (K:aN cC=aN b*2^cR) (M:m+2<=n) (N:n<268435456) (O:aN b≠0) (P:4294967296^(m+1)<=aN b)
 (Q:f<=n+1) (R:∀i,f<=i->dg W i=0) (u:pm.may c=true) (S:cR<32) (T:aN a<4294967296^n)
 {l:bn} (U:aF 0 l=some (.pointer (some ⟨iA,0,none⟩))) (v:aF 7 l=some dB) (V:aF 10 l=some (.int .i64 (cR:Int))) (Y:aF 11 l=some (.slice (some ⟨c,0,none⟩) f g)):wp X pm (.code rA) l H [] (ra pm ai a b):=by
 have e:=k.ok;obtain⟨Z,aa,_,_,rfl,_,_,_⟩:=s.2;rw[j]at v;have B:c<H.next:=e.lt p;simp[-wP]
 refine fh.of (λL:Nat=>[(0,.pointer (some ⟨iA,0,none⟩)),(7,.slice (some ⟨ev,Z,none⟩) (m+2) aa),(10,.int .i64 (cR:Int)),(11,.slice (some ⟨c,0,none⟩) L g)])
  (λL ab=>jo pm c H ab/\ab.get c=some (.cells (cq W) (.n 1))/\f<=L/\L<=n+1) (λL=>n+1-L) f (by simp[U,v,V,Y]) ⟨jo.refl e c,p,bc _,Q⟩ ?_
 rintro L f ⟨d,h,ad,_⟩;have w:=(d.get iA (e.lt q) G).trans q;by_cases x:L<=n
 ·have i:f.get f.next=none:=d.ok.wf _ (bc _);have a:c<f.next:=d.ok.lt h;have b:=U1 (H:=f.new (.cells [.int .u32 0] (.n 1))) (bytes:=4) (off:=0) (len:=L) (cap:=g) (n:=1) (c:=c) (pm:=pm) (cs:=cq W) (new:=[.int .u32 0]) (z:=.n 1) (by rw[sY a];exact h) u rfl (by omega) (by omega) (by rw[qD];omega) rfl;rw[Nat.zero_add,<-gU (by omega) (R L ad)]at b;have f:((L:Int)<=(n:Int))=True:=by simp;exact x
  simp[-wP,w,r,x,e.make,e.pick,bB,b];refine⟨.of (L+1) (by simp;omega) (by simp) ⟨?_,by simp,by omega,by omega⟩,λ_=>by omega⟩;exact(d.u ((bx.refl d.ok).new _)).put (by rw[sY a];exact h) (.inl rfl) _
 ·obtain rfl:L=n+1:=by omega
  simp[-wP,w,r];refine⟨λ_=>by omega,λ_=>?_⟩;exact Ub y (d.to k o) o A h D E F u (s.PE e t d) t j I J K M N O P S T (v0:=.pointer (some ⟨iA,0,none⟩)) (by simp) (by simp[j]) (by simp) (by simp)
theorem dh.gL{v:Value}{an:List Nat}(h:dh H v an)(aP:an≠[]):∃ev,pC ev H v an:=by
 obtain⟨a,⟨rfl,rfl⟩ | ⟨c,b,d,y,e,rfl,f,g,i,_,_⟩⟩:=h
 ·exact absurd rfl aP
 ·exact⟨c,a,b,d,y,e,rfl,f,g.row,λ_ a=>by rw[dh.cell i a];simp[dg,a]⟩
end
theorem QY{an:List Nat}(h:∀d∈an,d=0):aN an=0:=by
 induction an with
 | nil=>rfl
 | cons d an ih=>simp[aN,h d (.head _),ih λe a=>h e (.tail _ a)]
section
variable[bL]
theorem Ue(G:dQ X)(V:ck pm H){v w:Value}{a b:List Nat}(aI:eT H v a)(hb:eT H w b)(ak:strip a=a)(A:strip b=b)(la:a.length<268435456)(lb:b.length<268435456)(ak:2<=b.length)(aO:aN b<=aN a)
 {l:bn} {bb:Option Addr} {ak:Nat} (ao:dh H (.slice bb b.length ak) b) (Y:aF 0 l=some v) (l1:aF 1 l=some w) (l7:aF 7 l=some (.slice bb b.length ak)):wp X pm (.code p2) l H [] (ra pm H a b):=by
 obtain⟨o,q,aP⟩:=pm;obtain rfl:aP=none:=V.num;have Z:=aI.Q;have aa:=hb.Q;obtain⟨m,t⟩:∃m,b.length=m+2:=⟨b.length-2,by omega⟩;obtain⟨n,y⟩:∃n,n=a.length:=⟨_,rfl⟩;rw[<-y]at la;obtain⟨ev,_,_,_,rfl,f1,f2,f3⟩:=ao.at rfl (i:=m+1) (by omega);rw[t]at l7 ao;have aQ:aN b≠0:=λh=>by have:=(CI A).1 h;rw[this]at t;simp at t
 have ak:b.length<=n:=by rw[y];exact s5 A (dk aO (oT Z))
 have d0:=aa.dg (m+1);have aq:aN b=bt b (m+1)+dg b (m+1)*4294967296^(m+1):=by rw[<-iO (an:=b) (i:=m+1+1),bt]
 have ak:=l' aa (m+1);have aR:dg b (m+1)≠0:=by
  intro a;rw[a,Nat.zero_mul,Nat.add_zero]at aq;have:=s5 A (k:=m+1) (by omega);omega
 obtain⟨L,I⟩:∃L,L=aj (dg b (m+1)):=⟨_,rfl⟩;have ak:L<=32:=by rw[I];exact Vk (by simpa using d0)
 have ak:0<L:=by rw[I];exact Vl aR
 have aS:dg b (m+1)<2^L:=by rw[I];exact Ff _
 have x1:wr .i64 ((m:Int)+2-1)=((m+1:Nat):Int):=by rw[cE];omega
 have ak:wr .i64 ((m:Int)+1)=((m+1:Nat):Int):=by rw[cE];omega
 simp[-rA,l7,x1,f1,f2,f3,aa.r5];refine al.of (E9 G (x:=dg b (m+1)) (by omega)) ?_;rintro _ H ⟨rfl,rfl⟩;rw[<-I];obtain⟨f,_⟩:∃I,I=32-L:=⟨_,rfl⟩;have I:wr .i64 (32-(L:Int))=(f:Int):=by rw[cE];omega
 simp[-rA,l1,I];refine al.of (D8 G V hb (by omega) (k:=f) (by omega)) ?_;rintro _ d ⟨g,I,ar,aT,aU,_⟩;obtain⟨cC,J⟩:∃z,z=strip I:=⟨_,rfl⟩;rw[<-J]at ar;have au:strip cC=cC:=by rw[J];exact xK _
 have aV:dK cC:=by rw[J];exact Qj aT
 have av:aN cC=aN b*2^f:=by rw[J,mJ,aU]
 have I:2^L*2^f=4294967296:=by rw[<-hG,show L+f=32 by omega]
 have B:=jF f;have K:cC.length=m+2:=by
  apply Nat.le_antisymm
  ·refine s5 au ?_;have a:4294967296^(m+2)=4294967296^(m+1)*2^L*2^f:=by rw[eB,l3,I]
   rw[av,a];refine C9 ?_ B;rw[aq,eZ (4294967296^(m+1))];have:(dg b (m+1)+1)*4294967296^(m+1)<=2^L*4294967296^(m+1):=fV _ aS;rw[rP]at this;omega
  ·rcases xk cC.length (m+2) with h | h
   ·exfalso;have c:=oT aV;have c:4294967296^cC.length<=4294967296^(m+1):=hX (by omega) (by omega);have a:=wT A (by rintro rfl;simp at t);rw[t,show m+2-1=m+1 by omega]at a;have a:aN b*1<=aN b*2^f:=nZ _ B;omega
   ·exact h
 obtain⟨_,_,aw,rfl,aW,aX,aY⟩:=ar.block (by intro h;rw[h]at K;simp at K);have ax:=aI.u V g;have ay:a≠[]:=by rintro rfl;simp at y;omega
 obtain⟨iA,uc,_,rfl,C,M,az⟩:=ax.block ay;obtain⟨_,_,_,_,_,rfl,_,_,_⟩:=az.parts ay;rw[<-y]at az M;simp[-rA,aW,aX];have aA:∀k,d.get (d.next+k)=none:=λk=>g.ok.wf _ (by omega);have aZ:d.get d.next=none:=g.ok.wf _ (by omega);have ab:iA<d.next:=g.ok.lt C;have x3:wr .i64 ((n:Int)+2)=((n+2:Nat):Int):=by rw[cE];omega
 obtain⟨p,aB⟩:∃p,p=n+2:=⟨_,rfl⟩;rw[<-aB]at x3;have a1:=Qz (H:=d.up 15) (z:=[.int .u32 0]) (bytes:=4) (l:=0) (c:=p) (ah:=o) (b:=d.next+6) (fJ:=q) (by omega) (by omega) (by omega);obtain⟨c,_⟩:∃c,c=d.next+6:=⟨_,rfl⟩;refine cx.of g.ok.ah rfl ?_;have r:bx ⟨o,q,none⟩ d ((d.up 15).put (d.next+6) (.cells (times [.int .u32 0] p) (.n 1))):=bx.aah g.ok (by omega) (by omega) _;simp[-rA,b8,Y,C,M,aA,aZ,x3,a1,ae.eP];obtain⟨s,N⟩:∃s,s=(d.up 15).put (d.next+6) (.cells (times [.int .u32 0] p) (.n 1)):=⟨_,rfl⟩;have I:s.next=d.next+15:=by rw[N];rfl
 have a7:s.get (d.next+6)=some (.cells (times [.int .u32 0] p) (.n 1)):=by rw[N];simp
 rw[<-N]at r|-;have aC:∀k,k≠6->s.get (d.next+k)=none:=λk hk=>by rw[N,a6 (by omega)];exact aA k
 have a8:=ax.u g.ok r;refine d'.of (aC 9 (by omega)) (by simp) (by simp) rfl (D8 G (pm:=⟨s.next,_,none⟩) ⟨rfl,bc _,r.ok.wf,r.ok.new⟩ a8 (by omega) (k:=f) (by omega)) ?_;rintro _ u ⟨D,I,aD,a_,ba,_⟩;obtain⟨e,O⟩:∃z,z=strip I:=⟨_,rfl⟩;rw[<-O]at aD;have I:strip e=e:=by rw[O];exact xK _
 have bd:dK e:=by rw[O];exact Qj a_
 have P:aN e=aN a*2^f:=by rw[O,mJ,ba]
 have bf:e.length<=n+1:=by
  refine s5 I ?_;rw[P,eB];have a:=oT Z;rw[<-y]at a;have b:2^f<=4294967296:=hX (n:=2) (i:=f) (j:=32) (by omega) (by omega);exact fK (C9 a B) (nZ _ b)
 have ad:e≠[]:=by
  intro b;rw[b]at P;have b:=tm (show 0<aN a by omega) B;simp[aN]at P;omega
 obtain⟨rb,rx,_,rfl,Q,E,bg⟩:=aD.block ad;obtain⟨dc,_,_,dy,_,rfl,R,af,aE⟩:=bg.parts ad;have bh:bx ⟨o,q,none⟩ s u:=D.perm rfl r.ok.ah;have aG:∀k,k≠6->k<15->u.get (d.next+k)=none:=λk hk _=>(D.get _ (by omega)).trans (aC k hk);have S:u.get (d.next+6)=some (.cells (times [.int .u32 0] p) (.n 1)):=(D.get _ (by omega)).trans a7;have aH:u.get iA=some uc:=(D.get _ (by omega)).trans ((r.get iA ab).trans C);have bj:s.get iA=some uc:=(r.get iA ab).trans C;have s:Perm.may ⟨o,q,some (d.next+13)⟩ (d.next+6)=true:=by
  unfold Perm.may;have:=g.ok.ah;have a:o<=d.next+6:=by simp at this;omega
  simp[a]
 have I:0<e.length:=rT.2 ad;have ag:=U2 (bytes:=4) (off:=0) (len:=0) (cap:=p) (pm:=⟨o,q,some (d.next+13)⟩) S s (qD e) (by omega) (by omega) (by rw[xQ,qD];simp;omega) (ab9 e);simp only[Nat.zero_add,List.take_zero,zV]at ag;obtain⟨W,F⟩:∃W,W=e++List.replicate (p-e.length) 0:=⟨_,rfl⟩;have s:cq e++List.drop e.length (times [.int .u32 0] p)=cq W:=by
  rw[F,xQ];simp[cq]
 rw[s]at ag;have aJ:rb≠d.next+6:=by rintro rfl;rw[S]at Q;cases Q;rw[Sn]at E;rw[xQ]at E;cases p with | zero=>simp[cq]at E | succ _=>simp[cq,List.replicate_succ]at E
 have T:dj ⟨o,q,some (d.next+9)⟩ [.pointer (some ⟨iA,0,none⟩),.int .i64 (f:Int)]=[]∨dj ⟨o,q,some (d.next+9)⟩ [.pointer (some ⟨iA,0,none⟩),.int .i64 (f:Int)]=[iA]:=by
  simp only[dj];cases Perm.may ⟨o,q,some (d.next+9)⟩ iA<;>simp
 have ai:iA≠d.next+6:=by omega
 have bk:∀x,c6 x []=true:=λx=>by simp[c6]
 have bl:∀x,c6 [] x=true:=λx=>rfl;have bm:c6 [d.next+6] [iA]=true:=by simp[c6];omega
 have bo:c6 [d.next+6] [rb]=true:=by simp[c6];exact λh=>aJ h.symm
 have aK:∀x s,u.get x=some s->x≠d.next+6->(x<d.next∨d.next+15<=x):=by
  intro x s b _
  rcases xk x d.next with h | h
  ·exact .inl h
  ·rcases xk x (d.next+15) with a | a
   ·exfalso;have:=aG (x-d.next) (by omega) (by omega);rw[show d.next+(x-d.next)=x by omega,b]at this;cases this
   ·exact .inr a
 have bp:=aK rb rx Q aJ;have bq:dc≠d.next+6:=by
  rintro rfl;rw[S]at R;cases R;rw[Sn,xQ]at af;cases af;obtain⟨_,i⟩:=y' aE;have:∀b∈e,b=0:=by
   intro b a;have c:Value.int .u32 (b:Int)∈cq e:=gl.2 ⟨b,a,rfl⟩;rw[i]at c;have b:=Dd (tt c);obtain⟨_,i,a⟩:=gl.1 b;rw[Da i]at a;simp only[Value.int.injEq,true_and]at a;omega
  have b:=QY this;have c:=tm (show 0<aN a by omega) B;omega
 have br:=aK dc dy R bq;obtain⟨U,aL⟩:=aY.gL (by rintro rfl;simp at K);have bs:U<d.next:=by obtain⟨_,_,_,_,_,_,h,_⟩:=aL;exact g.ok.lt h
 have s:bx ⟨o,q,none⟩ H (u.put (d.next+6) (.cells (cq W) (.n 1))):=((g.trans r).trans bh).put (by have:=g.next;omega) S _;have B:aN W=aN e:=by
  rw[F,CH,QY (an:=List.replicate _ 0) λ_ a=>Da a];simp
 have aM:∀l:bn,aF 0 l=some (.pointer (some ⟨iA,0,none⟩))->aF 7 l=some aw->aF 10 l=some (.int .i64 (f:Int))->aF 11 l=some (.slice (some ⟨d.next+6,0,none⟩) e.length p)->
  wp X ⟨o,q,none⟩ (.code rA) l (u.put (d.next+6) (.cells (cq W) (.n 1))) [] (ra ⟨o,q,none⟩ H a b):=by
  intro _ e f j k;refine Ud G s (c:=d.next+6) (ev:=U) (iA:=iA) (n:=n) (m:=m) (W:=W) (cC:=cC) (dB:=aw) (by have:=g.next;omega) (g.ok.new _ (by omega)) (by simp) (by rw[F];simp;omega) aB ?_ (uc:=uc) (by rw[a6 ai];exact aH) M ai ?_ (by omega) K au (by rw[B,P]) av (by omega) la aQ ?_ bf ?_ ?_ (by omega) ?_ e f j k
  ·intro b a;rw[F]at a
   rcases fc.1 a with h | h
   ·exact bd b h
   ·rw[Da h];omega
  ·obtain⟨a,b,c,e,f,h,i,j⟩:=aL;exact⟨a,b,c,e,f,h,by rw[a6 (by omega),D.get U (by omega),r.get U bs];exact i,j⟩
  ·have:=wT A (by rintro rfl;simp at t);rwa [t,show m+2-1=m+1 by omega]at this
  ·intro i a;rw[F];simp only[dg];rw[iq a,xd];split<;>rfl
  ·have:=g.ok.ah;have a:o<=d.next+6:=by simp at this;omega
   unfold Perm.may;simp[a]
  ·rw[y];exact oT Z
 rcases T with T | T<;>simp[-rA,aG,Q,E,R,af,aE,ag,b3,bZ,T,bk,bl,bm,bo,ae.eP,DR,tB,t',ft,C,M,bj,aH,ai,ni,yL,ab,bp,br]
 ·refine aM _ ?_ ?_ ?_ ?_<;>simp[Y]
 ·refine aM _ ?_ ?_ ?_ ?_<;>simp[Y]
theorem Mx(c:dQ X)(d:ck pm H){v w:Value}{a b:List Nat}(aI:eT H v a)(g:eT H w b)(G:strip a=a)(z:strip b=b)(I:a.length<268435456)(J:b.length<268435456):
 Call X pm F.mD [v,w] H λr ab=>bx pm H ab/\(aN b=0/\r=.tuple #[.pointer none,.pointer none,.bool false]∨aN b≠0/\∃q m,r=.tuple #[q,m,.bool true]/\cr ab q (aN a/aN b)/\cr ab m (aN a%aN b)):=by
 obtain⟨_,_,K⟩:=pm;obtain rfl:K=none:=d.num;have K:=aI.Q;have A:=g.Q;refine Call.has c.mD rfl ?_;show wp X _ _ _ _ _ (ra _ H a b);simp[-p2];refine al.of (iG c.dx g) ?_;rintro _ H ⟨rfl,n⟩;obtain⟨_,_,rfl⟩:=n.form;simp[-p2];by_cases h:b=[]
 ·subst h;simp[ra,aN];exact bx.refl d
 have o:0<b.length:=rT.2 h;have B:aN b≠0:=λj=>h ((CI z).1 j);simp[-p2,h];refine al.of (AV c aI g (by omega) (by omega)) ?_;rintro _ H ⟨rfl,rfl⟩;simp[-p2];by_cases f:aN a<aN b
 ·have:gJ (aN a) (aN b)=-1:=by simp[gJ,f]
  simp[this];refine al.of (mK c.ek d .nil (by simp)) ?_;rintro e h ⟨a,i⟩;simp;refine al.of (iG c.dx (aI.u d a)) ?_;rintro _ h ⟨rfl,h⟩;simp;refine al.of (mK c.ek a.ok h (by omega)) ?_;rintro h _ ⟨b,m⟩;simp[ra,B];refine⟨a.trans b,e,h,⟨rfl,rfl⟩,?_,?_⟩
  ·rw[u4 f];exact(i.u a.ok b).nat
  ·rw[n1 f];exact m.nat
 have L:(gJ (aN a) (aN b)<0)=False:=by
  unfold gJ;rw[aw f];split<;>simp
 simp[-p2,L];intro _;have l:∀k,H.get (H.next+k)=none:=λk=>d.wf _ (by omega);have M:H.get H.next=none:=d.wf _ (by omega);have N:a≠[]:=by
  rintro rfl;simp[aN]at f;omega
 refine⟨λC=>?_,λC=>?_⟩
 ·obtain⟨p,_,_,rfl,F,O,P⟩:=aI.block N;obtain⟨r,Q,_,_,rfl,m,s,e⟩:=n.at rfl (i:=0) (by omega);have R:p≠r:=by
   rintro rfl;rw[F]at m;cases m;rw[O]at s;cases s;rw[Nat.add_zero]at e
   cases Q with
   | zero=>simp at e;subst e;rcases P with⟨_,⟨j,_⟩ | ⟨_,_,_,_,_,j,_⟩⟩<;>cases j
   | succ _=>simp at e
  have f:=A.dg 0;rw[Nat.add_zero]at e;have S:=A.r5 0;refine cx.of d.ah rfl ?_;simp[-p2,b8,C,m,s,e,S,l,M];refine d'.of (by simp[l]) (by simp) (by simp) rfl (iG c.dx (H:=H.up 12) aI) ?_;rintro _ _ ⟨rfl,T⟩;simp;have o:aN b=dg b 0:=by rw[<-iO (an:=b) (i:=1)];simp[bt]
  refine d'.fixed (by simp[l]) (by simp) (by simp) rfl (S1 c (d.up 12) T (by omega) (y:=dg b 0) (by omega) (by omega)) ?_;rintro _ U ⟨t,q,_,rfl,V,W,_⟩;have e:aN a%dg b 0<dg b 0:=o1 _ (by omega);generalize X:aN a%dg b 0=D at*
  simp;have Y:∀k,k<12->U.get (H.next+k)=none:=λk _=>(t.get _ (by simp;omega)).trans (l k);have Z:r<H.next:=d.lt m;have aa:∀u v,c6 (dj ⟨u,v,some (H.next+5)⟩ [.pointer (some ⟨p,0,none⟩)]) [r]=true:=by
   intro u v;simp only[dj];cases Perm.may ⟨u,v,some (H.next+5)⟩ p<;>simp[c6,R]
  have e:∀l,c6 l []=true:=λl=>by simp[c6]
  simp[-p2,Y,b3,bZ,aa,e,Z];refine al.of (mK c.ek t.ok V (by omega)) ?_;rintro e _ ⟨w,ab⟩;simp;refine al.of (A9 c w.ok (x:=D) (by omega)) ?_;rintro f _ ⟨E,ad⟩;simp[ra,B];refine⟨(((bx.refl d).up 12).trans t).trans (w.trans E),e,f,⟨rfl,rfl⟩,?_,?_⟩
  ·rw[o,<-W];exact(ab.u w.ok E).nat
  ·rw[o,X,<-CG D,mJ];exact ad.nat
 ·exact Ue c d aI g G z I J (by omega) (by omega) n (by simp) (by simp) (by simp)
theorem N9(i:dQ X)(j:ck pm H){x y:Nat}(k:x<18446744073709551616)(l:y<18446744073709551616):
 Call X pm F.p4 [.int .u64 (x:Int),.int .u64 (y:Int)] H λr ab=>bx pm H ab/\r=.int .u64 ((Nat.gcd x y:Nat):Int):=by
 refine Call.has i.p4 rfl ?_;simp;refine fh.of (λs:Nat×Nat=>[(0,.int .u64 (s.1:Int)),(1,.int .u64 (s.2:Int))]) (λs ab=>bx pm H ab/\s.1<18446744073709551616/\s.2<18446744073709551616/\Nat.gcd x y=Nat.gcd s.1 s.2) (λs=>s.2) (x,y) (by simp) ⟨bx.refl j,k,l,rfl⟩ ?_;rintro⟨a,b⟩ _ ⟨c,i,f,d⟩;simp only at i f d;by_cases g:b=0
 ·subst g;simp;exact⟨c,by rw[d,Nat.gcd_zero_right]⟩
 ·have h:=Hb .u64 (a:Int) (b:Int) (by omega);have m:((a:Int)).tmod (b:Int)=((a%b:Nat):Int):=rfl;obtain⟨r,e⟩:∃r,r=a%b:=⟨_,rfl⟩;rw[m,<-e]at h;simp[g];refine cx.yI c.ok rfl rfl rfl ?_;simp[h];have g:r<b:=by rw[e];exact o1 _ (by omega)
  refine .of (b,r) (by simpa using g) (by simp) ⟨c.up _,f,by show r<_;omega,?_⟩;show Nat.gcd x y=Nat.gcd b r;rw[d,e,ql a b,Nat.gcd_rec b a,ql]
end
theorem Za{q:Nat}(z:Nat):Nat.Coprime (2^z) (2*q+1):=by
 apply Nat.Coprime.pow_left;show Nat.gcd 2 (2*q+1)=1;rw[Nat.gcd_rec];have:(2*q+1)%2=1:=by omega
 rw[this];rfl
theorem G0{z p q:Nat}:Nat.gcd (2^z*(2*p+1)) (2*q+1)=Nat.gcd (2*p+1) (2*q+1):=Nat.Coprime.gcd_mul_left_cancel _ (Za z)
theorem gcd_both{a b p q:Nat}:Nat.gcd (2^a*(2*p+1)) (2^b*(2*q+1))=2^min a b*Nat.gcd (2*p+1) (2*q+1):=by
 rcases Nat.le_total a b with h | h
 ·rw[tj h];have e:2^b*(2*q+1)=2^a*(2^(b-a)*(2*q+1)):=by rw[<-l3,<-hG,show a+(b-a)=b by omega]
  rw[e,Nat.gcd_mul_left,ql (2*p+1),G0,ql]
 ·rw[Nat.min_eq_right h];have e:2^a*(2*p+1)=2^b*(2^(a-b)*(2*p+1)):=by rw[<-l3,<-hG,show b+(a-b)=a by omega]
  rw[e,Nat.gcd_mul_left,G0]
section
variable[bL]
theorem cr.out{v:Value}{n:Nat}(h:cr H v n):∃an,eT H v an/\strip an=an/\aN an=n:=h.ex
end
theorem hn{n k:Nat}{an:List Nat}(a:strip an=an)(b:aN an=n)(h:n<4294967296^k):an.length<=k:=s5 a (by rw[b];exact h)
theorem Y'{n z q:Nat}(h:n=2^z*(2*q+1)):n/2^z=2*q+1:=by rw[h,Nat.mul_div_cancel_left _ (jF z)]
section
variable[bL]
theorem HM(b:dQ X)(c:ck pm H){v:Value}{n z q:Nat}{k:Nat}(h:cr H v n)(d:n<4294967296^k)(av:k<1073741824)(e:n=2^z*(2*q+1))(a:z<=34359738368):
 Call X pm F.mF [v,.int .i64 (z:Int)] H λr ab=>bx pm H ab/\cr ab r (2*q+1):=by
 obtain⟨_,f,g,a⟩:=h.out;refine(OA b c f (by have:=hn g a d;omega) (k:=z) (by omega)).mono ?_;rintro r ab ⟨b,c,d,_,f,_⟩;refine⟨b,?_⟩;have:aN c=2*q+1:=by rw[f,a,Y' e]
 rw[<-this];exact d.nat
end
theorem Tx{z y p q:Nat}(h:2^z*(2*p+1)=2^y*(2*q+1)):¬z<y:=by
 intro _;rw[show y=z+(y-z-1+1) by omega,hG,l3]at h;have:=Nat.eq_of_mul_eq_mul_left (jF z) h;rw[eB,eZ (2^_) 2,l3]at this;omega
theorem Ty{z y p q:Nat}(h:2^z*(2*p+1)=2^y*(2*q+1)):z=y/\p=q:=by
 have a:=Tx h;have a:=Tx h.symm;obtain rfl:z=y:=by omega
 have:=Nat.eq_of_mul_eq_mul_left (jF z) h;exact⟨rfl,by omega⟩
theorem aae(k:Nat):(4294967296:Nat)^k=2^(32*k):=by rw[show(4294967296:Nat)=2^32 by rfl,<-qm]
section
variable[bL]
def rE(pm:Perm)(H:ae)(t n:Nat):cl:=λx l ab=>(x=e1.normal∨x=e1.ret)/\∃a,kn l ab [.slot t]=some a/\(bx pm H ab/\cr ab (iw a) n)
theorem aa7(a:dQ X)(W:ck pm H){v w:Value}{n m k:Nat}(hv:cr H v n)(hw:cr H w m)(O:n<4294967296^k)(hm:m<4294967296^k)(av:k<268435456)(ah:n≠0)(ai:m≠0):
 Call X pm F.rC [v,w] H λr ab=>bx pm H ab/\cr ab r (Nat.gcd n m):=by
 obtain⟨_,ha,aG,D⟩:=hv.out;obtain⟨_,hb,aH,E⟩:=hw.out;have la:=hn aG D O;have lb:=hn aH E hm;refine Call.has a.rC rfl ?_;show wp X pm _ _ _ _ (rE pm H 4 (Nat.gcd n m));simp[-mG];refine al.of (yf a ha) ?_;rintro _ H ⟨rfl,G,rfl,_,P⟩;simp[-mG];refine al.of (yf a hb) ?_;rintro _ H ⟨rfl,Q,rfl,_,aj⟩;obtain⟨u,R⟩:∃u,n=2^G*(2*u+1):=by
  rcases P with⟨h,_⟩ | ⟨q,h⟩
  ·exact absurd (D.symm.trans h) ah
  ·exact⟨q,by rw[<-D];exact h⟩
 obtain⟨q,Y⟩:∃q,m=2^Q*(2*q+1):=by
  rcases aj with⟨h,_⟩ | ⟨q,h⟩
  ·exact absurd (E.symm.trans h) ai
  ·exact⟨q,by rw[<-E];exact h⟩
 obtain⟨b,ak⟩:∃z,z=min G Q:=⟨_,rfl⟩;have x1:(if Q<G then(Q:Int) else(G:Int))=(b:Int):=by rw[ak];split<;>omega
 simp[-mG,x1];refine al.of (yf a ha) ?_;rintro _ H ⟨rfl,aI,rfl,aJ,an⟩;obtain⟨_,ao⟩:∃u,n=2^aI*(2*u+1):=by
  rcases an with⟨h,_⟩ | ⟨q,h⟩
  ·exact absurd (D.symm.trans h) ah
  ·exact⟨q,by rw[<-D];exact h⟩
 simp[-mG];refine al.of (HM a W hv O (by omega) ao aJ) ?_;rintro v1 D ⟨I,aK⟩;simp[-mG];refine al.of (yf a (hb.u W I)) ?_;rintro _ D ⟨rfl,aL,rfl,aM,aq⟩;obtain⟨i,j⟩:∃q,m=2^aL*(2*q+1):=by
  rcases aq with⟨h,_⟩ | ⟨q,h⟩
  ·exact absurd (E.symm.trans h) ai
  ·exact⟨q,by rw[<-E];exact h⟩
 simp[-mG];refine al.of (HM a I.ok (hw.u W I) hm (by omega) j aM) ?_;rintro w1 _ ⟨k2,aO⟩;obtain⟨rfl,rfl⟩:=Ty (R.symm.trans ao);obtain⟨rfl,rfl⟩:=Ty (Y.symm.trans j);clear P aj an aq;have D:2*u+1<=n:=by rw[R];exact xq _ (jF _)
 have D:b<8589934592:=by
  have d:2^G<=n:=by rw[R];exact xp _ (by omega)
  rw[aae]at O;have:=(rS (by omega:1<2)).1 (dk d O);omega
 have D:2*q+1<=m:=by rw[Y];exact xq _ (jF _)
 simp[-mG]
 refine fh.of (λs:Value×Value×Nat×Nat=>[(0,s.1),(1,s.2.1),(5,.int .i64 (b:Int))])
  (λs ab=>bx pm H ab/\cr ab s.1 (2*s.2.2.1+1)/\cr ab s.2.1 (2*s.2.2.2+1)/\Nat.gcd n m=2^b*Nat.gcd (2*s.2.2.1+1) (2*s.2.2.2+1)/\2*s.2.2.1+1<4294967296^k/\2*s.2.2.2+1<4294967296^k) (λs=>s.2.2.1+s.2.2.2) (v1,w1,u,q) (by simp)
  ⟨I.trans k2,aK.u I.ok k2,aO,by simp only;rw[R,Y,gcd_both,ak],by simp only;omega,by simp only;omega⟩ ?_
 rintro⟨v,w,x,y⟩ S ⟨J,l,e,c,o,f⟩;simp only at l e c o f;obtain⟨xs,K,T,p⟩:=l.out;obtain⟨ys,U,L,A⟩:=e.out;have lx:=hn T p o;have ly:=hn L A f;simp[-mG];refine al.of (AV a K U (by omega) (by omega)) ?_;rintro _ S ⟨rfl,rfl⟩;rw[p,A]
 have ar:∀(v w:Value) (x y:Nat) (M:bn) (N:Value×Value×Nat×Nat),cr S v (2*x+1)->cr S w (2*y+1)->y<x->Nat.gcd n m=2^b*Nat.gcd (2*x+1) (2*y+1)->2*x+1<4294967296^k->2*y+1<4294967296^k->x+y<=N.2.2.1+N.2.2.2->
  aF 0 M=some v->aF 1 M=some w->aF 5 M=some (.int .i64 (b:Int))->wp X pm (.code mG) M S [.bj 1] λZ g ab=>match Z with
   | .normal=>kt (λs:Value×Value×Nat×Nat=>[(0,s.1),(1,s.2.1),(5,.int .i64 (b:Int))])
    (λs ab=>bx pm H ab/\cr ab s.1 (2*s.2.2.1+1)/\cr ab s.2.1 (2*s.2.2.2+1)/\Nat.gcd n m=2^b*Nat.gcd (2*s.2.2.1+1) (2*s.2.2.2+1)/\2*s.2.2.1+1<4294967296^k/\2*s.2.2.2+1<4294967296^k) (λs=>s.2.2.1+s.2.2.2) N g ab
   | Z=>wp X pm (.res Z) g ab [.bj 0] (rE pm H 4 (Nat.gcd n m)):=by
  clear l e c o f K T p U L A lx ly;intro v w x y M N l e _ c o f _ u B l5;obtain⟨xs,K,T,p⟩:=l.out;obtain⟨ys,U,L,A⟩:=e.out;have lx:=hn T p o;have ly:=hn L A f;simp[u,B];refine al.of (ML a J.ok K U (by omega) (by omega) L) ?_;rintro _ H4 ⟨F,⟨h,_⟩ | ⟨_,r,_,rfl,u,_,D⟩⟩
  ·exact absurd h (by omega)
  have V:=u.nat;rw[D,p,A]at V;obtain⟨C,hd⟩:∃C,C=2*x+1-(2*y+1):=⟨_,rfl⟩;rw[<-hd]at V;have aP:C≠0:=by omega
  obtain⟨_,u,A,aa⟩:=V.out;have au:C<4294967296^k:=by omega
  have le:=hn A aa au;simp;refine al.of (yf a u) ?_;rintro _ H4 ⟨rfl,z,rfl,hz,P⟩;obtain⟨i,j⟩:∃q,C=2^z*(2*q+1):=by
   rcases P with⟨h,_⟩ | ⟨q,h⟩
   ·exact absurd (aa.symm.trans h) aP
   ·exact⟨q,by rw[<-aa];exact h⟩
  have u:z≠0:=by
   rintro rfl;simp at j;omega
  have u:2*(2*i+1)<=C:=by
   rw[j,show z=1+(z-1) by omega,hG,l3];have:=xq (2*i+1) (jF (z-1));omega
  simp;refine al.of (HM a F.ok V au (by omega) j hz) ?_;rintro _ H5 ⟨k5,av⟩;have aw:=(e.u J.ok F).u F.ok k5;have u:Nat.gcd (2*x+1) (2*y+1)=Nat.gcd (2*i+1) (2*y+1):=by
   rw[<-Nat.gcd_sub_self_left (by omega:2*y+1<=2*x+1),<-hd,j,G0]
  rw[u]at c;obtain⟨d,ax,j,ad⟩:=av.out;obtain⟨t,ay,u,ae⟩:=aw.out;have z:=hn j ad (k:=k) (by omega);have j:=hn u ae (k:=k) (by omega);obtain⟨fb,_,_,rfl,af,ag,az⟩:=ax.block (by rintro rfl;simp[aN]at ad);obtain⟨gb,_,_,rfl,aA,aB,aC⟩:=ay.block (by rintro rfl;simp[aN]at ae);obtain⟨_,_,rfl⟩:=az.form;obtain⟨_,_,rfl⟩:=aC.form;have kk:=(J.trans F).trans k5
  have aD:∀g:bn,aF 0 g=some (.pointer (some ⟨fb,0,none⟩))->aF 1 g=some (.pointer (some ⟨gb,0,none⟩))->aF 5 g=some (.int .i64 (b:Int))->kt (λs:Value×Value×Nat×Nat=>[(0,s.1),(1,s.2.1),(5,.int .i64 (b:Int))])
   (λs ab=>bx pm H ab/\cr ab s.1 (2*s.2.2.1+1)/\cr ab s.2.1 (2*s.2.2.2+1)/\Nat.gcd n m=2^b*Nat.gcd (2*s.2.2.1+1) (2*s.2.2.2+1)/\2*s.2.2.1+1<4294967296^k/\2*s.2.2.2+1<4294967296^k) (λs=>s.2.2.1+s.2.2.2) N g H5:=by
   intro g g h j;refine .of (.pointer (some ⟨fb,0,none⟩),.pointer (some ⟨gb,0,none⟩),i,y) (by show i+y<_;omega) (by simp[g,h,j]) ⟨kk,av,aw,c,by show 2*i+1<_;omega,f⟩
  by_cases aE:d.length<=2
  ·by_cases q:t.length<=2
   ·have i:¬2<d.length:=by omega
    have j:¬2<t.length:=by omega
    have s:=oT az.1;have u:=oT aC.1;have g:(4294967296:Nat)^2=18446744073709551616:=rfl;have w:aN d<18446744073709551616:=by rw[<-g];exact fK s (hX (by omega) aE)
    have H:aN t<18446744073709551616:=by rw[<-g];exact fK u (hX (by omega) q)
    simp[af,ag,aA,aB,i,j,B];refine al.of (yg a ax) ?_;rintro _ H5 ⟨rfl,rfl⟩;simp only[aE,if_true];simp[B];refine al.of (yg a ay) ?_;rintro _ H5 ⟨rfl,rfl⟩;simp only[q,if_true];simp;refine al.of (N9 a k5.ok (x:=aN d) (y:=aN t) w H) ?_;rintro _ _ ⟨r,rfl⟩;have X:Nat.gcd (aN d) (aN t)<=aN d:=Nat.gcd_le_left _ (by omega);obtain⟨h,v⟩:∃h,h=Nat.gcd (aN d) (aN t):=⟨_,rfl⟩;rw[<-v]at X|-;simp;refine al.of (A9 a r.ok (x:=h) (by omega)) ?_;rintro _ _ ⟨g,h⟩;simp[l5];refine al.of (D8 a g.ok h (dk (JC _) (by simp)) (k:=b) (by omega)) ?_;rintro _ _ ⟨h,i,j,_,q,_⟩;simp[rE];refine⟨kk.trans (r.trans (g.trans h)),?_⟩;have:Nat.gcd n m=aN i:=by rw[q,CG,v,ad,ae,c,eZ]
    rw[this];exact j.nat
   ·have g:¬2<d.length:=by omega
    have h:2<t.length:=by omega
    simp[af,ag,aA,aB,g,h,B];refine aD _ ?_ ?_ ?_<;>simp[B,l5]
  ·have g:2<d.length:=by omega
   simp[af,ag,g];refine aD _ ?_ ?_ ?_<;>simp[B,l5]
 by_cases d:2*x+1=2*y+1
 ·have g:gJ (2*x+1) (2*y+1)=0:=by simp[gJ,d]
  simp[g];refine al.of (D8 a J.ok K (by omega) (k:=b) (by omega)) ?_;rintro _ _ ⟨a,b,g,_,h,_⟩;simp[rE];refine⟨J.trans a,?_⟩;have:Nat.gcd n m=aN b:=by rw[h,p,c,<-d,Nat.gcd_self,eZ]
  rw[this];exact g.nat
 ·by_cases a:2*x+1<2*y+1
  ·have b:gJ (2*x+1) (2*y+1)=-1:=by simp[gJ,a]
   simp[-mG,b];refine ar w v y x _ (v,w,x,y) e l (by omega) (by rw[c,ql (2*y+1)]) f o (by simp;omega) ?_ ?_ ?_<;>simp
  ·have b:gJ (2*x+1) (2*y+1)=1:=by unfold gJ;rw[aw a,aw d]
   simp[-mG,b];refine ar v w x y _ (v,w,x,y) l e (by omega) c o f (by simp) ?_ ?_ ?_<;>simp
theorem Uq(a:dQ X)(L:ck pm H){v w:Value}{n m k:Nat}(M:cr H v n)(N:cr H w m)(O:n<4294967296^k)(P:m<4294967296^k)(av:k<268435456):
 Call X pm F.rB [v,w] H λr ab=>bx pm H ab/\cr ab r (Nat.gcd n m):=by
 refine Call.has a.rB rfl ?_;show wp X pm _ _ _ _ (rE pm H 4 (Nat.gcd n m));simp[-nQ];refine fh.of (λs:Value×Value×Nat×Nat=>[(5,s.1),(6,s.2.1)]) (λs ab=>bx pm H ab/\cr ab s.1 s.2.2.1/\cr ab s.2.1 s.2.2.2/\Nat.gcd n m=Nat.gcd s.2.2.1 s.2.2.2/\s.2.2.1<4294967296^k/\s.2.2.2<4294967296^k) (λs=>s.2.2.2) (v,w,n,m) (by simp) ⟨bx.refl L,M,N,rfl,O,P⟩ ?_;rintro⟨v,w,x,y⟩ e ⟨c,A,p,i,B,q⟩;simp only at A p i B q;obtain⟨d,j,C,l⟩:=A.out;obtain⟨b,g,D,f⟩:=p.out;have L:=hn C l B;have L:=hn D f q;simp[-nQ];refine al.of (yg a j) ?_;rintro _ e ⟨rfl,rfl⟩
 have E:∀t:bn,aF 5 t=some v->aF 6 t=some w->wp X pm (.code nQ) t e [.bj 1] λI K ab=>match I with
  | .normal=>kt (λs:Value×Value×Nat×Nat=>[(5,s.1),(6,s.2.1)]) (λs ab=>bx pm H ab/\cr ab s.1 s.2.2.1/\cr ab s.2.1 s.2.2.2/\Nat.gcd n m=Nat.gcd s.2.2.1 s.2.2.2/\s.2.2.1<4294967296^k/\s.2.2.2<4294967296^k) (λs=>s.2.2.2) (v,w,x,y) K ab
  | I=>wp X pm (.res I) K ab [.bj 0] (rE pm H 4 (Nat.gcd n m)):=by
  intro t u o;simp[o];refine al.of (iG a.dx g) ?_;rintro Q e ⟨rfl,F⟩;obtain⟨R,S,rfl⟩:=F.form;by_cases z:b=[]
  ·subst z;simp[u];refine al.of (iG a.dx j) ?_;rintro _ e ⟨rfl,h⟩;simp;refine al.of (mK a.ek c.ok h (by omega)) ?_;rintro _ _ ⟨h,k⟩;simp[rE];refine⟨c.trans h,?_⟩;simp[aN]at f;rw[i,<-f,Nat.gcd_zero_right,<-l];exact k.nat
  ·have s:0<b.length:=rT.2 z;have v:y≠0:=λh=>z ((CI D).1 (by rw[f,h]));simp[z,u];refine al.of (iG a.dx j) ?_;rintro _ e ⟨rfl,k⟩;obtain⟨_,_,rfl⟩:=k.form;simp[o];refine al.of (iG a.dx g) ?_;rintro Q e ⟨rfl,F⟩;obtain⟨R,S,rfl⟩:=F.form;by_cases k:d.length=b.length
   ·simp[k,u,o];have m:x≠0:=λh=>by
     have:d=[]:=(CI C).1 (by rw[l,h]);rw[this]at k;simp at k;omega
    refine al.of (aa7 a c.ok A p B q av m v) ?_;rintro _ _ ⟨k,m⟩;simp[rE];exact⟨c.trans k,by rw[i];exact m⟩
   ·have k:¬((d.length:Int)=(b.length:Int)):=by omega
    simp[u,o];refine⟨λ_=>?_,λh=>absurd h k⟩;refine al.of (Mx a c.ok j g C D (by omega) (by omega)) ?_;rintro _ _ ⟨G,⟨h,_⟩ | ⟨_,_,r,rfl,_,k⟩⟩
    ·exact absurd (f.symm.trans h) v
    rw[l,f]at k;have h:x%y<y:=o1 _ (by omega);simp[o];refine .of (w,r,y,x%y) (by simpa using h) (by simp) ⟨c.trans G,p.u c.ok G,k,?_,q,by show x%y<_;omega⟩;show Nat.gcd n m=Nat.gcd y (x%y);rw[i,ql x y,Nat.gcd_rec y x,ql]
 by_cases J:d.length<=2
 ·simp only[J,if_true];simp[-nQ];refine al.of (yg a g) ?_;rintro _ e ⟨rfl,rfl⟩;by_cases h:b.length<=2
  ·simp only[h,if_true];simp[-nQ];have k:(4294967296:Nat)^2=18446744073709551616:=rfl;have o:aN d<18446744073709551616:=by rw[<-k];exact fK (oT j.Q) (hX (by omega) J)
   have r:aN b<18446744073709551616:=by rw[<-k];exact fK (oT g.Q) (hX (by omega) h)
   refine al.of (N9 a c.ok (x:=aN d) (y:=aN b) o r) ?_;rintro _ _ ⟨u,rfl⟩;have w:Nat.gcd (aN d) (aN b)<18446744073709551616:=by
    rcases zP (aN d) with j | j
    ·rw[j,Nat.gcd_zero_left];exact r
    ·exact dk (Nat.gcd_le_left _ j) o
   obtain⟨G,v⟩:∃G,G=Nat.gcd (aN d) (aN b):=⟨_,rfl⟩;rw[<-v]at w|-;simp[-nQ];refine al.of (A9 a u.ok (x:=G) (by omega)) ?_;rintro _ _ ⟨d,j⟩;simp[rE];refine⟨c.trans (u.trans d),?_⟩;have:Nat.gcd n m=aN [G%4294967296,G/4294967296]:=by rw[<-mJ,CG,v,l,f,i]
   rw[this];exact j.nat
  ·simp only[h,if_false];simp[-nQ];refine E _ ?_ ?_<;>simp
 ·simp only[J,if_false];simp[-nQ];refine al.of (yg a g) ?_;rintro _ e ⟨rfl,rfl⟩;by_cases a:b.length<=2
  ·simp only[a,if_true];simp[-nQ];refine E _ ?_ ?_<;>simp
  ·simp only[a,if_false];simp[-nQ];refine E _ ?_ ?_<;>simp
theorem E1(c:dQ X)(d:ck pm H){v w:Value}{n m k:Nat}(b:cr H v n)(e:cr H w m)(f:n<4294967296^k)(g:m<4294967296^k)(av:k<268435456):Call X pm F.nP [v,w] H λr ab=>bx pm H ab/\cr ab r (n+m):=by
 obtain⟨_,h,i,a⟩:=b.out;obtain⟨_,j,k,b⟩:=e.out;have e:=hn i a f;have e:=hn k b g;refine(TQ c d h j (by omega) (by omega)).mono ?_;rintro r ab ⟨c,_,d,_,e⟩;exact⟨c,by rw[<-a,<-b,<-e];exact d.nat⟩
theorem s7(c:dQ X)(d:ck pm H){v w:Value}{n m k:Nat}(b:cr H v n)(e:cr H w m)(f:n<4294967296^k)(g:m<4294967296^k) (av:k<268435456:=by omega):Call X pm F.kg [v,w] H λr ab=>bx pm H ab/\cr ab r (n*m):=by
 obtain⟨_,h,i,a⟩:=b.out;obtain⟨_,j,k,b⟩:=e.out;have e:=hn i a f;have e:=hn k b g;refine(UE c d h j (by omega) (by omega)).mono ?_;rintro r ab ⟨c,_,d,_,e⟩;exact⟨c,by rw[<-a,<-b,<-e];exact d.nat⟩
theorem F9(c:dQ X){v w:Value}{n m k:Nat}(d:cr H v n)(e:cr H w m)(f:n<4294967296^k)(g:m<4294967296^k)(av:k<268435456):Call X pm F.lp [v,w] H λr ab=>ab=H/\r=.int .i64 (gJ n m):=by
 obtain⟨_,h,i,a⟩:=d.out;obtain⟨_,j,d,b⟩:=e.out;have e:=hn i a f;have e:=hn d b g;subst a b;exact AV c h j (by omega) (by omega)
theorem Qf(d:dQ X)(e:ck pm H){v w:Value}{n m k:Nat}(f:cr H v n)(g:cr H w m)(h:n<4294967296^k)(i:m<4294967296^k)(av:k<268435456):
 Call X pm F.nR [v,w] H λr ab=>bx pm H ab/\(n<m/\r=.tuple #[.pointer none,.bool false]∨m<=n/\∃p,r=.tuple #[p,.bool true]/\cr ab p (n-m)):=by
 obtain⟨_,j,k,a⟩:=f.out;obtain⟨_,l,b,c⟩:=g.out;have f:=hn k a h;have f:=hn b c i;subst a c;refine(ML d e j l (by omega) (by omega) b).mono ?_;rintro r ab ⟨a,h | ⟨h,p,_,b,c,_,d⟩⟩
 ·grind
 ·exact⟨a,.inr ⟨h,p,b,by rw[<-d];exact c.nat⟩⟩
theorem GA(e:dQ X)(f:ck pm H){v w:Value}{n m k:Nat}(g:cr H v n)(h:cr H w m)(i:n<4294967296^k)(j:m<4294967296^k)(av:k<268435456)(o:m≠0):
 Call X pm F.mD [v,w] H λr ab=>bx pm H ab/\∃q s,r=.tuple #[q,s,.bool true]/\cr ab q (n/m)/\cr ab s (n%m):=by
 obtain⟨_,k,a,b⟩:=g.out;obtain⟨_,l,c,d⟩:=h.out;have g:=hn a b i;have g:=hn c d j;subst b d;refine(Mx e f k l a c (by omega) (by omega)).mono ?_;grind
theorem zw(a:dQ X)(b:ck pm H){x:Nat} (c:x<18446744073709551616:=by omega):Call X pm F.hk [.int .u64 (x:Int)] H λr ab=>bx pm H ab/\cr ab r x:=by
 refine(A9 a b c).mono ?_;rintro r ab ⟨_,a⟩;have:=a.nat;rw[<-mJ,CG]at this;grind
theorem Rb(a:dQ X)(b:ck pm H):Call X pm F.hk [.int .u64 0] H λr ab=>bx pm H ab/\cr ab r 0:=zw a b (x:=0)
theorem wV(a:dQ X)(b:ck pm H):Call X pm F.hk [.int .u64 1] H λr ab=>bx pm H ab/\cr ab r 1:=zw a b (x:=1)
theorem tP(a:dQ X){v:Value}{n k:Nat}(e:cr H v n)(f:n<4294967296^k)(av:k<268435456):Call X pm F.ly [v] H λr ab=>ab=H/\r=.bool (decide (n=0)):=by
 obtain⟨b,g,c,d⟩:=e.out;have e:=hn c d f;subst d;refine Call.has a.ly rfl ?_;simp;refine al.of (TS a g c (by omega)) ?_;rintro _ H ⟨rfl,rfl⟩;have:aj (aN b)=0↔aN b=0:=by
  unfold aj;split
  ·simp[*]
  ·simp[*]
 simp;grind
def hj(neg:Bool)(n d:Nat):Rat:=mkRat (if neg then -(n:Int) else(n:Int)) d
structure gC(H:ae)(v:Value)(q:Rat):Prop where
 ex:(v=.pointer none/\q=0)∨∃b x RV RO,v=.pointer (some ⟨b,0,none⟩)/\H.get b=some x/\EN x [.bool (decide (q<0)),RV,RO]/\cr H RV q.num.natAbs/\cr H RO q.den
theorem gC.u{v:Value}{q:Rat}(h:gC H v q)(a:ck pm H)(av:bx pm H ab):gC ab v q:=by
 refine⟨h.ex.imp id ?_⟩;rintro⟨b,x,c,d,e,f,g,i,j⟩;exact⟨b,x,c,d,e,av.some a f,g,i.u a av,j.u a av⟩
def ht(H:ae)(v:Value)(q:Rat):Prop:=gC H v q/\∃b a t,v=.pointer (some ⟨b,0,none⟩)/\H.get b=some (.cells a (.t t))
theorem ht.u{v:Value}{q:Rat}(h:ht H v q)(a:ck pm H)(av:bx pm H ab):ht ab v q:=
 ⟨h.1.u a av,let ⟨b,c,t,d,e⟩:=h.2;⟨b,c,t,d,av.some a e⟩⟩
end
theorem CC{neg:Bool}{n d:Nat}(a:d≠0):(hj neg n d).den=d/Nat.gcd n d:=by
 unfold hj;rw[Rat.den_mkRat,aw a,ql];grind
theorem CD{neg:Bool}{n d:Nat}(a:d≠0):(hj neg n d).num.natAbs=n/Nat.gcd n d:=by
 unfold hj;rw[Rat.num_mkRat,aw a,ql]
 cases neg with
 | false=>simp;rfl
 | true=>
   simp only[if_true,Int.natAbs_neg,Int.natAbs_natCast];rw[Int.neg_ediv_of_dvd (by exact_mod_cast Nat.gcd_dvd_left n d),Int.natAbs_neg];rfl
theorem zn(q:Rat):q<0↔q.num<0:=by
 rw[<-Rat.not_le,<-Rat.num_nonneg];omega
theorem Y0{neg:Bool}{n d:Nat}(a:d≠0):decide (hj neg n d<0)=(neg&&!decide (n=0)):=by
 have b:0<Nat.gcd n d:=Nat.gcd_pos_of_pos_right _ (qo a);have h:(hj neg n d<0)↔(neg=true/\n≠0):=by
  rw[zn];unfold hj;rw[Rat.num_mkRat,aw a,ql]
  cases neg with
  | false=>
    simp only[kl,if_false,Int.natAbs_natCast,false_and,iff_false];have:(0:Int)<=(n:Int)/(Nat.gcd n d:Nat):=Int.ediv_nonneg (by omega) (by omega);omega
  | true=>
    simp only[if_true,Int.natAbs_neg,Int.natAbs_natCast,true_and];have a:((Nat.gcd n d:Nat):Int)∣(n:Int):=by exact_mod_cast Nat.gcd_dvd_left n d
    rw[Int.neg_ediv_of_dvd a];have e:((n:Int)/(Nat.gcd n d:Nat))=((n/Nat.gcd n d:Nat):Int):=rfl;rw[e];constructor
    ·rintro h rfl;simp at h
    ·intro a;have:0<n/Nat.gcd n d:=Nat.div_pos (Nat.le_of_dvd (qo a) (Nat.gcd_dvd_left n d)) b;omega
 grind
section
variable[bL]
theorem cr.ptr{v:Value}{n:Nat}(h:cr H v n):(v=.pointer none/\n=0)∨∃a,v=.pointer (some a):=by
 obtain⟨_,a,_,c⟩:=h.out
 rcases a with⟨h,rfl⟩ | ⟨b,_,_,h,_⟩
 ·exact .inl ⟨h,c.symm⟩
 grind
def uO(pm:Perm)(H:ae)(neg:Bool)(n d:Nat):cl:=λx l ab=>(x=e1.normal∨x=e1.ret)/\∃a,kn l ab [.slot 6,.slot 7]=some a/\(bx pm H ab/\(d=0/\iw a=.tuple #[.pointer none,.bool false]∨d≠0/\∃p,iw a=.tuple #[p,.bool true]/\ht ab p (hj neg n d)))
theorem MP(g:dQ X)(b:ck pm H){neg:Bool}{v w:Value}{n d k:Nat}(z:cr H v n)(q:cr H w d)(A:n<4294967296^k)(s:d<4294967296^k)(av:k<268435456):
 Call X pm F.qj [.bool neg,v,w] H λr ab=>bx pm H ab/\(d=0/\r=.tuple #[.pointer none,.bool false]∨d≠0/\∃p,r=.tuple #[p,.bool true]/\ht ab p (hj neg n d)):=by
 refine Call.has g.qj rfl ?_;show wp X pm _ _ _ _ (uO pm H neg n d);simp[-oY];refine al.of (tP g q s av) ?_;rintro _ H ⟨rfl,rfl⟩;by_cases e:d=0
 ·simp[e,uO];exact bx.refl b
 have I:0<Nat.gcd n d:=Nat.gcd_pos_of_pos_right _ (qo e);obtain⟨G,m⟩:∃G,G=Nat.gcd n d:=⟨_,rfl⟩
 have D:∀(l:bn) (h:ae) (B i:Value),bx pm H h->cr h B (n/G)->cr h i (d/G)->aF 0 l=some (.bool neg)->aF 1 l=some B->aF 2 l=some i->
  wp X pm (.code oY) l h [] (uO pm H neg n d):=by
  intro l h B i f t o u v w;have J:n/G=0↔n=0:=by
   rw[m];constructor
   ·intro _
    rcases zP n with p | p
    ·exact p
    ·have:0<n/Nat.gcd n d:=Nat.div_pos (Nat.le_of_dvd p (Nat.gcd_dvd_left n d)) I;omega
   ·simp_all
  have x:∀(a:ae) (l:Value),bx pm h a->cr a l (n/G)->bx pm H (a.new (.cells [.bool (neg&&!decide (n=0)),l,i] (.t T.IZ)))/\ht (a.new (.cells [.bool (neg&&!decide (n=0)),l,i] (.t T.IZ))) (ptr a.next) (hj neg n d):=by
   intro a l c k;have d:bx pm a (a.new (.cells [.bool (neg&&!decide (n=0)),l,i] (.t T.IZ))):=(bx.refl c.ok).new _;refine⟨(f.trans c).trans d,⟨.inr ⟨a.next,_,l,i,rfl,cc,?_,?_,?_⟩⟩,_,_,_,rfl,cc⟩
   ·rw[Y0 e];exact⟨rfl,rfl⟩
   ·rw[CD e,<-m];exact k.u c.ok d
   ·rw[CC e,<-m];exact(o.u f.ok c).u c.ok d
  have E:n/G<4294967296^k:=dk (lA _ _) A;have F:decide (n/G=0)=decide (n=0):=decide_eq_decide.2 J
  rcases t.ptr with⟨rfl,p⟩ | ⟨EZ,rfl⟩
  ·simp[v];refine al.of (Rb g f.ok) ?_;rintro r a ⟨c,d⟩;rw[<-p]at d
   cases neg with
   | true=>
     simp[u];refine al.of (tP g d E av) ?_;rintro _ a ⟨rfl,rfl⟩;have:=x a r c d;rw[F]
     rcases d.ptr with⟨rfl,_⟩ | ⟨a2,rfl⟩<;>rcases o.ptr with⟨rfl,_⟩ | ⟨a3,rfl⟩<;>simp[uO,w,e,b.make,b.pick]<;>simpa using this
   | false=>
     simp[u];refine al.not ?_;have:=x a r c d
     rcases d.ptr with⟨rfl,_⟩ | ⟨a2,rfl⟩<;>rcases o.ptr with⟨rfl,_⟩ | ⟨a3,rfl⟩<;>simp[uO,w,e,b.make,b.pick]<;>simpa using this
  ·simp[v]
   cases neg with
   | true=>
     simp[u];refine al.of (tP g t E av) ?_;rintro _ h ⟨rfl,rfl⟩;have:=x h _ (bx.refl f.ok) t;rw[F]
     rcases o.ptr with⟨rfl,_⟩ | ⟨a3,rfl⟩<;>simp[uO,v,w,e,b.make,b.pick]<;>simpa using this
   | false=>
     simp[u];refine al.not ?_;have:=x h _ (bx.refl f.ok) t
     rcases o.ptr with⟨rfl,_⟩ | ⟨a3,rfl⟩<;>simp[uO,v,w,e,b.make,b.pick]<;>simpa using this
 simp[-oY,e];refine al.of (Uq g b z q A s av) ?_;rintro _ h ⟨f,y⟩;rw[<-m]at y;have C:G<4294967296^k:=by
  rw[m];exact dk (Nat.gcd_le_right _ (qo e)) s
 simp[-oY];refine al.of (wV g f.ok) ?_;rintro _ a ⟨c,e⟩;have h:1<4294967296^k:=by omega
 simp[-oY];refine al.of (F9 g (y.u f.ok c) e C h av) ?_;rintro _ a ⟨rfl,rfl⟩;have j:=f.trans c;by_cases e:G=1
 ·have d:gJ G 1=0:=by simp[gJ,e]
  simp[-oY,d];refine D _ a v w j (by rw[e,Nat.div_one];exact z.u b j) (by rw[e,Nat.div_one];exact q.u b j) ?_ ?_ ?_<;>simp
 ·have a:gJ G 1=1:=by unfold gJ;rw[aw (by omega),aw e]
  simp[-oY,a];refine al.of (GA g j.ok (z.u b j) (y.u f.ok c) A C av (by omega)) ?_;rintro _ _ ⟨d,o,_,rfl,p,_⟩;simp[-oY];have k:=j.trans d;refine al.of (GA g d.ok (q.u b k) ((y.u f.ok c).u j.ok d) s C av (by omega)) ?_;rintro _ r ⟨n,t,_,rfl,a,_⟩;simp[-oY];refine D _ r o t (k.trans n) (p.u d.ok n) a ?_ ?_ ?_<;>simp
end
end Go.Dam.C
