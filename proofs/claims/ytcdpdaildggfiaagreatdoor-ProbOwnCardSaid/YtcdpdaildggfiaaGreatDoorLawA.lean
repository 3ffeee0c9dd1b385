/- What the functions of the program compute, for every input. -/
import Derived.Test.YtcdpdaildggfiaaGreatDoorDamB
namespace Go.Dam
open Go
def iI(p:Nat->Nat->Prop):Prop:=∃N,∀m d,N<=m->N<=d->p m d
theorem iI.of{p:Nat->Nat->Prop}(h:∀m d,p m d):iI p:=⟨0,λm d _ _=>h m d⟩
theorem iI.map{p q:Nat->Nat->Prop}(h:iI p)(f:∀m d,p m d->q m d):iI q:=let ⟨N,h⟩:=h;⟨N,λm d a b=>f m d (h m d a b)⟩
theorem iI.kP{p q r:Nat->Nat->Prop}(h:iI p)(g:iI q)(f:∀m d,p m d->q m d->r m d):iI r:=by
 obtain⟨N,h⟩:=h;obtain⟨M,g⟩:=g;exact⟨N+M,λm d _ _=>f m d (h m d (by omega) (by omega)) (g m d (by omega) (by omega))⟩
abbrev o1:=Perm->List Value->ad->Option (Value×ad)
structure ar where
 T:Nat->Option aZ
 eS:Nat->Option o1
def ar.S(X:ar):bY->bY:=λK a f b H=>match X.eS f with
 | some g=>g a b H
 | none=>K a f b H
def ar.K(X:ar)(m d:Nat):bY:=runK X.T X.S m d
def tm(X:ar)(pm:Perm)(f:FuncId)(args:List Value)(H:ad)(v:Value)(aa:ad):Prop:=iI λm d=>X.K m d pm f args H=some (v,aa)
def Call(X:ar)(pm:Perm)(f:FuncId)(args:List Value)(H:ad)(R:Value->ad->Prop):Prop:=∃v a,tm X pm f args H v a/\R v a
abbrev bb:=List (Nat×Value)
def aK(k:Nat):bb->Option Value
 | []=>none
 | (j,v)::l=>bif Nat.beq k j then some v else aK k l
def gA(e:Env)(l:bb):Prop:=∀k v,aK k l=some v->e.get k=some v
def hd:bb->Env
 | []=>.ag
 | (k,v)::l=>(hd l).set v k
theorem Jy(l:bb)(k:Nat):(hd l).get k=aK k l:=by
 induction l with
 | nil=>rfl
 | cons p l ih=>
   obtain⟨j,_⟩:=p;simp only[hd,bG.jw,aK,cC,ih];by_cases h:k=j<;>simp[h]
def hP(l:bb)(d:Option Nat)(v:Value):bb:=match d with
 | some d=>(d,v)::l
 | none=>l
theorem gA.put{e:Env}{l:bb}(h:gA e l)(d:Option Nat)(v:Value):gA (putDst e d v) (hP l d v):=by
 cases d with
 | none=>exact h
 | some d=>
   intro k u a;simp only[hP,aK,cC]at a;simp only[putDst,bG.jw];by_cases b:k=d
   ·simpa [b]using a
   ·simp only[b,decide_false,cond_false]at a;simp only[b,if_false];exact h k u a
def Sub:bb->bb->Prop
 | [],_=>True
 | (k,v)::L,l=>aK k l=some v/\Sub L l
theorem Sub.aK{L l:bb}(h:Sub L l){k:Nat}{v:Value}(e:aK k L=some v):aK k l=some v:=by
 induction L with
 | nil=>cases e
 | cons p L ih=>
   obtain⟨j,_⟩:=p;simp only[Dam.aK,cC]at e;by_cases a:k=j
   ·subst a;simp only[decide_true,cond_true,ax]at e;subst e;exact h.1
   ·simp only[a,decide_false,cond_false]at e;exact ih h.2 e
theorem gA.sub{e:Env}{L l:bb}(h:gA e l)(a:Sub L l):gA e L:=λk v b=>h k v (a.aK b)
def iH(e a:Env):Prop:=∀k v,e.get k=some v->a.get k=some v
theorem gA.nX{e:Env}{l:bb}(h:gA e l):iH (hd l) e:=λk v a=>h k v (by rwa [Jy]at a)
theorem iH.aO{e a:Env}(h:iH e a){r:bC}{v:Value}(q:aO e r=some v):aO a r=some v:=by
 cases r with
 | t n=>exact h n v q
 | c _=>exact q
theorem iH.dN{e d:Env}(h:iH e d):∀{a:List bC} {az:List Value},dN e a=some az->dN d a=some az
 | [],_,q=>q
 | r::a,az,q=>by
   simp only[Dam.dN]at q|-
   cases b:Dam.aO e r with
   | none=>rw[b]at q;cases q
   | some _=>
     rw[b]at q
     cases c:Dam.dN e a with
     | none=>simp only[c]at q;cases q
     | some _=>simp only[c]at q;simp only[h.aO b,h.dN c];exact q
theorem iH.parts{e d:Env}(h:iH e d):∀{a:List (Nat×Nat×bC)} {az:List (Nat×Nat×Value)},h9 e a=some az->h9 d a=some az
 | [],_,q=>q
 | (_,_,r)::a,az,q=>by
   simp only[Dam.h9]at q|-
   cases b:Dam.aO e r with
   | none=>rw[b]at q;cases q
   | some _=>
     rw[b]at q
     cases c:Dam.h9 e a with
     | none=>simp only[c]at q;cases q
     | some _=>simp only[c]at q;simp only[h.aO b,h.parts c];exact q
theorem iH.cH{e b:Env}(h:iH e b){r:bC}{n:Nat}(q:Dam.cH (Dam.aO e r)=some n):Dam.cH (Dam.aO b r)=some n:=by
 cases a:Dam.aO e r with
 | none=>rw[a]at q;cases q
 | some _=>rw[a]at q;rw[h.aO a];exact q
theorem iH.de{e a:Env}(h:iH e a){d n:Nat}{o:Option bC}(q:Dam.de e d o=some n):Dam.de a d o=some n:=by
 cases o with
 | none=>exact q
 | some _=>exact h.cH q
def iG(a b:aQ):Prop:=(∀(c:Perm) (H:ad),a.run c H=none)∨b=a
theorem iG.refl(a:aQ):iG a a:=.inr rfl
theorem iG.fail(b:aQ):iG .fail b:=.inl λ_ _=>rfl
theorem iG.on{e a:Env}(h:iH e a)(r:bC)(f:Option Value->aQ)(b:f none=.fail):iG (f (Dam.aO e r)) (f (Dam.aO a r)):=by
 cases q:aO e r with
 | none=>rw[b];exact .fail _
 | some _=>rw[h.aO q];exact .refl _
theorem iG.lP{e a:Env}(h:iH e a)(r s:bC)(f:Option Value->Option Value->aQ)(b:∀y,f none y=.fail)(c:∀x,f x none=.fail):iG (f (aO e r) (aO e s)) (f (aO a r) (aO a s)):=by
 cases q:aO e r with
 | none=>rw[b];exact .fail _
 | some _=>
   cases d:aO e s with
   | none=>rw[c];exact .fail _
   | some _=>rw[h.aO q,h.aO d];exact .refl _
theorem iG.gx{e a:Env}(h:iH e a)(r:bC)(k:Value->aQ):iG (cS (Dam.aO e r) k) (cS (Dam.aO a r) k):=.on h r (λy=>cS y k) rfl
theorem iG.run{a b:aQ}(h:iG a b){pm:Perm}{H:ad}{r:Value×ad}(q:a.run pm H=some r):b.run pm H=some r:=by
 rcases h with h | rfl
 ·rw[h]at q;cases q
 ·exact q
theorem iG.runT{a b:aQ}(h:iG a b){pm:Perm}{H:ad}{r:Value×ad×List Nat×List Nat}(q:a.runT pm H=some r):b.runT pm H=some r:=by
 rcases h with h | rfl
 ·obtain⟨_,_,_,_⟩:=r;have:=KF q;rw[h]at this;cases this
 ·exact q
theorem Hq{e u:Env}(h:iH e u)(o:aV):iG (o.B e) (o.B u):=by
 cases o
 case cM x=>exact .on h x eT rfl
 case pick j a b=>
  simp only[aV.B]
  cases o:aO e j with
  | none=>exact .fail _
  | some v=>
    rw[h.aO o];simp only[cS];split
    ·exact .on h a eT rfl
    ·exact .on h b eT rfl
    ·exact .fail _
 case alloc=>exact .refl _
 case box B x=>exact .gx h x _
 case build z q=>
  simp only[aV.B]
  cases o:h9 e q with
  | none=>exact .fail _
  | some l=>rw[h.parts o];exact .refl _
 case buildSlice z c w q=>
  simp only[aV.B]
  cases o:h9 e q with
  | none=>exact .fail _
  | some l=>rw[h.parts o];exact .refl _
 case load r n a=>exact .on h a (jV r n) rfl
 case store n a x=>
  refine .lP h a x (kH n) (λy=>rfl) (λx=>?_);unfold kH;split
  ·rename_i C;cases C
  ·rfl
 case nilCheck x=>exact .gx h x _
 case bin A k x y=>exact .lP h x y (λa b=>cS a λa=>cS b λb=>eT (binOp A k a b)) (λ_=>rfl) (λx=>by cases x<;>rfl)
 case un A x=>exact .gx h x _
 case conv j x=>exact .gx h x _
 case xB B x=>exact .gx h x _
 case qy _ l=>
  simp only[aV.B]
  cases o:dN e l with
  | none=>exact .fail _
  | some l=>rw[h.dN o];exact .refl _
 case mkMap=>exact .refl _
 case mkSlice z p l j=>
  simp only[aV.B]
  cases o:cH (aO e l) with
  | none=>exact .fail _
  | some v=>
    cases D:cH (aO e j) with
    | none=>exact .fail _
    | some _=>rw[h.cH o,h.cH D];exact .refl _
 case iB x d f=>
  simp only[aV.B]
  cases o:aO e x with
  | none=>exact .fail _
  | some v=>
    cases D:de e 0 d with
    | none=>cases v<;>exact .fail _
    | some n=>
      rw[h.aO o,h.de D];cases v<;>first | (exact .fail _) | skip
      rename_i s;simp only[lA]
      cases E:de e s.size f with
      | none=>exact .fail _
      | some _=>rw[h.de E];exact .refl _
 case iA c x d f F=>
  simp only[aV.B]
  cases o:aO e x with
  | none=>exact .fail _
  | some v=>
    rw[h.aO o];simp only[cS];cases v<;>first | (exact .fail _) | skip
    rename_i a w G;simp only
    cases D:de e 0 d with
    | none=>exact .fail _
    | some n=>
      cases E:de e w f with
      | none=>exact .fail _
      | some _=>
        cases H:de e G F with
        | none=>exact .fail _
        | some _=>rw[h.de D,h.de E,h.de H];exact .refl _
 case vp n c x d f=>
  simp only[aV.B]
  cases o:aO e x with
  | none=>exact .fail _
  | some v=>
    rw[h.aO o];cases v<;>first | (exact .fail _) | skip
    rename_i a;cases a<;>first | (exact .fail _) | skip
    cases D:de e 0 d with
    | none=>exact .fail _
    | some _=>
      cases E:de e n f with
      | none=>exact .fail _
      | some _=>rw[h.de D,h.de E];exact .refl _
 case fieldAddr I x=>exact .gx h x _
 case field r I n x=>exact .gx h x _
 case iW c x i=>
  simp only[aV.B]
  cases o:aO e x with
  | none=>exact .fail _
  | some v=>
    cases D:cH (aO e i) with
    | none=>cases v<;>first | exact .fail _ | (rename_i a _ _;cases a<;>exact .fail _)
    | some _=>rw[h.aO o,h.cH D];exact .refl _
 case qv n c x i=>
  simp only[aV.B]
  cases o:aO e x with
  | none=>exact .fail _
  | some v=>
    cases D:cH (aO e i) with
    | none=>cases v<;>first | exact .fail _ | (rename_i a;cases a<;>exact .fail _)
    | some _=>rw[h.aO o,h.cH D];exact .refl _
 case j2 x i=>
  simp only[aV.B]
  cases o:aO e x with
  | none=>exact .fail _
  | some v=>
    cases D:cH (aO e i) with
    | none=>cases v<;>exact .fail _
    | some _=>rw[h.aO o,h.cH D];exact .refl _
 case xn r n c x i=>
  simp only[aV.B]
  cases o:aO e x with
  | none=>exact .fail _
  | some v=>
    cases D:cH (aO e i) with
    | none=>cases v<;>exact .fail _
    | some _=>rw[h.aO o,h.cH D];exact .refl _
 case lookup g z J x k=>exact .lP h k x (λa b=>cS a λa=>qg g z J a b) (λ_=>rfl) (λx=>by cases x<;>rfl)
 case mapUpdate g m k x=>
  simp only[aV.B]
  cases o:aO e k with
  | none=>exact .fail _
  | some v=>rw[h.aO o];exact .lP h x m (λa b=>cS a λa=>w8 g v a b) (λ_=>rfl) (λx=>by cases x<;>rfl)
 case mapEntry g z m k=>exact .lP h k m (λa b=>cS a λa=>w5 g z a b) (λ_=>rfl) (λx=>by cases x<;>rfl)
 case entryStore m s x=>
  simp only[aV.B]
  cases o:cH (aO e s) with
  | none=>exact .fail _
  | some v=>rw[h.cH o];exact .lP h x m (λa b=>cS a λa=>w7 v a b) (λ_=>rfl) (λx=>by cases x<;>rfl)
 case vc x=>exact .gx h x _
 case uG K=>exact .on h K w6 rfl
 case extract x i=>exact .gx h x _
 case len k x=>exact .on h x (pd k) (by cases k<;>rfl)
 case append c p s x=>exact .lP h x s (λa b=>cS a λx=>cS b λs=>ei c x λL n=>eN c p s L n) (λ_=>rfl) (λx=>by cases x<;>rfl)
 case ry M p s x=>exact .lP h x s (λa b=>cS a λx=>cS b λs=>w1 M p s x) (λ_=>rfl) (λx=>by cases x<;>rfl)
 case copy c t s=>exact .lP h s t (λa b=>cS a λs=>cS b λt=>ei c s λN n=>w4 c t N n) (λ_=>rfl) (λx=>by cases x<;>rfl)
 case tU z x=>exact .on h x (w2 z) rfl
 case tT x=>exact .on h x w3 rfl
 case min2 x y=>exact .lP h x y (jW false) (λ_=>by rfl) (λx=>by cases x<;>first | rfl | (rename_i v;cases v<;>rfl))
 case max2 x y=>exact .lP h x y (jW true) (λ_=>by rfl) (λx=>by cases x<;>first | rfl | (rename_i v;cases v<;>rfl))
 case call=>exact .refl _
 case hG=>exact .refl _
 case bad=>exact .refl _
inductive Fr where
 | seq (b:aM)
 | aW (id:Nat)
inductive kA where
 | code (c:aM)
 | ops (os:List aw)
 | res (x:dS)
abbrev b5:=dS->bb->ad->Prop
section
variable(X:ar)(pm:Perm)
def dz(x:dS)(e:Env)(H:ad):List Fr->b5->Prop
 | [],Q=>∃l,gA e l/\Q x l H
 | .seq f::a,Q=>match x with
   | .normal=>∃b c d,iI (λm g=>eval (X.K m g) pm m f e H=some (b,c,d))/\dz b c d a Q
   | x=>dz x e H a Q
 | .aW id::a,Q=>match x with
   | .exit i=>if i=id then dz .normal e H a Q else dz (.exit i) e H a Q
   | x=>dz x e H a Q
def Sem(c:kA)(e:Env)(H:ad)(au:List Fr)(Q:b5):Prop:=match c with
 | .code c=>∃a b d,iI (λm f=>eval (X.K m f) pm m c e H=some (a,b,d))/\dz X pm a b d au Q
 | .ops c=>∃a b,iI (λm d=>hK (X.K m d) pm c e H=some (a,b))/\dz X pm .normal a b au Q
 | .res x=>dz X pm x e H au Q
def gP(c:kA)(l:bb)(H:ad)(au:List Fr)(Q:b5):Prop:=∀e,gA e l->Sem X pm c e H au Q
def aq(o:aw)(f:FuncId)(args:List bC)(os:List aw)(l:bb)(H:ad)(au:List Fr)(Q:b5):Prop:=
 gP X pm (.ops ({o with op:=.call f args}::os)) l H au Q
def q7(o:aw)(f:bC)(args:List bC)(os:List aw)(l:bb)(H:ad)(au:List Fr)(Q:b5):Prop:=
 gP X pm (.ops ({o with op:=.hG f args}::os)) l H au Q
def ef(b:aM)(l:bb)(H:ad)(au:List Fr)(Q:b5):Prop:=gP X pm (.code (.loop b)) l H au Q
def cy(os:List aw)(a:Option jn)(l:bb)(H:ad)(au:List Fr)(Q:b5):Prop:=gP X pm (.code (.draw os a)) l H au Q
def aM.aS:aM->Nat
 | .skip | .exit _ | .ret | .bad _=>2
 | .bj os | .draw os _=>os.length+3
 | .seq a b=>a.aS+b.aS+3
 | .cond _ a b=>a.aS+b.aS+3
 | .block _ b=>b.aS+3
 | .loop b=>b.aS+3
def Fr.aS:Fr->Nat
 | .seq b=>b.aS+1
 | .aW _=>1
def Dn:List Fr->Nat
 | []=>0
 | k::a=>k.aS+Dn a
def kA.aS:kA->Nat
 | .code c=>c.aS
 | .ops a=>a.length+2
 | .res _=>1
def ia(o:aw)(l:bb):Option Bool:=match o.guard with
 | none=>some true
 | some (j,a)=>match aK j l with
   | some (.bool b)=>some (b==a)
   | some _=>some false
   | none=>none
def yE(o:aw)(l:bb)(H:ad):Option (Value×ad):=match ia o l with
 | some true=>(o.op.B (hd l)).run pm H
 | some false=>some (bz,H)
 | none=>none
def uu:aV->Bool
 | .call .. | .hG ..=>true
 | _=>false
def wp(c:kA)(l:bb)(H:ad)(au:List Fr)(Q:b5):Prop:=match c with
 | .code .skip=>wp (.res .normal) l H au Q
 | .code (.bj a)=>wp (.ops a) l H au Q
 | .code (.draw a b)=>cy X pm a b l H au Q
 | .code (.seq a b)=>wp (.code a) l H (.seq b::au) Q
 | .code (.cond c a b)=>match aO (hd l) c with
   | some (.bool t)=>(t=true->wp (.code a) l H au Q)/\(t=false->wp (.code b) l H au Q)
   | _=>False
 | .code (.block id b)=>wp (.code b) l H (.aW id::au) Q
 | .code (.loop b)=>ef X pm b l H au Q
 | .code (.exit id)=>wp (.res (.exit id)) l H au Q
 | .code .ret=>wp (.res .ret) l H au Q
 | .code (.bad _)=>False
 | .ops []=>wp (.res .normal) l H au Q
 | .ops (o::a)=>match o.op with
   | .call f b=>aq X pm o f b a l H au Q
   | .hG f b=>q7 X pm o f b a l H au Q
   | _=>match yE pm o l H with
     | some (v,b)=>wp (.ops a) (hP l o.dst v) b au Q
     | none=>False
 | .res x=>match au with
   | []=>Q x l H
   | .seq b::au=>match x with
     | .normal=>wp (.code b) l H au Q
     | x=>wp (.res x) l H au Q
   | .aW id::au=>match x with
     | .exit i=>if i=id then wp (.res .normal) l H au Q else wp (.res (.exit i)) l H au Q
     | x=>wp (.res x) l H au Q
termination_by c.aS+Dn au
decreasing_by all_goals (simp_wf;simp[kA.aS,aM.aS,Dn,Fr.aS];try omega)
end
section
variable{X:ar}{pm:Perm}
theorem Sem.bj{os:List aw}{e:Env}{H:ad}{au:List Fr}{Q:b5}(h:Sem X pm (.ops os) e H au Q):Sem X pm (.code (.bj os)) e H au Q:=by
 obtain⟨a,b,c,d⟩:=h;exact⟨.normal,a,b,c.map λ_ _ q=>by simp only[eval,q],d⟩
theorem Sem.seq{a b:aM}{e:Env}{H:ad}{au:List Fr}{Q:b5}(h:Sem X pm (.code a) e H (.seq b::au) Q):Sem X pm (.code (.seq a b)) e H au Q:=by
 obtain⟨x,c,d,a,b⟩:=h
 cases x with
 | normal=>
   obtain⟨e,f,g,h,i⟩:=b;exact⟨e,f,g,a.kP h λ_ _ p q=>by simp only[eval,p,q],i⟩
 | exit i=>exact⟨.exit i,c,d,a.map λ_ _ p=>by simp only[eval,p],b⟩
 | ret=>exact⟨.ret,c,d,a.map λ_ _ p=>by simp only[eval,p],b⟩
theorem Sem.block{id:Nat}{b:aM}{e:Env}{H:ad}{au:List Fr}{Q:b5}(h:Sem X pm (.code b) e H (.aW id::au) Q):Sem X pm (.code (.block id b)) e H au Q:=by
 obtain⟨x,b,c,d,a⟩:=h
 cases x with
 | normal=>exact⟨.normal,b,c,d.map λ_ _ p=>by simp only[eval,p],a⟩
 | ret=>exact⟨.ret,b,c,d.map λ_ _ p=>by simp only[eval,p],a⟩
 | exit i=>
   simp only[dz]at a;by_cases e:i=id
   ·rw[aT e]at a;exact⟨.normal,b,c,d.map λ_ _ p=>by simp only[eval,p,cC,e,decide_true,cond_true],a⟩
   ·rw[aC e]at a;exact⟨.exit i,b,c,d.map λ_ _ p=>by simp only[eval,p,cC,e,decide_false,cond_false],a⟩
theorem mf{e:Env}{l:bb}(h:gA e l){o:aw}{b:Bool}(q:ia o l=some b):o.wanted e=some b:=by
 unfold ia at q;unfold aw.wanted;split at q
 ·rename_i c;rw[c];exact q
 ·rename_i j _ d;rw[d];simp only
  cases a:aK j l with
  | none=>rw[a]at q;cases q
  | some v=>rw[h j v a];rw[a]at q;exact q
theorem KL{K:bY}{e:Env}{H:ad}:∀{o:aV},uu o=false->o.run K pm e H=(o.B e).run pm H:=by
 intro o h;cases o<;>first | rfl | cases h
theorem kx{c:kA}{l:bb}{H:ad}{au:List Fr}{Q:b5}:wp X pm c l H au Q->gP X pm c l H au Q:=by
 fun_induction wp X pm c l H au Q with
 | case1 l H au ih=>exact λh e a=>⟨.normal,e,H,.of λ_ _=>rfl,ih h e a⟩
 | case2 l H au _ ih=>exact λh e a=>(ih h e a).bj
 | case3=>exact λh=>h
 | case4 l H au _ _ ih=>exact λh e a=>(ih h e a).seq
 | case5 l H au c _ _ t a d f=>
   intro h e b;have a:=b.nX.aO a
   cases t with
   | true=>
     obtain⟨x,c,g,i,j⟩:=d (h.1 rfl) e b;exact⟨x,c,g,i.map λ_ _ p=>by simp only[eval,a,p],j⟩
   | false=>
     obtain⟨x,c,g,i,j⟩:=f (h.2 rfl) e b;exact⟨x,c,g,i.map λ_ _ p=>by simp only[eval,a,p],j⟩
 | case6=>exact λh=>h.elim
 | case7 l H au id _ ih=>exact λh e a=>(ih h e a).block
 | case8=>exact λh=>h
 | case9 l H au id ih=>exact λh e a=>⟨.exit id,e,H,.of λ_ _=>rfl,ih h e a⟩
 | case10 l H au ih=>exact λh e a=>⟨.ret,e,H,.of λ_ _=>rfl,ih h e a⟩
 | case11=>exact λh=>h.elim
 | case12 l H au ih=>exact λh e a=>⟨e,H,.of λ_ _=>rfl,ih h e a⟩
 | case13 l H au o _ f b a=>
   intro h e c;have:({o with op:=.call f b}:aw)=o:=by cases o;simp only at a;subst a;rfl
   unfold aq at h;rw[this]at h;exact h e c
 | case14 l H au o _ f b a=>
   intro h e c;have:({o with op:=.hG f b}:aw)=o:=by cases o;simp only at a;subst a;rfl
   unfold q7 at h;rw[this]at h;exact h e c
 | case15 l H au o _ v d a e f ih=>
   intro h g b;have i:uu o.op=false:=by
    cases c:o.op<;>first | rfl | exact absurd c (e _ _) | exact absurd c (f _ _)
   obtain⟨j,k,l,m⟩:=ih h _ (b.put o.dst v);refine⟨j,k,l.map λn p q=>?_,m⟩;have r:o.run (X.K n p) pm g H=some (v,d):=by
    unfold yE at a;unfold aw.run;split at a
    ·rename_i s;rw[mf b s];simp only;rw[KL i];exact(Hq b.nX _).run a
    ·rename_i u;rw[mf b u];exact a
    ·cases a
   simp only[hK,r,q]
 | case16=>exact λh=>h.elim
 | case17 l H _=>exact λh _ a=>⟨l,a,h⟩
 | case18 l H _ au ih=>exact λh e a=>ih h e a
 | case19 l H _ au x a ih=>
   intro h e b;have:=ih h e b
   cases x with
   | normal=>exact absurd rfl a
   | exit _=>exact this
   | ret=>exact this
 | case20 l H id au ih=>
   intro h e a;have:=ih h e a;simp only[Sem,dz]at this|-;simpa using this
 | case21 l H id au _ a ih=>
   intro h e b;have:=ih h e b;simp only[Sem,dz]at this|-;rw[aC a];exact this
 | case22 l H id au x a ih=>
   intro h e b;have:=ih h e b
   cases x with
   | normal=>exact this
   | exit i=>exact absurd rfl (a i)
   | ret=>exact this
end
end Go.Dam
namespace Go.Dam
open Go
section
variable{X:ar}{pm:Perm}
theorem aq.of{o:aw}{f:FuncId}{args:List bC}{os:List aw}{l:bb}{H:ad}{au:List Fr}{Q:b5}{az:List Value}{R:Value->ad->Prop}
 (h:Call X pm f az H R) (k:∀v a,R v a->wp X pm (.ops os) (hP l o.dst v) a au Q) (AW:ia o l=some true:=by simp) (eA:dN (hd l) args=some az:=by simp):aq X pm o f args os l H au Q:=by
 intro e b;obtain⟨v,a,c,d⟩:=h;obtain⟨g,i,j,m⟩:=kx (k v a d) _ (b.put o.dst v);refine⟨g,i,c.kP j λ_ _ p q=>?_,m⟩;have a:({o with op:=.call f args}:aw).wanted e=some true:=mf b AW;have c:=b.nX.dN eA;simp only[hK,aw.run,a,aV.run,c,p,q]
theorem aq.not{o:aw}{f:FuncId}{args:List bC}{os:List aw}{l:bb}{H:ad}{au:List Fr}{Q:b5}
 (k:wp X pm (.ops os) (hP l o.dst bz) H au Q) (AW:ia o l=some false:=by simp):aq X pm o f args os l H au Q:=by
 intro e a;obtain⟨b,c,d,g⟩:=kx k _ (a.put o.dst bz);refine⟨b,c,d.map λ_ _ q=>?_,g⟩;have b:({o with op:=.call f args}:aw).wanted e=some false:=mf a AW;simp only[hK,aw.run,b,q]
theorem q7.of{o:aw}{f:bC}{args:List bC}{os:List aw}{l:bb}{H:ad}{au:List Fr}{Q:b5}{az:List Value}{R:Value->ad->Prop}{g:FuncId}{cx cs:Array Value}
 (AW:ia o l=some true) (c:aO (hd l) f=some (.func (.func g) cx cs)) (eA:dN (hd l) args=some az) (h:Call X pm g (az++cs.toList) H R)
 (k:∀v a,R v a->wp X pm (.ops os) (hP l o.dst v) a au Q):q7 X pm o f args os l H au Q:=by
 intro e b;obtain⟨v,a,d,i⟩:=h;obtain⟨j,m,n,p⟩:=kx (k v a i) _ (b.put o.dst v);refine⟨j,m,d.kP n λ_ _ a q=>?_,p⟩;have d:({o with op:=.hG f args}:aw).wanted e=some true:=mf b AW;have e:=b.nX.dN eA;have c:=b.nX.aO c;simp only[hK,aw.run,d,aV.run,c,e,a,q]
def jk{σ:Type}(L:σ->bb)(I:σ->ad->Prop)(μ:σ->Nat)(s:σ)(l:bb)(H:ad):Prop:=∃a,μ a<μ s/\Sub (L a) l/\I a H
theorem jk.of{σ:Type}{L:σ->bb}{I:σ->ad->Prop}{μ:σ->Nat}{s:σ}{l:bb}{H:ad}(a:σ)(h:μ a<μ s)(b:Sub (L a) l)(aJ:I a H):jk L I μ s l H:=⟨a,h,b,aJ⟩
theorem ef.of{σ:Type}{b:aM}{l:bb}{H:ad}{au:List Fr}{Q:b5}(L:σ->bb)(I:σ->ad->Prop)(μ:σ->Nat)(h:σ)(j:Sub (L h) l)(o:I h H)
 (i:∀s H,I s H->wp X pm (.code b) (L s) H [] λx aN aa=>match x with
  | .normal=>jk L I μ s aN aa
  | x=>wp X pm (.res x) aN aa au Q):ef X pm b l H au Q:=by
 have p:∀n s e H,μ s<=n->gA e (L s)->I s H->∃x a aa,(iI λm d=>∀k,n+1<=k->iter (eval (X.K m d) pm m b) k e H=some (x,a,aa))/\dz X pm x a aa au Q:=by
  intro n
  induction n with
  | zero=>
    intro s e H _ g l;obtain⟨x,a,aa,c,aN,f,b⟩:=kx (i s H l) e g
    cases x with
    | normal=>obtain⟨_,_,_⟩:=b;omega
    | exit l=>exact⟨.exit l,a,aa,c.map λm d q k _=>by obtain⟨k,rfl⟩:∃l,k=l+1:=⟨k-1,by omega⟩;simp only[iter,q],kx b a f⟩
    | ret=>exact⟨.ret,a,aa,c.map λm d q k _=>by obtain⟨k,rfl⟩:∃l,k=l+1:=⟨k-1,by omega⟩;simp only[iter,q],kx b a f⟩
  | succ n ih=>
    intro s e H _ g l;obtain⟨x,a,aa,c,aN,f,b⟩:=kx (i s H l) e g
    cases x with
    | normal=>
      obtain⟨i,_,l,n⟩:=b;obtain⟨q,r,s,t,u⟩:=ih i a aa (by omega) (f.sub l) n;exact⟨q,r,s,c.kP t λm d v w k _=>by obtain⟨k,rfl⟩:∃i,k=i+1:=⟨k-1,by omega⟩;simp only[iter,v];exact w k (by omega),u⟩
    | exit i=>exact⟨.exit i,a,aa,c.map λm d q k _=>by obtain⟨k,rfl⟩:∃i,k=i+1:=⟨k-1,by omega⟩;simp only[iter,q],kx b a f⟩
    | ret=>exact⟨.ret,a,aa,c.map λm d q k _=>by obtain⟨k,rfl⟩:∃i,k=i+1:=⟨k-1,by omega⟩;simp only[iter,q],kx b a f⟩
 intro e g;obtain⟨x,a,aa,⟨N,c⟩,f⟩:=p _ h e H (bg _) (g.sub j) o;exact⟨x,a,aa,⟨N+(μ h+1),λm d _ _=>by simp only[eval];exact c m d (by omega) (by omega) m (by omega)⟩,f⟩
def p7:List Value->Nat->bb->bb
 | [],_,l=>l
 | v::a,n,l=>p7 a (n+1) ((n,v)::l)
theorem Gk:∀(az:List Value) (n:Nat) (e:Env) (l:bb),gA e l->gA (mE az n e) (p7 az n l)
 | [],_,_,_,h=>h
 | v::az,n,_,_,h=>Gk az (n+1) _ _ (h.put (some n) v)
def hU(l:bb)(H:ad):List ld->Option (List Value)
 | []=>some []
 | r::a=>match (match r with | .slot t=>aK t l | .cell t g n=>dG H g n (aK t l)) with
   | some v=>(match hU l H a with | some l=>some (v::l) | none=>none)
   | none=>none
theorem gA.res{e:Env}{l:bb}(h:gA e l){H:ad}:∀{a:List ld} {az:List Value},hU l H a=some az->ji e H a=some az
 | [],_,q=>q
 | r::a,az,q=>by
   simp only[hU]at q;simp only[ji]
   cases r with
   | slot t=>
     simp only at q|-
     cases b:aK t l with
     | none=>rw[b]at q;cases q
     | some v=>
       rw[b]at q;rw[h t v b]
       cases c:hU l H a with
       | none=>simp only[c]at q;cases q
       | some l=>simp only[c]at q;simp only[h.res c];exact q
   | cell t g n=>
     simp only at q|-
     cases b:aK t l with
     | none=>rw[b]at q;simp[dG]at q
     | some v=>
       rw[b]at q;rw[h t v b]
       cases d:dG H g n (some v) with
       | none=>rw[d]at q;cases q
       | some _=>
         rw[d]at q;simp only at q|-
         cases c:hU l H a with
         | none=>simp only[c]at q;cases q
         | some l=>simp only[c]at q;simp only[h.res c];exact q
theorem Call.func{f:FuncId}{args:List Value}{H:ad}{R:Value->ad->Prop}{F:aZ}(b:X.eS f=none)(c:X.T f=some F)(e:args.length<=F.hN)
 (h:wp X pm (.code F.body) (p7 args 0 []) H [] λx l aa=>(x=.normal∨x=.ret)/\∃az,hU l aa F.res=some az/\R (f' az) aa):Call X pm f args H R:=by
 obtain⟨x,g,aa,⟨N,a⟩,_,i,j,az,k,n⟩:=kx h _ (Gk args 0 .ag [] λ_ _ o=>by cases o);refine⟨f' az,aa,⟨N+1,λm d _ _=>?_⟩,n⟩;obtain⟨d,rfl⟩:∃n,d=n+1:=⟨d-1,by omega⟩;have a:=a m d (by omega) (by omega);have n:∀(K:bY),X.S K pm f args H=K pm f args H:=λK=>by unfold ar.S;rw[b]
 simp only[ar.K,runK];rw[n];simp only[c];unfold rO;have b:(!Nat.ble args.length F.hN)=false:=by rw[cg];simp[e]
 rw[b];have p:=i.res k;have q:eval (runK X.T X.S m d) pm m F.body (mE args 0 .ag) H=some (x,g,aa):=a
 rcases j with rfl | rfl<;>simp only[cond_false,q,p]
theorem Call.over{f:FuncId}{args:List Value}{H aa:ad}{v:Value}{R:Value->ad->Prop}{g:o1}(a:X.eS f=some g)(AW:g pm args H=some (v,aa))(h:R v aa):Call X pm f args H R:=by
 refine⟨v,aa,⟨1,λ_ d _ _=>?_⟩,h⟩;obtain⟨d,rfl⟩:∃j,d=j+1:=⟨d-1,by omega⟩;simp only[ar.K,runK];unfold ar.S;rw[a];exact AW
theorem Call.mono{f:FuncId}{args:List Value}{H:ad}{R a:Value->ad->Prop}(h:Call X pm f args H R)(g:∀v aa,R v aa->a v aa):Call X pm f args H a:=
 let ⟨v,aa,a,b⟩:=h;⟨v,aa,a,g v aa b⟩
end
class bq where
 s:Nat->Prop
variable[bq]
structure bR(pm:Perm)(H:ad):Prop where
 num:pm.num=none
 ah:pm.ah<=H.next
 wf:∀b,H.next<=b->H.get b=none
 new:∀b,H.next<=b->bq.s b
theorem bR.lt{pm:Perm}{H:ad}(h:bR pm H){b:Nat}{x:bk}(e:H.get b=some x):b<H.next:=by
 apply lW;intro _;rw[h.wf b (by omega)]at e;cases e
theorem bR.may{pm:Perm}{H:ad}(h:bR pm H){b:Nat}(a:H.next<=b):pm.may b=true:=by
 unfold Perm.may;rw[cg];have:pm.ah<=b:=aY h.ah a;simp[this]
structure bh(pm:Perm)(H aa:ad):Prop where
 ok:bR pm aa
 next:H.next<=aa.next
 get:∀b,b<H.next->aa.get b=H.get b
theorem bh.refl{pm:Perm}{H:ad}(h:bR pm H):bh pm H H:=⟨h,bg _,λ_ _=>rfl⟩
theorem bh.trans{pm:Perm}{H aa a:ad}(h:bh pm H aa)(g:bh pm aa a):bh pm H a:=
 ⟨g.ok,aY h.next g.next,λb a=>(g.get b (eC a h.next)).trans (h.get b a)⟩
theorem bh.new{pm:Perm}{H aa:ad}(h:bh pm H aa)(x:bk):bh pm H (aa.new x) where
 ok:=⟨h.ok.num,aY h.ok.ah (oo _),λb a=>by
  have a:aa.next+1<=b:=a;rw[ad.jZ,aC (by omega)];exact h.ok.wf b (by omega),λb a=>h.ok.new b (Nat.le_of_succ_le a)⟩
 next:=aY h.next (oo _)
 get:=λb a=>by rw[ad.jZ,aC (by have:=h.next;omega)];exact h.get b a
theorem bh.put{pm:Perm}{H aa:ad}(h:bh pm H aa){b:Nat}{y:bk}(d:H.next<=b)(e:aa.get b=some y)(x:bk):bh pm H (aa.put b x) where
 ok:=⟨h.ok.num,h.ok.ah,λc a=>by
  have a:aa.next<=c:=a;have:=h.ok.lt e;rw[ad.O,aC (by omega)];exact h.ok.wf c a,λb d=>h.ok.new b d⟩
 next:=h.next
 get:=λc a=>by rw[ad.O,aC (by omega)];exact h.get c a
theorem bh.some{pm:Perm}{H aa:ad}(h:bh pm H aa)(a:bR pm H){b:Nat}{x:bk}(e:H.get b=some x):aa.get b=some x:=by rw[h.get b (a.lt e)];exact e
end Go.Dam
namespace Go.Dam
open Go
section
variable{X:ar}{pm:Perm}
@[simp] theorem wp_skip{l:bb}{H:ad}{au:List Fr}{Q:b5}:wp X pm (.code .skip) l H au Q=wp X pm (.res .normal) l H au Q:=by rw[wp]
@[simp] theorem Vn{os:List aw}{l:bb}{H:ad}{au:List Fr}{Q:b5}:wp X pm (.code (.bj os)) l H au Q=wp X pm (.ops os) l H au Q:=by rw[wp]
@[simp] theorem Vk{os:List aw}{a:Option jn}{l:bb}{H:ad}{au:List Fr}{Q:b5}:wp X pm (.code (.draw os a)) l H au Q=cy X pm os a l H au Q:=by rw[wp]
@[simp] theorem wp_seq{a b:aM}{l:bb}{H:ad}{au:List Fr}{Q:b5}:wp X pm (.code (.seq a b)) l H au Q=wp X pm (.code a) l H (.seq b::au) Q:=by rw[wp]
@[simp] theorem wp_block{i:Nat}{b:aM}{l:bb}{H:ad}{au:List Fr}{Q:b5}:wp X pm (.code (.block i b)) l H au Q=wp X pm (.code b) l H (.aW i::au) Q:=by rw[wp]
@[simp] theorem wp_loop{b:aM}{l:bb}{H:ad}{au:List Fr}{Q:b5}:wp X pm (.code (.loop b)) l H au Q=ef X pm b l H au Q:=by rw[wp]
@[simp] theorem wp_exit{i:Nat}{l:bb}{H:ad}{au:List Fr}{Q:b5}:wp X pm (.code (.exit i)) l H au Q=wp X pm (.res (.exit i)) l H au Q:=by rw[wp]
@[simp] theorem wp_ret{l:bb}{H:ad}{au:List Fr}{Q:b5}:wp X pm (.code .ret) l H au Q=wp X pm (.res .ret) l H au Q:=by rw[wp]
@[simp] theorem Vl{l:bb}{H:ad}{au:List Fr}{Q:b5}:wp X pm (.ops []) l H au Q=wp X pm (.res .normal) l H au Q:=by rw[wp]
@[simp] theorem LM{x:dS}{l:bb}{H:ad}{Q:b5}:wp X pm (.res x) l H [] Q=Q x l H:=by rw[wp]
@[simp] theorem Vo{b:aM}{l:bb}{H:ad}{au:List Fr}{Q:b5}:wp X pm (.res .normal) l H (.seq b::au) Q=wp X pm (.code b) l H au Q:=by rw[wp]
@[simp] theorem DD{i:Nat}{b:aM}{l:bb}{H:ad}{au:List Fr}{Q:b5}:wp X pm (.res (.exit i)) l H (.seq b::au) Q=wp X pm (.res (.exit i)) l H au Q:=by rw[wp];intro h;cases h
@[simp] theorem DE{b:aM}{l:bb}{H:ad}{au:List Fr}{Q:b5}:wp X pm (.res .ret) l H (.seq b::au) Q=wp X pm (.res .ret) l H au Q:=by rw[wp];intro h;cases h
@[simp] theorem DB{i:Nat}{l:bb}{H:ad}{au:List Fr}{Q:b5}:wp X pm (.res .normal) l H (.aW i::au) Q=wp X pm (.res .normal) l H au Q:=by rw[wp];intro i h;cases h
@[simp] theorem DC{i:Nat}{l:bb}{H:ad}{au:List Fr}{Q:b5}:wp X pm (.res .ret) l H (.aW i::au) Q=wp X pm (.res .ret) l H au Q:=by rw[wp];intro i h;cases h
@[simp] theorem vB{i j:Nat}{l:bb}{H:ad}{au:List Fr}{Q:b5}:wp X pm (.res (.exit i)) l H (.aW j::au) Q=if i=j then wp X pm (.res .normal) l H au Q else wp X pm (.res (.exit i)) l H au Q:=by rw[wp]
@[simp] theorem wp_cond{c:bC}{a b:aM}{l:bb}{H:ad}{au:List Fr}{Q:b5}:wp X pm (.code (.cond c a b)) l H au Q=(match aO (hd l) c with
  | some (.bool t)=>(t=true->wp X pm (.code a) l H au Q)/\(t=false->wp X pm (.code b) l H au Q)
  | _=>False):=by rw[wp]<;>rfl
@[simp] theorem Vm{o:aw}{os:List aw}{l:bb}{H:ad}{au:List Fr}{Q:b5}:wp X pm (.ops (o::os)) l H au Q=(match o.op with
  | .call f args=>aq X pm o f args os l H au Q
  | .hG f args=>q7 X pm o f args os l H au Q
  | _=>match yE pm o l H with
    | some (v,aa)=>wp X pm (.ops os) (hP l o.dst v) aa au Q
    | none=>False):=by rw[wp]<;>rfl
end
@[simp] theorem UZ(l:bb)(k:Nat):(hd l).get k=aK k l:=Jy l k
@[simp] theorem BH(k j:Nat)(v:Value)(l:bb):aK k ((j,v)::l)=if k=j then some v else aK k l:=by
  simp only[aK,cC];by_cases h:k=j<;>simp[h]
@[simp] theorem UL(k:Nat):aK k []=none:=rfl
@[simp] theorem Uq(e:Env)(k:Nat):aO e (.t k)=e.get k:=rfl
@[simp] theorem Up(e:Env)(v:Value):aO e (.c v)=some v:=rfl
@[simp] theorem U7(l:bb)(d:Nat)(v:Value):hP l (some d) v=(d,v)::l:=rfl
@[simp] theorem U6(l:bb)(v:Value):hP l none v=l:=rfl
@[simp] theorem Us(e:Env):dN e []=some []:=rfl
@[simp] theorem Ur(e:Env)(r:bC)(a:List bC):dN e (r::a)=(match aO e r with | some v=>(match dN e a with | some l=>some (v::l) | none=>none) | none=>none):=rfl
@[simp] theorem Ub(l:bb):Sub [] l=True:=rfl
@[simp] theorem ts(k:Nat)(v:Value)(L l:bb):Sub ((k,v)::L) l=(aK k l=some v/\Sub L l):=rfl
@[simp] theorem Uw(d:Option Nat)(x:aV)(l:bb):ia ⟨d,none,x⟩ l=some true:=rfl
@[simp] theorem Ux(d:Option Nat)(j:Nat)(b:Bool)(x:aV)(l:bb):ia ⟨d,some (j,b),x⟩ l=(match aK j l with | some (.bool c)=>some (c==b) | some _=>some false | none=>none):=rfl
@[simp] theorem Vd(pm:Perm)(o:aw)(l:bb)(H:ad):yE pm o l H=(match ia o l with
  | some true=>(o.op.B (hd l)).run pm H
  | some false=>some (bz,H)
  | none=>none):=rfl
attribute [simp] hg aV.B cS eT aQ.run jV kH putRow pd nU nT nV kG lA jW ei
@[simp] theorem Kz(cs:List Value)(z:cz):rowOf (.cells cs z)=some cs:=rfl
@[simp] theorem U9(cs:List Value):rowOf (.ro cs)=some cs:=rfl
attribute [simp] oi h9 de fill f' hU p7 unOp binOp sr iC h8 Co
@[simp] theorem Vt(k:Nat):(cz.n k).val=k:=rfl
@[simp] theorem Vu(t:TypeId):(cz.t t).val=0:=rfl
attribute [simp] xv lB
@[simp] theorem UT(k:IntKind)(n:Nat):cH (some (.int k (n:Int)))=some n:=rfl
@[simp] theorem UX(k:IntKind):cH (some (.int k 0))=some 0:=rfl
@[simp] theorem UW(k:IntKind):cH (some (.int k 1))=some 1:=rfl
@[simp] theorem UU(k:IntKind)(n:Nat):cH (some (.int k (no_index (OfNat.ofNat n))))=some (OfNat.ofNat n):=rfl
@[simp] theorem UQ(k:IntKind)(a b:Nat):cH (some (.int k ((a:Int)+(b:Int))))=some (a+b):=rfl
@[simp] theorem UR(k:IntKind)(a:Nat):cH (some (.int k ((a:Int)+1)))=some (a+1):=rfl
@[simp] theorem US(k:IntKind)(a n:Nat):cH (some (.int k ((a:Int)+(no_index (OfNat.ofNat n)))))=some (a+OfNat.ofNat n):=rfl
@[simp] theorem U'(k dd:IntKind)(a:Int)(n:Nat):pL .shl (.int k a) (.int dd (n:Int))=some (.int k (wr k (a*2^(min n k.bits)))):=rfl
@[simp] theorem Va(k dd:IntKind)(a:Int)(n:Nat):pL .shl (.int k a) (.int dd (no_index (OfNat.ofNat n)))=some (.int k (wr k (a*2^(min (OfNat.ofNat n) k.bits)))):=rfl
@[simp] theorem Vb(k dd:IntKind)(a:Int)(n:Nat):pL .shr (.int k a) (.int dd (n:Int))=some (.int k (a.fdiv (2^(min n k.bits)))):=rfl
@[simp] theorem Vc(k dd:IntKind)(a:Int)(n:Nat):pL .shr (.int k a) (.int dd (no_index (OfNat.ofNat n)))=some (.int k (a.fdiv (2^(min (OfNat.ofNat n) k.bits)))):=rfl
@[simp] theorem Uz(k:IntKind)(a b:Int):fi .add k a b=some (.int k (wr k (a+b))):=rfl
@[simp] theorem UH(k:IntKind)(a b:Int):fi .sub k a b=some (.int k (wr k (a-b))):=rfl
@[simp] theorem UF(k:IntKind)(a b:Int):fi .mul k a b=some (.int k (wr k (a*b))):=rfl
theorem A4(k:IntKind)(a b:Int)(h:b≠0):fi .quo k a b=some (.int k (wr k (a.tdiv b))):=by
 show(bif fQ b 0 then none else _)=_;rw[Dam.lB,show(b==0)=false by simpa using h];rfl
theorem A5(k:IntKind)(a b:Int)(h:b≠0):fi .rem k a b=some (.int k (a.tmod b)):=by
 show(bif fQ b 0 then none else _)=_;rw[Dam.lB,show(b==0)=false by simpa using h];rfl
attribute [simp] A4 A5
@[simp] theorem UA(k:IntKind)(a b:Int):fi .eql k a b=some (.bool (fQ a b)):=rfl
@[simp] theorem UG(k:IntKind)(a b:Int):fi .neq k a b=some (.bool (!fQ a b)):=rfl
@[simp] theorem UE(k:IntKind)(a b:Int):fi .lss k a b=some (.bool (ha a b)):=rfl
@[simp] theorem UD(k:IntKind)(a b:Int):fi .leq k a b=some (.bool (!ha b a)):=rfl
@[simp] theorem UC(k:IntKind)(a b:Int):fi .gtr k a b=some (.bool (ha b a)):=rfl
@[simp] theorem UB(k:IntKind)(a b:Int):fi .geq k a b=some (.bool (!ha a b)):=rfl
theorem sj{a b:Nat}  (eA:a<18446744073709551616:=by omega)(c:b<18446744073709551616:=by omega):fi .or .u64 (a:Int) (b:Int)=some (.int .u64 ((a ||| b:Nat):Int)):=by
 have h:a ||| b<18446744073709551616:=Nat.or_lt_two_pow (n:=64) eA c
 show some (Value.int .u64 (IntKind.wrap .u64 ((BitVec.ofInt 64 (a:Int) ||| BitVec.ofInt 64 (b:Int)).toNat:Int)))=_;rw[BitVec.ofInt_natCast,BitVec.ofInt_natCast,BitVec.toNat_or,BitVec.toNat_ofNat,BitVec.toNat_ofNat,k0 (by omega),k0 (by omega)];simp[IntKind.wrap,IntKind.bits,IntKind.signed];omega
theorem MS{a b:Nat}(eA:a<18446744073709551616)(c:b<18446744073709551616):fi .and .u64 (a:Int) (b:Int)=some (.int .u64 ((a &&& b:Nat):Int)):=by
 have h:a &&& b<18446744073709551616:=cV Nat.and_le_left eA;show some (Value.int .u64 (IntKind.wrap .u64 ((BitVec.ofInt 64 (a:Int) &&& BitVec.ofInt 64 (b:Int)).toNat:Int)))=_;rw[BitVec.ofInt_natCast,BitVec.ofInt_natCast,BitVec.toNat_and,BitVec.toNat_ofNat,BitVec.toNat_ofNat,k0 (by omega),k0 (by omega)];simp[IntKind.wrap,IntKind.bits,IntKind.signed];omega
theorem RL{a b:Nat}(eA:a<4294967296)(c:b<4294967296):fi .or .u32 (a:Int) (b:Int)=some (.int .u32 ((a ||| b:Nat):Int)):=by
 have h:a ||| b<4294967296:=Nat.or_lt_two_pow (n:=32) eA c
 show some (Value.int .u32 (IntKind.wrap .u32 ((BitVec.ofInt 32 (a:Int) ||| BitVec.ofInt 32 (b:Int)).toNat:Int)))=_;rw[BitVec.ofInt_natCast,BitVec.ofInt_natCast,BitVec.toNat_or,BitVec.toNat_ofNat,BitVec.toNat_ofNat,k0 (by omega),k0 (by omega)];simp[IntKind.wrap,IntKind.bits,IntKind.signed];omega
theorem si{a b i:Nat}(c:b<2^i):(a*2^i) ||| b=a*2^i+b:=by
 rw[dW];exact(Nat.two_pow_add_eq_or_of_lt c a).symm
@[simp] theorem Ve(a b:Nat):((a:Int)).tdiv (b:Int)=((a/b:Nat):Int):=rfl
@[simp] theorem Vf(a b:Nat):((a:Int)).tmod (b:Int)=((a%b:Nat):Int):=rfl
theorem Tm(a n:Nat):((a:Int)).tdiv (no_index (OfNat.ofNat n))=((a/OfNat.ofNat n:Nat):Int):=rfl
theorem TB(a n:Nat):((a:Int)).tmod (no_index (OfNat.ofNat n))=((a%OfNat.ofNat n:Nat):Int):=rfl
attribute [simp] Tm TB
theorem Qj(a n:Nat):((no_index (OfNat.ofNat n):Int)<(a:Int))=(OfNat.ofNat n<a):=by apply propext;exact Int.ofNat_lt
theorem Qo(a n:Nat):((a:Int)<(no_index (OfNat.ofNat n):Int))=(a<OfNat.ofNat n):=by apply propext;exact Int.ofNat_lt
theorem Qi(a n:Nat):((no_index (OfNat.ofNat n):Int)<=(a:Int))=(OfNat.ofNat n<=a):=by apply propext;exact Int.ofNat_le
theorem Qe(a n:Nat):((a:Int)<=(no_index (OfNat.ofNat n):Int))=(a<=OfNat.ofNat n):=by apply propext;exact Int.ofNat_le
theorem Ol(a n:Nat):((a:Int)=(no_index (OfNat.ofNat n):Int))=(a=OfNat.ofNat n):=by apply propext;exact Int.ofNat_inj
attribute [simp] Qj Qo Qi Qe Ol
@[simp] theorem Uf:IntKind.bits .u64=64:=rfl
@[simp] theorem Ue:IntKind.bits .u32=32:=rfl
@[simp] theorem Ud:IntKind.bits .i64=64:=rfl
theorem AG(a b:Nat):((a:Int)).fdiv ((b:Nat):Int)=((a/b:Nat):Int):=by
 rw[CH _ (by omega)];rfl
@[simp] theorem xc(a:Nat):((a:Int)).fdiv 4294967296=((a/4294967296:Nat):Int):=AG a 4294967296
attribute [simp] cg fG cC Bool.cond_decide
@[simp] theorem U1(k:IntKind)(n:Int):c6 (.int k n)=true:=rfl
@[simp] theorem U0(b:Bool):c6 (.bool b)=true:=rfl
@[simp] theorem U4(s:ByteArray):c6 (.string s)=true:=rfl
@[simp] theorem U2(a:Option Addr):c6 (.pointer a)=true:=rfl
@[simp] theorem U3(a:Option Addr)(n c:Nat):c6 (.slice a n c)=true:=rfl
@[simp] theorem Uk(k:IntKind)(n:Int):(Value.int k n).cells=#[.int k n]:=rfl
@[simp] theorem Uj(b:Bool):(Value.bool b).cells=#[.bool b]:=rfl
@[simp] theorem Un(s:ByteArray):(Value.string s).cells=#[.string s]:=rfl
@[simp] theorem Ul(a:Option Addr):(Value.pointer a).cells=#[.pointer a]:=rfl
@[simp] theorem Um(a:Option Addr)(n c:Nat):(Value.slice a n c).cells=#[.slice a n c]:=rfl
@[simp] theorem Ui(a:Array Value):(Value.agg a).cells=a:=rfl
@[simp] theorem Uc(l:List Value):(bB l).cells=l.toArray:=rfl
theorem setCells_one{cs:List Value}{i:Nat}{v:Value}(h:i<cs.length):setCells cs i [v]=some (cs.set i v):=by
 simp only[setCells,cg,List.length_singleton];rw[ix (by omega)];simp only[cond_true];rw[List.set_eq_take_append_cons_drop,aT h];simp
theorem SD{cs az:List Value}(h:cs.length=az.length):setCells cs 0 az=some az:=by
 simp only[setCells,cg];rw[ix (by omega)];simp[h]
@[simp] theorem Uh(k:Nat):((k:Int)<0)=False:=by simp
attribute [simp] setCells_one SD
theorem bR.pick[bq]{pm:Perm}{H:ad}(h:bR pm H)(a:ad):pm.pick a=a.next:=by unfold Perm.pick;rw[h.num]
theorem bR.make[bq]{pm:Perm}{H:ad}(h:bR pm H)(a:ad)(x:bk):pm.make a x=a.new x:=by unfold Perm.make;rw[h.num]
theorem lK[bq]{pm:Perm}{H:ad}(b:bR pm H){a:ad}{z:List Value}{bytes c:Nat}(d:c<=1073741824)(e:bytes*c<=17179869184):
 (mD z bytes (some c) (some c)).run pm a=some (.slice (some ⟨a.next,0,none⟩) c c,a.new (.cells (times z c) (.n z.length))):=by
 unfold mD;simp[d,e,aQ.run,b.make,b.pick]
theorem Ld{pm:Perm}{H:ad}{bZ l h m cap c off:Nat}{cs:List Value}{z:cz}(b:H.get c=some (.cells cs z))(a:z.val=bZ∨z.val=0)(d:l<=h)(e:h<=m)(f:m<=cap):
 (h7 bZ (some ⟨c,off,none⟩) l h m cap).run pm H=some (.slice (some ⟨c,off+l*bZ,none⟩) (h-l) (m-l),H):=by
 unfold h7;simp[d,e,f,b,aQ.run]
 rcases a with a | a<;>simp[a]
theorem SR{pm:Perm}{H:ad}{bZ l h m cap c off:Nat}{cs:List Value}(a:H.get c=some (.ro cs))(b:l<=h)(d:h<=m)(e:m<=cap):
 (h7 bZ (some ⟨c,off,none⟩) l h m cap).run pm H=some (.slice (some ⟨c,off+l*bZ,none⟩) (h-l) (m-l),H):=by
 unfold h7;simp[b,d,e,a,aQ.run]
theorem SQ{pm:Perm}{H:ad}{bZ l h m cap:Nat}(a:l<=h)(b:h<=m)(c:m<=cap):
 (h7 bZ none l h m cap).run pm H=some (.slice none (h-l) (m-l),H):=by
 unfold h7;simp[a,b,c,aQ.run]
theorem qk{H:ad}{x:bk}{b:Nat}(h:b<H.next):(H.new x).get b=H.get b:=by rw[ad.jZ,aC (by omega)]
@[simp] theorem b4{H:ad}{x:bk}:(H.new x).get H.next=some x:=by rw[ad.jZ,aT rfl]
@[simp] theorem b1{H:ad}{x:bk}{b:Nat}:(H.put b x).get b=some x:=by rw[ad.O,aT rfl]
theorem a7{H:ad}{x:bk}{b c:Nat} (h:c≠b:=by omega):(H.put b x).get c=H.get c:=by rw[ad.O,aC h]
@[simp] theorem UY{H:ad}{x:bk}:(H.new x).next=H.next+1:=rfl
@[simp] theorem Ct{H:ad}{x:bk}{b:Nat}:(H.put b x).next=H.next:=rfl
@[simp] theorem U5(ah:Nat)(ok:List Nat)(H:ad):(Perm.mk ah ok none).pick H=H.next:=rfl
def ad.up(H:ad)(n:Nat):ad:=⟨H.t,H.next+n⟩
@[simp] theorem qX(H:ad)(n b:Nat):(H.up n).get b=H.get b:=rfl
@[simp] theorem Vh(H:ad)(n:Nat):(H.up n).next=H.next+n:=rfl
theorem bh.up[bq]{pm:Perm}{H aa:ad}(h:bh pm H aa)(n:Nat):bh pm H (aa.up n) where
 ok:=⟨h.ok.num,aY h.ok.ah (e9 _ _),λb a=>by rw[qX];exact h.ok.wf b (aY (e9 _ _) a),λb a=>h.ok.new b (aY (e9 _ _) a)⟩
 next:=aY h.next (e9 _ _)
 get:=λb a=>h.get b a
def p5(o:aw)(l:bb)(H:ad):Option Value:=match ia o l,o.op with
 | some true,.load a n b=>dG H a n (aO (hd l) b)
 | _,_=>none
def zj(r bn:Rec):Prop:=bn.pe=r.pe/\bn.lL=r.lL/\bn.heap=r.heap/\bn.val=r.val/\∀H u,r.again H=some u->bn.again H=some u
inductive ln:List Rec->List Rec->Prop
 | nil:ln [] []
 | cons {r bn:Rec} {l aN:List Rec} (h:zj r bn) (t:ln l aN):ln (r::l) (bn::aN)
def stepT(pm:Perm)(o:aw)(l:bb)(H:ad):Option (Value×ad×List Nat×List Nat):=match ia o l with
 | some true=>(o.op.B (hd l)).runT pm H
 | some false=>some (bz,H,[],[])
 | none=>none
section
variable(X:ar)(pm:Perm)
abbrev Fin:=List Rec->bb->ad->Prop
def F8(bW:List Bool)(os:List aw)(b:Nat)(e:Env)(H:ad)(h:List Rec)(i:Fin):Prop:=
 ∃a c d,iI (λm f=>hq (X.K m f) pm os b bW e H=some (a,c,d))/\∃f g,gA a f/\ln g d/\i (h.reverse++g) f c
def F9(bW:List Bool)(os:List aw)(b:Nat)(l:bb)(H:ad)(a:List Rec)(c:Fin):Prop:=∀e,gA e l->F8 X pm bW os b e H a c
def fL(o:aw)(f:FuncId)(args:List bC)(bW:List Bool)(os:List aw)(aE k:Nat)(l:bb)(H:ad)(a:List Rec)(b:Fin):Prop:=
 F9 X pm bW ({o with op:=.call f args}::os) (aE+k) l H a b
def iD(bW:List Bool)(os:List aw)(aE k:Nat)(l:bb)(H:ad)(a:List Rec)(b:Fin):Prop:=match os with
 | []=>b a.reverse l H
 | o::os=>match o.op with
   | .call f c=>fL X pm o f c bW os aE k l H a b
   | .hG ..=>False
   | _=>H.get (aE+k)=none/\(match stepT ⟨pm.ah,pm.ok,some (aE+k)⟩ o l H with
     | some (v,c,f,m)=>iD bW.tail os aE (k+1) (hP l o.dst v) c (⟨f,m,H,v,p5 o l⟩::a) b
     | none=>False)
end
theorem MO{e:Env}{l:bb}(b:gA e l){o:aw}{H:ad}{u:Value}(h:p5 o l H=some u):o.again e H=some u:=by
 unfold p5 at h;unfold aw.again;split at h
 ·rename_i _ _ c d f;rw[mf b d,f];simp only
  cases a:aO (hd l) c with
  | none=>rw[a]at h;simp[dG]at h
  | some _=>rw[b.nX.aO a];rw[a]at h;exact h
 ·cases h
theorem TP{e:Env}{l:bb}(b:gA e l){o:aw}{K:bY}{pm:Perm}{bW:Bool}{H:ad}{r:Value×ad×List Nat×List Nat}(c:uu o.op=false)(a:stepT pm o l H=some r):o.runT K pm bW e H=some r:=by
 unfold stepT at a;unfold aw.runT;split at a
 ·rename_i d;rw[mf b d];simp only;have:o.op.dE=false:=by cases e:o.op<;>first | rfl | (rw[e]at c;cases c)
  unfold aV.runT;rw[this];exact(Hq b.nX _).runT a
 ·rename_i f;rw[mf b f];exact a
 ·cases a
section
variable{X:ar}{pm:Perm}
theorem vA{b:Fin}:∀{os:List aw} {bW:List Bool} {aE k:Nat} {l:bb} {H:ad} {a:List Rec},iD X pm bW os aE k l H a b->F9 X pm bW os (aE+k) l H a b
 | [],bW,aE,k,l,H,a,h,e,c=>⟨e,H,[],.of λ_ _=>by simp only[hq],l,[],c,.nil,by simpa [iD]using h⟩
 | o::os,bW,aE,k,l,H,a,h,e,c=>by
   have i:uu o.op=false->(H.get (aE+k)=none/\(match stepT ⟨pm.ah,pm.ok,some (aE+k)⟩ o l H with
    | some (d,j,n,p)=>iD X pm bW.tail os aE (k+1) (hP l o.dst d) j (⟨n,p,H,d,p5 o l⟩::a) b
    | none=>False))->F8 X pm bW (o::os) (aE+k) e H a b:=by
    rintro q ⟨r,h⟩;split at h
    ·rename_i v _ f m s;obtain⟨d,j,k,n,p,t,u,w,x⟩:=vA h _ (c.put o.dst v);refine⟨d,j,⟨f,m,H,v,o.again e⟩::k,n.map λm y z=>?_,p,⟨f,m,H,v,p5 o l⟩::t,u,.cons ⟨rfl,rfl,rfl,rfl,λ_ _=>MO c⟩ w,by simpa using x⟩;have A:=TP (K:=X.K m y) (bW:=bW.headD false) c q s;simp only[hq,r,A,l1,z]
    ·exact h.elim
   unfold iD at h;split at h
   ·rename_i B C g;have:({o with op:=.call B C}:aw)=o:=by cases o;simp only at g;subst g;rfl
    unfold fL at h;rw[this]at h;exact h e c
   ·exact h.elim
   ·rename_i D E;refine i ?_ h;cases d:o.op<;>first | rfl | exact absurd d (D _ _) | exact absurd d (E _ _)
theorem fL.of{o:aw}{f:FuncId}{args:List bC}{bW:List Bool}{os:List aw}{aE k:Nat}{l:bb}{H:ad}{c:List Rec}{d:Fin}{az:List Value}{R:Value->ad->Prop}(g:H.get (aE+k)=none)
 (AW:ia o l=some true) (eA:dN (hd l) args=some az) (i:bW.headD false=false) (h:Call X ⟨H.next,ed ⟨pm.ah,pm.ok,some (aE+k)⟩ az,none⟩ f az H R)
 (j:∀v a,R v a->iD X pm bW.tail os aE (k+1) (hP l o.dst v) a (⟨[],ed ⟨pm.ah,pm.ok,some (aE+k)⟩ az,H,v,λ_=>none⟩::c) d):fL X pm o f args bW os aE k l H c d:=by
 intro e b;obtain⟨v,a,c,d⟩:=h;obtain⟨m,n,p,q,r,s,t,u,w⟩:=vA (j v a d) _ (b.put o.dst v);refine⟨m,n,⟨[],ed ⟨pm.ah,pm.ok,some (aE+k)⟩ az,H,v,({o with op:=.call f args}:aw).again e⟩::p,c.kP q λ_ _ x y=>?_,r,(⟨[],ed ⟨pm.ah,pm.ok,some (aE+k)⟩ az,H,v,λ_=>none⟩:Rec)::s,t,.cons ⟨rfl,rfl,rfl,rfl,λ_ _ h=>(by cases h)⟩ u,by simpa using w⟩;have c:({o with op:=.call f args}:aw).wanted e=some true:=mf b AW;have a:=b.nX.dN eA;have b:(aV.call f args).qm ⟨pm.ah,pm.ok,some (aE+k)⟩ e=ed ⟨pm.ah,pm.ok,some (aE+k)⟩ az:=by simp only[aV.qm,a]
 have d:(aV.call f args).dE=true:=rfl;simp only[hq,g,aw.runT,c,aV.runT,d,cond_true,i,cond_false,b,aV.run,a,x,l1,y]
theorem fL.fixed{o:aw}{f:FuncId}{args:List bC}{bW:List Bool}{os:List aw}{aE k:Nat}{l:bb}{H:ad}{c:List Rec}{d:Fin}{az:List Value}{R:Value->ad->Prop}(g:H.get (aE+k)=none)
 (AW:ia o l=some true) (eA:dN (hd l) args=some az) (i:bW.headD false=true) (h:Call X ⟨pm.ah,pm.ok,none⟩ f az H R)
 (j:∀v a,R v a->iD X pm bW.tail os aE (k+1) (hP l o.dst v) a (⟨[],[],H,v,λ_=>none⟩::c) d):fL X pm o f args bW os aE k l H c d:=by
 intro e b;obtain⟨v,a,c,d⟩:=h;obtain⟨m,n,p,q,r,s,t,u,w⟩:=vA (j v a d) _ (b.put o.dst v);refine⟨m,n,⟨[],[],H,v,({o with op:=.call f args}:aw).again e⟩::p,c.kP q λ_ _ x y=>?_,r,(⟨[],[],H,v,λ_=>none⟩:Rec)::s,t,.cons ⟨rfl,rfl,rfl,rfl,λ_ _ h=>(by cases h)⟩ u,by simpa using w⟩;have a:({o with op:=.call f args}:aw).wanted e=some true:=mf b AW;have c:=b.nX.dN eA;have b:(aV.call f args).dE=true:=rfl;simp only[hq,g,aw.runT,a,aV.runT,b,cond_true,i,aV.run,c,x,l1,y]
theorem fL.not{o:aw}{f:FuncId}{args:List bC}{bW:List Bool}{os:List aw}{aE k:Nat}{l:bb}{H:ad}{a:List Rec}{b:Fin}(d:H.get (aE+k)=none)
 (g:iD X pm bW.tail os aE (k+1) (hP l o.dst bz) H (⟨[],[],H,bz,λ_=>none⟩::a) b) (AW:ia o l=some false:=by simp):fL X pm o f args bW os aE k l H a b:=by
 intro e c;obtain⟨a,b,h,i,j,m,n,p,q⟩:=vA g _ (c.put o.dst bz);refine⟨a,b,⟨[],[],H,bz,({o with op:=.call f args}:aw).again e⟩::h,i.map λ_ _ r=>?_,j,(⟨[],[],H,bz,λ_=>none⟩:Rec)::m,n,.cons ⟨rfl,rfl,rfl,rfl,λ_ _ s=>(by cases s)⟩ p,by simpa using q⟩;have a:({o with op:=.call f args}:aw).wanted e=some false:=mf c AW;simp only[hq,d,aw.runT,a,l1,r]
theorem ln.length{l aN:List Rec}(h:ln l aN):aN.length=l.length:=by
 induction h with
 | nil=>rfl
 | cons _ _ ih=>simp[ih]
theorem ln.get{l aN:List Rec}(h:ln l aN):∀(i:Nat) (r:Rec),l[i]? = some r->∃bn,aN[i]? = some bn/\zj r bn:=by
 induction h with
 | nil=>intro i r h;simp at h
 | cons h _ ih=>
   intro i r a
   cases i with
   | zero=>simp at a;subst a;exact⟨_,rfl,h⟩
   | succ i=>simpa using ih i r (by simpa using a)
theorem K2{r bn:Rec}(h:zj r bn){H:ad}(q:pK r.again r.val H=true):pK bn.again bn.val H=true:=by
 unfold pK at q|-
 cases a:r.again H with
 | none=>rw[a]at q;cases q
 | some u=>rw[h.2.2.2.2 H u a,h.2.2.2.1];rw[a]at q;exact q
theorem On{l aN:List Rec}(h:ln l aN){H:ad}{c:List (Nat×Nat)}(q:cj l H c=true):cj aN H c=true:=by
 unfold cj at q|-;rw[eD]at q|-;rintro⟨i,j⟩ e;have q:=q (i,j) e;dsimp only at q|-
 cases a:l[i]? with
 | none=>rw[a]at q;cases q
 | some x=>
   cases d:l[j]? with
   | none=>rw[a,d]at q;cases q
   | some y=>
     obtain⟨_,e,k⟩:=h.get i x a;obtain⟨_,i,b⟩:=h.get j y d;rw[a,d]at q;rw[e,i];simp only[b3,ir]at q|-;rw[k.2.1,b.2.1,b.1];refine⟨q.1,q.2.imp id λq=>?_⟩;unfold yD at q|-;simp only[b3,eD]at q|-;refine⟨λ_ i=>?_,K2 b q.2⟩;obtain⟨k,e⟩:=CG i;have i:=(je.1 e).1;have:∃c,l[k]? = some c:=⟨l[k]'(by rw[<-h.length];exact i),by simp⟩;obtain⟨c,f⟩:=this;obtain⟨_,g,m⟩:=h.get k c f;rw[e]at g;cases g;rw[m.2.2.1];exact K2 b (q.1 c (eB f))
theorem IY{l aN:List Rec}(h:ln l aN){aE:Nat}:∀{a bF:List Rec} {q:Nat},ln a bF->cd l aE a q=true->cd aN aE bF q=true
 | _,_,_,.nil,_=>rfl
 | _,_,q,.cons (r:=r) (bn:=bn) A0 ph,hm=>by
   simp only[cd,b3,eD]at hm|-;refine⟨λb c=>?_,IY h ph hm.2⟩;rw[A0.1]at c;have:=hm.1 b c;rw[h.length];revert this
   cases a:l[b-aE]? with
   | none=>
     have:aN[b-aE]? = none:=by
      rw[List.getElem?_eq_none_iff]at a|-;rw[h.length];exact a
     rw[this];exact id
   | some x=>
     obtain⟨_,b,c⟩:=h.get _ x a;rw[b];simp only[c.2.1];exact id
def FH(X:ar)(pm:Perm)(c:jn)(aE:Nat)(au:List Fr)(Q:b5):Fin:=λa d b=>cj a b c.ja=true/\cd a aE a 0=true/\wp X pm (.res .normal) d b au Q
@[simp] theorem T9{c:jn}{aE:Nat}{au:List Fr}{Q:b5}{a:List Rec}{aN:bb}{aa:ad}:FH X pm c aE au Q a aN aa=(cj a aa c.ja=true/\cd a aE a 0=true/\wp X pm (.res .normal) aN aa au Q):=rfl
theorem cy.of{os:List aw}{c:jn}{l:bb}{H:ad}{au:List Fr}{Q:b5}{a:List aw}(h:pm.ah<=H.next)(i:(b7 os c.ord).map (·.2)=a)
 (k:iD X pm c.fixed a H.next 0 l (H.up os.length) [] (FH X pm c H.next au Q)):cy X pm os (some c) l H au Q:=by
 intro e j;obtain⟨a,d,m,n,_,_,o,b,f,g,q⟩:=vA k e j;simp only[List.reverse_nil,u4]at f g;refine⟨.normal,a,d,n.map λj n p=>?_,kx q a o⟩;have p:hq (X.K j n) pm ((b7 os c.ord).map (·.2)) H.next c.fixed e ⟨H.t,H.next+os.length⟩=some (a,d,m):=by rw[i];exact p
 have a:Nat.ble pm.ah H.next=true:=by rw[cg];simpa using h
 simp only[eval,nZ,a,cond_true,p,On b f,IY b b g,Bool.and_self]
@[simp] theorem Vi{bW:List Bool}{aE k:Nat}{l:bb}{H:ad}{a:List Rec}{b:Fin}:iD X pm bW [] aE k l H a b=b a.reverse l H:=by simp only[iD]
@[simp] theorem Vj{o:aw}{os:List aw}{bW:List Bool}{aE k:Nat}{l:bb}{H:ad}{a:List Rec}{b:Fin}:iD X pm bW (o::os) aE k l H a b=(match o.op with
  | .call f args=>fL X pm o f args bW os aE k l H a b
  | .hG ..=>False
  | _=>H.get (aE+k)=none/\(match stepT ⟨pm.ah,pm.ok,some (aE+k)⟩ o l H with
    | some (v,aa,f,m)=>iD X pm bW.tail os aE (k+1) (hP l o.dst v) aa (⟨f,m,H,v,p5 o l⟩::a) b
    | none=>False)):=by rw[iD]
attribute [simp] stepT aQ.runT
theorem QD{H:ad}{z:List Value}{bytes l c ah b:Nat}{fx:List Nat}(g':l<=c)(a:c<=1073741824)(d:bytes*c<=17179869184):
 (mD z bytes (some l) (some c)).runT ⟨ah,fx,some b⟩ H=some (.slice (some ⟨b,0,none⟩) l c,H.put b (.cells (times z c) (.n z.length)),[],[b]):=by
 unfold mD;simp[g',a,d,aQ.runT,Perm.make,Perm.pick]
def aQ.calm:aQ->Prop
 | .ret _ | .fail=>True
 | .get _ k=>∀x,(k x).calm
 | _=>False
theorem GP{c:Bool}{x y:aQ}(a:x.calm)(a:y.calm):(bif c then x else y).calm:=by cases c<;>assumption
theorem RC{o:aV}{e:Env}(h:(o.md||o.fw)=false):(o.B e).calm:=by
 cases o<;>first | (simp[aV.md,aV.fw]at h;done) | skip
 case conv c _=>
  cases c<;>first | (simp[aV.md,aV.fw]at h;done) | skip
  all_goals simp only[aV.B,cS,kG,ei]
  all_goals repeat' (first | trivial | (intro _;dsimp only) | (intro _) | (refine GP ?_ ?_) | split)
 all_goals simp only[aV.B,cS,eT,jV,lA,h7,nW,qg,pd,jW,nU,nT,nV,pc]
 all_goals repeat' (first | trivial | (intro _;dsimp only) | (intro _) | (refine GP ?_ ?_) | split)
theorem GQ:∀(x:aQ) {pm dC:Perm} {H aa:ad} {v:Value},x.calm->x.run pm H=some (v,aa)->aa=H/\∃f,x.runT dC H=some (v,H,f,[])/\∀b∈f,∃y,H.get b=some y
 | .ret _,pm,dC,H,aa,v,_,h=>by
   simp only[aQ.run,ax,bT]at h;obtain⟨rfl,rfl⟩:=h;exact⟨rfl,[],rfl,λ_ h=>by cases h⟩
 | .fail,_,_,_,_,_,_,h=>by cases h
 | .get b k,pm,dC,H,aa,v,d,h=>by
   simp only[aQ.run]at h;split at h
   ·rename_i x c;obtain⟨rfl,f,e,g⟩:=GQ (k x) (dC:=dC) (d x) h;refine⟨rfl,b::f,by simp only[aQ.runT,c,e],λi a=>?_⟩
    rcases hk.1 a with rfl | a
    ·exact⟨x,c⟩
    ·exact g i a
   ·cases h
def wD(o:aw):Bool:=!(o.op.md||o.op.fw||uu o.op)
theorem zO{aE:Nat}{K:bY}{H:ad}(j:∀b y,H.get b=some y->b<aE):∀{os:List aw} {bW:List Bool} {b:Nat} {e g:Env} {aa:ad},os.all wD=true->aE<=b->hK K pm os e H=some (g,aa)->
 aa=H/\∃i,hq K pm os b bW e H=some (g,H,i)/\∀r∈i,r.lL=[]/\∀c∈r.pe,c<aE
 | [],bW,b,e,g,aa,_,_,h=>by
   simp only[hK,ax,bT]at h;obtain⟨rfl,rfl⟩:=h;exact⟨rfl,[],by simp only[hq],λ_ h=>by cases h⟩
 | o::os,bW,b,e,g,aa,k,_,h=>by
   simp only[nc,b3]at k;obtain⟨d,m⟩:=k;simp only[wD,iq,Bool.or_eq_false_iff]at d;have n:o.op.dE=false:=by cases p:o.op<;>first | rfl | (have:=d.2;rw[p]at this;cases this)
   have q:H.get b=none:=by
    cases c:H.get b with
    | none=>rfl
    | some y=>have:=j b y c;omega
   simp only[hK]at h;split at h
   ·rename_i v s a;have t:s=H/\∃f,o.runT K ⟨pm.ah,pm.ok,some b⟩ (bW.headD false) e H=some (v,H,f,[])/\∀c∈f,c<aE:=by
     unfold aw.run at a;unfold aw.runT
     cases l:o.wanted e with
     | none=>rw[l]at a;cases a
     | some r=>
       rw[l]at a
       cases r with
       | false=>
         simp only[ax,bT]at a;obtain⟨rfl,rfl⟩:=a;exact⟨rfl,[],rfl,λ_ h=>by cases h⟩
       | true=>
         simp only at a;rw[KL d.2]at a;obtain⟨u,f,w,x⟩:=GQ (o.op.B e) (dC:=⟨pm.ah,pm.ok,some b⟩) (RC (by simp[d.1.1,d.1.2])) a;refine⟨u,f,?_,λc z=>by obtain⟨y,A⟩:=x c z;exact j c y A⟩;simp only;unfold aV.runT;rw[n];exact w
    obtain⟨rfl,f,c,l⟩:=t;obtain⟨rfl,i,u,w⟩:=zO j (bW:=bW.tail) (b:=b+1) m (by omega) h;refine⟨rfl,⟨f,[],aa,v,o.again e⟩::i,by simp only[hq,q,c,u],λr a=>?_⟩
    rcases hk.1 a with rfl | a
    ·exact⟨rfl,l⟩
    ·exact w r a
   ·cases h
theorem cy.calm[bq]{os:List aw}{c:jn}{l:bb}{H:ad}{au:List Fr}{Q:b5}{g:List aw}(h:bR pm H)(o:c.ja=[])(p:(b7 os c.ord).map (·.2)=g)(d:g.all wD=true)
 (k:wp X pm (.ops g) l (H.up os.length) au Q):cy X pm os (some c) l H au Q:=by
 intro i g;obtain⟨j,_,e,s⟩:=kx k i g;have n:∀b y,(H.up os.length).get b=some y->b<H.next:=λb y g=>h.lt g;obtain⟨N,e⟩:=e;obtain⟨m,_⟩:=zO (K:=X.K N N) (pm:=pm) n (bW:=c.fixed) (b:=H.next) d (bg _) (e N N (bg _) (bg _));subst m;refine⟨.normal,j,_,⟨N,λm g t u=>?_⟩,s⟩;obtain⟨_,f,s,v⟩:=zO (K:=X.K m g) (pm:=pm) n (bW:=c.fixed) (b:=H.next) d (bg _) (e m g t u);have w:hq (X.K m g) pm ((b7 os c.ord).map (·.2)) H.next c.fixed i ⟨H.t,H.next+os.length⟩=some (j,H.up os.length,f):=by rw[p];exact s
 have x:Nat.ble pm.ah H.next=true:=by rw[cg];simpa using h.ah
 have z:∀(e a:List Rec) (q:Nat),(∀r∈a,∀c∈r.pe,c<H.next)->cd e H.next a q=true:=by
  intro e a
  induction a with
  | nil=>intro q _;rfl
  | cons r a ih=>
    intro q h;simp only[cd,b3];refine⟨?_,ih (q+1) λr a=>h r (.tail _ a)⟩;rw[eD];intro c d;have:=h r (.head _) c d;simp[fG,this]
 have d:cj f (H.up os.length) c.ja=true:=by rw[o];rfl
 simp only[eval,nZ,x,cond_true,w,d,z f f 0 λr a=>(v r a).2,Bool.and_self]
theorem cy.tP[bq]{os:List aw}{c:jn}{l:bb}{H:ad}{au:List Fr}{Q:b5}(a:bR pm H)(b:c.ja=[])(d:(b7 os c.ord).map (·.2)=os)(e:os.all wD=true)
 (k:wp X pm (.ops os) l (H.up os.length) au Q):cy X pm os (some c) l H au Q:=cy.calm a b d e k
end
end Go.Dam
namespace Go.Dam.C
open Go Go.Dam
@[simp] def m(a b:Nat):aw:=⟨some a,none,.cM (.t b)⟩
@[simp] def o(a:Nat)(x:aV):aw:=⟨some a,none,x⟩
@[simp] def av(d a:Nat):aw:=o d (.load false 1 (.t a))
@[simp] def ca(d n a:Nat):aw:=o d (.load true n (.t a))
@[simp] def aB(d k a:Nat):aw:=o d (.fieldAddr k (.t a))
@[simp] def aR(d w a b:Nat):aw:=o d (.iW w (.t a) (.t b))
@[simp] def bA(w a b:Nat):aw:=⟨none,none,.store w (.t a) (.t b)⟩
@[simp] def bc(d:Nat)(p:BinOp)(a b:Nat):aw:=o d (.bin p .bE (.t a) (.t b))
@[simp] def aU(d:Nat)(p:BinOp)(a n:Nat):aw:=o d (.bin p .bE (.t a) (.c (.int .i64 (.ofNat n))))
@[simp] def bH(d n:Nat):aw:=o d (.cM (.c (.int .i64 (.ofNat n))))
@[simp] def bp(d a:Nat):aw:=o d (.len .l (.t a))
@[simp] def a6(d a i:Nat):aw:=o d (.extract (.t a) i)
@[simp] def b2(d a:Nat):aw:=o d (.nilCheck (.t a))
@[simp] def eQ(d a:Nat):aw:=o d (.un .not (.t a))
@[simp] def ds(d n a:Nat):aw:=o d (.box n (.t a))
@[simp] def aX(d f a:Nat):aw:=o d (.call f [.t a])
@[simp] def bm(d f a b:Nat):aw:=o d (.call f [.t a,.t b])
@[simp] def iQ(d f a b c:Nat):aw:=o d (.call f [.t a,.t b,.t c])
@[simp] def ae(l:List aw)(x:aM):aM:=.seq (.bj l) x
@[simp] def cp(a n:Nat):aM:=.cond (.t a) .skip (.exit n)
abbrev ci(n:Nat):bC:=.c (.int .i64 (.ofNat n))
@[simp] def bM(d:Nat):aw:=o d (.cM (.c (.bool false)))
@[simp] def fU(d:Nat):aw:=o d (.cM (.c (.bool true)))
@[simp] def cU(d:Nat):aw:=o d (.cM (.c (.pointer none)))
@[simp] def hb(d:Nat):aw:=o d (.cM (.c (.slice none 0 0)))
@[simp] def bK(d g:Nat)(x:aV):aw:=⟨some d,some (g,true),x⟩
@[simp] def bS(d g:Nat)(x:aV):aw:=⟨some d,some (g,false),x⟩
@[simp] def c9(d:Nat)(k:IntKind)(a:Nat):aw:=o d (.conv (.int k) (.t a))
@[simp] def di(d a b:Nat):aw:=o d (.pick (.t a) (.t b) (.c (.bool false)))
@[simp] def dV(d a b:Nat):aw:=o d (.pick (.t a) (.c (.bool true)) (.t b))
@[simp] def hx(d n:Nat):aw:=o d (.cM (.c (.int .i64 (.negSucc n))))
@[simp] def ju(d x y a b:Nat):aw:=o d (.append x y (.t a) (.t b))
@[simp] def mH(d a:Nat):aw:=o d (.len .s (.t a))
@[simp] def ig(d:Nat)(p:BinOp)(a:Nat):aw:=o d (.bin p (.nil .ptr) (.t a) (.c (.pointer none)))
@[simp] def nK(d f n:Nat):aw:=o d (.call f [.c (.int .i64 (.ofNat n))])
@[simp] def cT(d g a:Nat):aw:=bK d g (.cM (.t a))
@[simp] def cQ(d g a:Nat):aw:=bK d g (.load false 1 (.t a))
@[simp] def ec(d g k a:Nat):aw:=bK d g (.fieldAddr k (.t a))
@[simp] def lG(d g w a b:Nat):aw:=bK d g (.iW w (.t a) (.t b))
@[simp] def h'(d g:Nat)(p:BinOp)(a b:Nat):aw:=bK d g (.bin p .bE (.t a) (.t b))
@[simp] def dm(d g a:Nat):aw:=bS d g (.cM (.t a))
@[simp] def dB(d g a:Nat):aw:=bS d g (.load false 1 (.t a))
@[simp] def eb(d g k a:Nat):aw:=bS d g (.fieldAddr k (.t a))
@[simp] def n2(d g w a b:Nat):aw:=bS d g (.iW w (.t a) (.t b))
@[simp] def lF(d g:Nat)(p:BinOp)(a b:Nat):aw:=bS d g (.bin p .bE (.t a) (.t b))
def c5(a b:Nat):List Bool:=List.replicate a false++List.replicate b true
def F.ft:Nat:=65
def F.dp:Nat:=99
def F.fu:Nat:=125
def F.cN:Nat:=120
def F.iZ:Nat:=79
def F.kQ:Nat:=126
def F.kS:Nat:=127
def F.hM:Nat:=81
def F.n7:Nat:=124
def F.j5:Nat:=235
def F.kT:Nat:=196
def F.kU:Nat:=199
def F.j6:Nat:=201
def F.mL:Nat:=121
def F.oa:Nat:=200
def F.j4:Nat:=134
def F.mK:Nat:=197
def F.n':Nat:=198
def F.n9:Nat:=133
def F.mJ:Nat:=73
def F.lM:Nat:=116
def F.lu:Nat:=191
def F.nI:Nat:=315
def F.nH:Nat:=66
def F.Da:Nat:=122
def F.Db:Nat:=179
def F.Dg:Nat:=123
def F.vq:Nat:=178
def F.l9:Nat:=115
def F.l':Nat:=114
def F.jd:Nat:=77
def F.hh:Nat:=72
def F.mV:Nat:=98
def F.fW:Nat:=22
def F.jB:Nat:=78
def F.hy:Nat:=27
def F.hQ:Nat:=69
def F.mW:Nat:=80
def F.gq:Nat:=42
def F.ij:Nat:=82
def F.ik:Nat:=44
def F.fV:Nat:=43
def F.jc:Nat:=64
def F.gJ:Nat:=36
def F.dY:Nat:=41
def F.mU:Nat:=236
def F.lT:Nat:=117
def F.BD:Nat:=4
def F.gI:Nat:=28
def F.l6:Nat:=176
def F.l5:Nat:=177
def F.l7:Nat:=247
def F.oC:Nat:=248
def F.nn:Nat:=321
def F.zD:Nat:=361
def F.jy:Nat:=75
def F.hf:Nat:=37
def F.og:Nat:=31
def F.oh:Nat:=34
def F.i':Nat:=8
def F.oe:Nat:=30
def F.mP:Nat:=33
def F.ke:Nat:=35
def F.qG:Nat:=45
def F.pv:Nat:=10
def F.oA:Nat:=29
def F.l3:Nat:=32
def F.nm:Nat:=74
def F.oB:Nat:=76
def F.pI:Nat:=57
def F.py:Nat:=40
def F.px:Nat:=39
def F.pw:Nat:=9
def F.qD:Nat:=38
def F.mS:Nat:=47
def F.mQ:Nat:=19
def F.qE:Nat:=11
def F.qF:Nat:=46
def F.jK:Nat:=83
def F.oS:Nat:=84
def F.oP:Nat:=48
def F.nx:Nat:=88
def F.ny:Nat:=89
def F.ns:Nat:=128
def F.mh:Nat:=86
def F.oN:Nat:=87
def F.oT:Nat:=85
def F.oM:Nat:=49
def F.nt:Nat:=93
def F.nA:Nat:=55
def F.oL:Nat:=90
def F.nB:Nat:=129
def F.oO:Nat:=91
def F.oK:Nat:=51
def F.nC:Nat:=92
def F.nz:Nat:=52
def F.nu:Nat:=54
def F.oR:Nat:=50
def F.oQ:Nat:=53
def F.nr:Nat:=12
def F.jS:Nat:=59
def F.nN:Nat:=14
def F.mC:Nat:=60
def F.nL:Nat:=15
def F.pJ:Nat:=95
def F.nk:Nat:=96
def F.L':Nat:=192
def F.Uu:Nat:=132
def F.F6:Nat:=130
def F.Tu:Nat:=193
def F.Ob:Nat:=267
def F.Tt:Nat:=194
def F.Tz:Nat:=131
def F.Vv:Nat:=94
def F.Vw:Nat:=58
def F.SA:Nat:=13
def F.SB:Nat:=56
def F.Dh:Nat:=195
def F.mG:Nat:=5
def F.Bs:Nat:=7
def F.km:Nat:=6
def F.mA:Nat:=16
def F.ng:Nat:=17
def F.nR:Nat:=61
def F.nQ:Nat:=97
def F.Vz:Nat:=3
@[simp] def ft:aZ:=⟨10,(ae [cU 2] (ae (m 3 0::c9 4 .u32 3::m 5 0::o 6 (.bin .shr .bE (.t 5) (.c (.int .u64 (.ofNat 32))))::c9 7 .u32 6::o 8 (.buildSlice [(.int .u32 (.ofNat 0)),(.int .u32 (.ofNat 0))] 1 2 [(0,1,(.t 4)),(1,1,(.t 7))])::aX 9 F.dp 8::[m 2 9]) .ret)),[.slot 2]⟩
@[simp] def dp:aZ:=⟨23,(ae [cU 2] (ae [m 4 0,bp 5 4,m 3 5] (.seq (.block 0 (.loop (.seq (ae [m 6 3,aU 7 .gtr 6 0,m 8 7,cT 9 8 0,cT 10 8 3,bK 11 8 (.bin .sub .bE (.t 10) (ci 1)),lG 12 8 1 9 11,cQ 13 8 12,bK 14 8 (.bin .eql .bE (.t 13) (.c (.int .u32 (.ofNat 0)))),di 15 8 14] (cp 15 0)) (.block 1 (.bj [m 16 3,aU 17 .sub 16 1,m 3 17]))))) (ae [m 18 0,m 19 3,o 20 (.iA 1 (.t 18) none (some (.t 19)) none),o 21 (.build [(.slice none 0 0)] [(0,1,(.t 20))]),ds 22 206 21,m 2 22] .ret)))),[.slot 2]⟩
@[simp] def fu:aZ:=⟨14,(ae [o 4 (.cM (.c (.int .u64 (.ofNat 0))))] (.seq (ae [m 5 1,m 6 0,bp 7 6,bc 8 .lss 5 7] (.cond (.t 8) (ae [m 9 0,m 10 1,aR 11 1 9 10,av 12 11,c9 13 .u64 12,m 4 13] .ret) .skip)) (ae [o 4 (.cM (.c (.int .u64 (.ofNat 0))))] .ret))),[.slot 4]⟩
@[simp] def cN:aZ:=⟨9,(ae [hb 2] (.seq (ae [m 3 0,ig 4 .eql 3] (.cond (.t 4) (ae [hb 2] .ret) .skip)) (ae [m 5 0,b2 6 5,aB 7 0 6,av 8 7,m 2 8] .ret))),[.slot 2]⟩
@[simp] def iZ:aZ:=⟨36,(ae [bH 4 0] (ae (m 10 0::aX 11 F.cN 10::m 12 1::aX 13 F.cN 12::[m 5 11,m 6 13]) (.seq (ae [m 14 5,bp 15 14,m 16 6,bp 17 16,o 18 (.max2 (.t 15) (.t 17)),aU 19 .sub 18 1,m 7 19] (.block 0 (.loop (.seq (ae [m 20 7,aU 21 .geq 20 0] (cp 21 0)) (.seq (.block 1 (ae (m 24 5::m 25 7::bm 26 F.fu 24 25::m 27 6::m 28 7::bm 29 F.fu 27 28::[m 8 26,m 9 29]) (ae [m 30 8,m 31 9,bc 32 .neq 30 31] (.cond (.t 32) (.seq (ae [m 33 8,m 34 9,bc 35 .lss 33 34] (.cond (.t 35) (ae [hx 4 0] .ret) .skip)) (ae [bH 4 1] .ret)) .skip)))) (.bj [m 22 7,aU 23 .sub 22 1,m 7 23])))))) (ae [bH 4 0] .ret)))),[.slot 4]⟩
@[simp] def kQ:aZ:=⟨45,(ae [cU 4] (ae (m 10 0::aX 11 F.cN 10::m 12 1::aX 13 F.cN 12::[m 5 11,m 6 13]) (ae [m 14 5,bp 15 14,m 16 6,bp 17 16,o 18 (.max2 (.t 15) (.t 17)),aU 19 .add 18 1,o 20 (.mkSlice [(.int .u32 (.ofNat 0))] 4 (.t 19) (.t 19)),m 7 20] (ae [o 8 (.cM (.c (.int .u64 (.ofNat 0))))] (.seq (ae [m 21 7,bp 22 21,bH 23 0] (.block 0 (.loop (ae [bc 24 .lss 23 22] (.seq (cp 24 0) (.seq (.block 1 (ae [m 25 23,m 9 25] (ae (m 26 8::m 27 5::m 28 9::bm 29 F.fu 27 28::m 30 6::m 31 9::bm 32 F.fu 30 31::[bc 33 .add 29 32,bc 34 .add 26 33,m 8 34]) (ae [m 35 7,m 36 9,m 37 8,c9 38 .u32 37,aR 39 1 35 36,bA 1 39 38] (.bj [m 40 8,o 41 (.bin .shr .bE (.t 40) (.c (.int .u64 (.ofNat 32)))),m 8 41]))))) (.bj [aU 42 .add 23 1,m 23 42]))))))) (ae (m 43 7::aX 44 F.dp 43::[m 4 44]) .ret)))))),[.slot 4]⟩
@[simp] def kS:aZ:=⟨48,(ae [cU 4,bM 5] (.seq (ae (m 11 0::m 12 1::bm 13 F.iZ 11 12::[aU 14 .lss 13 0]) (.cond (.t 14) (ae [cU 4,bM 5] .ret) .skip)) (ae (m 15 0::aX 16 F.cN 15::m 17 1::aX 18 F.cN 17::[m 6 16,m 7 18]) (ae [m 19 6,bp 20 19,o 21 (.mkSlice [(.int .u32 (.ofNat 0))] 4 (.t 20) (.t 20)),m 8 21] (ae [bH 9 0] (.seq (ae [m 22 8,bp 23 22,bH 24 0] (.block 0 (.loop (ae [bc 25 .lss 24 23] (.seq (cp 25 0) (.seq (.block 1 (ae [m 26 24,m 10 26] (ae (m 27 9::m 28 6::m 29 10::bm 30 F.fu 28 29::c9 31 .i64 30::m 32 7::m 33 10::bm 34 F.fu 32 33::[c9 35 .i64 34,bc 36 .sub 31 35,bc 37 .add 27 36,m 9 37]) (ae [m 38 8,m 39 10,m 40 9,c9 41 .u32 40,aR 42 1 38 39,bA 1 42 41] (.bj [m 43 9,o 44 (.bin .shr .bE (.t 43) (.c (.int .u64 (.ofNat 32)))),m 9 44]))))) (.bj [aU 45 .add 24 1,m 24 45]))))))) (ae (m 46 8::aX 47 F.dp 46::[m 4 47,fU 5]) .ret))))))),[.slot 4,.slot 5]⟩
@[simp] def hM:aZ:=⟨73,(ae [cU 4] (ae (m 13 0::aX 14 F.cN 13::m 15 1::aX 16 F.cN 15::[m 5 14,m 6 16]) (ae [m 17 5,bp 18 17,m 19 6,bp 20 19,bc 21 .add 18 20,o 22 (.mkSlice [(.int .u32 (.ofNat 0))] 4 (.t 21) (.t 21)),m 7 22] (.seq (ae [m 23 5,bp 24 23,bH 25 0] (.block 0 (.loop (ae [bc 26 .lss 25 24] (.seq (cp 26 0) (.seq (.block 1 (ae [m 27 25,aR 28 1 23 25,av 29 28,m 8 27,m 9 29] (ae [o 10 (.cM (.c (.int .u64 (.ofNat 0))))] (.seq (ae [m 30 6,bp 31 30,bH 32 0] (.block 2 (.loop (ae [bc 33 .lss 32 31] (.seq (cp 33 2) (.seq (.block 3 (ae [m 34 32,aR 35 1 30 32,av 36 35,m 11 34,m 12 36] (ae [m 37 10,m 38 9,c9 39 .u64 38,m 40 12,c9 41 .u64 40,bc 42 .mul 39 41,m 43 7,m 44 8,m 45 11,bc 46 .add 44 45,aR 47 1 43 46,av 48 47,c9 49 .u64 48,bc 50 .add 42 49,bc 51 .add 37 50,m 10 51] (ae [m 52 7,m 53 8,m 54 11,bc 55 .add 53 54,m 56 10,c9 57 .u32 56,aR 58 1 52 55,bA 1 58 57] (.bj [m 59 10,o 60 (.bin .shr .bE (.t 59) (.c (.int .u64 (.ofNat 32)))),m 10 60]))))) (.bj [aU 61 .add 32 1,m 32 61]))))))) (.bj [m 62 7,m 63 8,m 64 6,bp 65 64,bc 66 .add 63 65,m 67 10,c9 68 .u32 67,aR 69 1 62 66,bA 1 69 68]))))) (.bj [aU 70 .add 25 1,m 25 70]))))))) (ae (m 71 7::aX 72 F.dp 71::[m 4 72]) .ret))))),[.slot 4]⟩
@[simp] def n7:aZ:=⟨22,(ae [bH 2 0] (ae (m 4 0::aX 5 F.cN 4::[m 3 5]) (.seq (ae [m 6 3,bp 7 6,aU 8 .eql 7 0] (.cond (.t 8) (ae [bH 2 0] .ret) .skip)) (ae (m 9 3::bp 10 9::aU 11 .sub 10 1::o 12 (.bin .mul .bE (ci 32) (.t 11))::m 13 3::m 14 3::bp 15 14::aU 16 .sub 15 1::aR 17 1 13 16::av 18 17::c9 19 .u64 18::aX 20 F.lu 19::[bc 21 .add 12 20,m 2 21]) .ret)))),[.slot 2]⟩
@[simp] def j5:aZ:=⟨22,(ae [bH 2 0] (.seq (ae (m 5 0::aX 6 F.cN 5::[bp 7 6,bH 8 0]) (.block 0 (.loop (ae [bc 9 .lss 8 7] (.seq (cp 9 0) (.seq (.block 1 (ae [m 10 8,aR 11 1 6 8,av 12 11,m 3 10,m 4 12] (ae [m 13 4,o 14 (.bin .neq .bE (.t 13) (.c (.int .u32 (.ofNat 0))))] (.cond (.t 14) (ae (m 15 3::o 16 (.bin .mul .bE (ci 32) (.t 15))::m 17 4::c9 18 .u64 17::aX 19 F.nI 18::[bc 20 .add 16 19,m 2 20]) .ret) .skip)))) (.bj [aU 21 .add 8 1,m 8 21]))))))) (ae [bH 2 0] .ret))),[.slot 2]⟩
@[simp] def kT:aZ:=⟨29,(ae [o 2 (.cM (.c (.int .u64 (.ofNat 0)))),bM 3] (ae [o 4 (.cM (.c (.int .u64 (.ofNat 0))))] (ae (m 8 0::aX 9 F.cN 8::[m 5 9]) (.seq (ae [m 10 5,bp 11 10,aU 12 .gtr 11 2] (.cond (.t 12) (ae [o 2 (.cM (.c (.int .u64 (.ofNat 0)))),bM 3] .ret) .skip)) (.seq (ae [m 13 5,bp 14 13,bH 15 0] (.block 0 (.loop (ae [bc 16 .lss 15 14] (.seq (cp 16 0) (.seq (.block 1 (ae [m 17 15,aR 18 1 13 15,av 19 18,m 6 17,m 7 19] (.bj [m 20 4,m 21 7,c9 22 .u64 21,m 23 6,o 24 (.bin .mul .bE (ci 32) (.t 23)),bc 25 .shl 22 24,bc 26 .or 20 25,m 4 26]))) (.bj [aU 27 .add 15 1,m 15 27]))))))) (ae [m 28 4,m 2 28,fU 3] .ret)))))),[.slot 2,.slot 3]⟩
@[simp] def kU:aZ:=⟨55,(ae [cU 4] (ae (m 10 0::aX 11 F.cN 10::[m 5 11]) (ae [m 12 5,bp 13 12,m 14 1,aU 15 .quo 14 32,bc 16 .add 13 15,aU 17 .add 16 1,o 18 (.mkSlice [(.int .u32 (.ofNat 0))] 4 (.t 17) (.t 17)),m 6 18] (.seq (ae [m 19 5,bp 20 19,bH 21 0] (.block 0 (.loop (ae [bc 22 .lss 21 20] (.seq (cp 22 0) (.seq (.block 1 (ae [m 23 21,aR 24 1 19 21,av 25 24,m 7 23,m 8 25] (ae [m 26 8,c9 27 .u64 26,m 28 1,aU 29 .rem 28 32,bc 30 .shl 27 29,m 9 30] (ae [m 31 6,m 32 7,m 33 1,aU 34 .quo 33 32,bc 35 .add 32 34,aR 36 1 31 35,av 37 36,m 38 9,c9 39 .u32 38,bc 40 .or 37 39,aR 41 1 31 35,bA 1 41 40] (.bj [m 42 6,m 43 7,m 44 1,aU 45 .quo 44 32,bc 46 .add 43 45,aU 47 .add 46 1,m 48 9,o 49 (.bin .shr .bE (.t 48) (.c (.int .u64 (.ofNat 32)))),c9 50 .u32 49,aR 51 1 42 47,bA 1 51 50]))))) (.bj [aU 52 .add 21 1,m 21 52]))))))) (ae (m 53 6::aX 54 F.dp 53::[m 4 54]) .ret))))),[.slot 4]⟩
@[simp] def j6:aZ:=⟨47,(ae [cU 4] (ae (m 8 0::aX 9 F.cN 8::[m 5 9]) (.seq (ae [m 10 1,aU 11 .quo 10 32,m 12 5,bp 13 12,bc 14 .geq 11 13] (.cond (.t 14) (ae (o 15 (.call F.dp [(.c (.slice none 0 0))])::[m 4 15]) .ret) .skip)) (ae [m 16 5,m 17 1,aU 18 .quo 17 32,o 19 (.iA 1 (.t 16) (some (.t 18)) none none),m 5 19] (ae [m 20 5,bp 21 20,o 22 (.mkSlice [(.int .u32 (.ofNat 0))] 4 (.t 21) (.t 21)),m 6 22] (.seq (ae [m 23 6,bp 24 23,bH 25 0] (.block 0 (.loop (ae [bc 26 .lss 25 24] (.seq (cp 26 0) (.seq (.block 1 (ae [m 27 25,m 7 27] (.bj (m 28 6::m 29 7::m 30 5::m 31 7::bm 32 F.fu 30 31::m 33 5::m 34 7::aU 35 .add 34 1::bm 36 F.fu 33 35::[o 37 (.bin .shl .bE (.t 36) (.c (.int .u64 (.ofNat 32)))),bc 38 .or 32 37,m 39 1,aU 40 .rem 39 32,bc 41 .shr 38 40,c9 42 .u32 41,aR 43 1 28 29,bA 1 43 42])))) (.bj [aU 44 .add 25 1,m 25 44]))))))) (ae (m 45 6::aX 46 F.dp 45::[m 4 46]) .ret))))))),[.slot 4]⟩
@[simp] def mL:aZ:=⟨39,(ae [hb 4,o 5 (.cM (.c (.int .u64 (.ofNat 0))))] (ae [m 9 0,bp 10 9,o 11 (.mkSlice [(.int .u32 (.ofNat 0))] 4 (.t 10) (.t 10)),m 6 11] (ae [o 7 (.cM (.c (.int .u64 (.ofNat 0))))] (.seq (ae [m 12 0,bp 13 12,aU 14 .sub 13 1,m 8 14] (.block 0 (.loop (.seq (ae [m 15 8,aU 16 .geq 15 0] (cp 16 0)) (.seq (.block 1 (ae [m 19 7,o 20 (.bin .shl .bE (.t 19) (.c (.int .u64 (.ofNat 32)))),m 21 0,m 22 8,aR 23 1 21 22,av 24 23,c9 25 .u64 24,bc 26 .or 20 25,m 7 26] (ae [m 27 6,m 28 8,m 29 7,m 30 1,bc 31 .quo 29 30,c9 32 .u32 31,aR 33 1 27 28,bA 1 33 32] (.bj [m 34 7,m 35 1,bc 36 .rem 34 35,m 7 36])))) (.bj [m 17 8,aU 18 .sub 17 1,m 8 18])))))) (ae [m 37 6,m 38 7,m 4 37,m 5 38] .ret))))),[.slot 4,.slot 5]⟩
def mM:aM:=ae [o 9 (.cM (.c (.int .u64 (.ofNat 0)))),bH 10 0] (.seq (ae [m 82 1,bp 83 82,bH 84 0] (.block 2 (.loop (ae [bc 85 .lss 84 83] (.seq (cp 85 2) (.seq (.block 3 (ae [m 86 84,aR 87 1 82 84,av 88 87,m 11 86,m 12 88] (ae [m 89 9,m 90 7,m 91 12,c9 92 .u64 91,bc 93 .mul 90 92,bc 94 .add 89 93,m 9 94] (ae [m 95 10,m 96 0,m 97 11,aR 98 1 96 97,av 99 98,c9 100 .i64 99,m 101 9,c9 102 .u32 101,c9 103 .i64 102,bc 104 .sub 100 103,bc 105 .add 95 104,m 10 105] (ae [m 106 0,m 107 11,m 108 10,c9 109 .u32 108,aR 110 1 106 107,bA 1 110 109] (.bj [m 111 9,o 112 (.bin .shr .bE (.t 111) (.c (.int .u64 (.ofNat 32)))),m 113 10,o 114 (.bin .shr .bE (.t 113) (.c (.int .u64 (.ofNat 32)))),m 9 112,m 10 114])))))) (.bj [aU 115 .add 84 1,m 84 115]))))))) (ae [m 116 10,m 117 0,m 118 5,aR 119 1 117 118,av 120 119,c9 121 .i64 120,m 122 9,c9 123 .i64 122,bc 124 .sub 121 123,bc 125 .add 116 124,m 10 125] (ae [m 126 0,m 127 5,m 128 10,c9 129 .u32 128,aR 130 1 126 127,bA 1 130 129] (.seq (ae [m 131 10,aU 132 .geq 131 0] (.cond (.t 132) (ae [m 133 7,c9 134 .u32 133,m 4 134] .ret) .skip)) (ae [o 13 (.cM (.c (.int .u64 (.ofNat 0))))] (.seq (ae [m 135 1,bp 136 135,bH 137 0] (.block 4 (.loop (ae [bc 138 .lss 137 136] (.seq (cp 138 4) (.seq (.block 5 (ae [m 139 137,aR 140 1 135 137,av 141 140,m 14 139,m 15 141] (ae [m 142 13,m 143 0,m 144 14,aR 145 1 143 144,av 146 145,c9 147 .u64 146,m 148 15,c9 149 .u64 148,bc 150 .add 147 149,bc 151 .add 142 150,m 13 151] (ae [m 152 0,m 153 14,m 154 13,c9 155 .u32 154,aR 156 1 152 153,bA 1 156 155] (.bj [m 157 13,o 158 (.bin .shr .bE (.t 157) (.c (.int .u64 (.ofNat 32)))),m 13 158]))))) (.bj [aU 159 .add 137 1,m 137 159]))))))) (ae [m 160 0,m 161 5,aR 162 1 160 161,av 163 162,m 164 13,c9 165 .u32 164,bc 166 .add 163 165,aR 167 1 160 161,bA 1 167 166] (ae [m 168 7,o 169 (.bin .sub .bE (.t 168) (.c (.int .u64 (.ofNat 1)))),c9 170 .u32 169,m 4 170] .ret))))))))
@[simp] def oa:aZ:=⟨171,(ae [o 4 (.cM (.c (.int .u32 (.ofNat 0))))] (ae [m 16 1,bp 17 16,m 5 17] (.seq (.draw [m 18 0,m 19 5,aR 20 1 18 19,av 21 20,c9 22 .u64 21,o 23 (.bin .shl .bE (.t 22) (.c (.int .u64 (.ofNat 32)))),m 24 0,m 25 5,aU 26 .sub 25 1,aR 27 1 24 26,av 28 27,c9 29 .u64 28,bc 30 .or 23 29,m 6 30] (some ⟨[0,1,2,3,4,5,6,7,8,9,10,11,12,13],c5 12 2,[]⟩)) (ae [m 31 6,m 32 1,m 33 5,aU 34 .sub 33 1,aR 35 1 32 34,av 36 35,c9 37 .u64 36,bc 38 .quo 31 37,o 39 (.min2 (.t 38) (.c (.int .u64 (.ofNat 4294967295)))),m 7 39] (ae [m 40 6,m 41 7,m 42 1,m 43 5,aU 44 .sub 43 1,aR 45 1 42 44,av 46 45,c9 47 .u64 46,bc 48 .mul 41 47,bc 49 .sub 40 48,m 8 49] (.seq (.block 0 (.loop (.seq (.seq (.draw [m 50 8,o 51 (.bin .leq .bE (.t 50) (.c (.int .u64 (.ofNat 4294967295)))),m 52 51,cT 53 52 7,cT 54 52 1,cT 55 52 5,bK 56 52 (.bin .sub .bE (.t 55) (ci 2)),lG 57 52 1 54 56,cQ 58 52 57,bK 59 52 (.conv (.int .u64) (.t 58)),h' 60 52 .mul 53 59,cT 61 52 8,bK 62 52 (.bin .shl .bE (.t 61) (.c (.int .u64 (.ofNat 32)))),cT 63 52 0,cT 64 52 5,bK 65 52 (.bin .sub .bE (.t 64) (ci 2)),lG 66 52 1 63 65,cQ 67 52 66,bK 68 52 (.conv (.int .u64) (.t 67)),h' 69 52 .or 62 68,h' 70 52 .gtr 60 69,di 71 52 70] (some ⟨[0,1,2,3,4,5,6,7,8,9,10,11,12,13,14,15,16,17,18,19,20,21],[true,true,true,false,false,false,false,false,false,false,false,false,false,false,false,false,false,false,false,false,true,true],[]⟩)) (cp 71 0)) (.block 1 (ae [m 72 7,o 73 (.bin .sub .bE (.t 72) (.c (.int .u64 (.ofNat 1)))),m 7 73] (.bj [m 74 8,m 75 1,m 76 5,aU 77 .sub 76 1,aR 78 1 75 77,av 79 78,c9 80 .u64 79,bc 81 .add 74 80,m 8 81])))))) mM)))))),[.slot 4]⟩
def sa:aM:=ae (m 113 12::aX 114 F.dp 113::m 115 11::aX 116 F.dp 115::m 117 10::bm 118 F.j6 116 117::[m 4 114,m 5 118,fU 6]) .ret
def r':aM:=ae [m 87 11,bp 88 87,m 89 7,bp 90 89,bc 91 .sub 88 90,o 92 (.mkSlice [(.int .u32 (.ofNat 0))] 4 (.t 91) (.t 91)),m 12 92] (.seq (ae [m 93 12,bp 94 93,aU 95 .sub 94 1,m 13 95] (.block 3 (.loop (.seq (ae [m 96 13,aU 97 .geq 96 0] (cp 97 3)) (.seq (.block 4 (.bj (m 100 12::m 101 13::m 102 11::m 103 13::m 104 13::m 105 7::bp 106 105::bc 107 .add 104 106::aU 108 .add 107 1::o 109 (.iA 1 (.t 102) (some (.t 103)) (some (.t 108)) none)::m 110 7::bm 111 F.oa 109 110::[aR 112 1 100 101,bA 1 112 111]))) (.bj [m 98 13,aU 99 .sub 98 1,m 13 99])))))) sa)
def n8:aM:=.seq (.block 1 (.loop (.seq (ae [m 76 11,bp 77 76,m 78 0,b2 79 78,aB 80 0 79,av 81 80,bp 82 81,bc 83 .leq 77 82] (cp 83 1)) (.block 2 (.bj [m 84 11,o 85 (.buildSlice [(.int .u32 (.ofNat 0))] 1 1 [(0,1,(.c (.int .u32 (.ofNat 0))))]),ju 86 1 4 84 85,m 11 86]))))) r'
def mI:aM:=ae (m 47 7::m 48 7::bp 49 48::aU 50 .sub 49 1::aR 51 1 47 50::av 52 51::c9 53 .u64 52::aX 54 F.lu 53::[o 55 (.bin .sub .bE (ci 32) (.t 54)),m 10 55]) (ae (m 56 1::m 57 10::bm 58 F.kU 56 57::[b2 59 58,aB 60 0 59,av 61 60,m 7 61]) (.seq (.draw [m 62 0,b2 63 62,aB 64 0 63,av 65 64,bp 66 65,aU 67 .add 66 2,o 68 (.mkSlice [(.int .u32 (.ofNat 0))] 4 (ci 0) (.t 67)),m 69 0,m 70 10,bm 71 F.kU 69 70,b2 72 71,aB 73 0 72,av 74 73,ju 75 1 4 68 74,m 11 75] (some ⟨[0,1,2,3,4,5,6,7,8,9,10,11,12,13,14],c5 13 2,[(9,3),(9,4),(6,9),(6,12)]⟩)) n8))
@[simp] def j4:aZ:=⟨119,(ae [cU 4,cU 5,bM 6] (ae (m 14 1::aX 15 F.cN 14::[m 7 15]) (.seq (.block 0 (ae [m 17 7,bp 18 17,aU 19 .eql 18 0,m 16 19] (.cond (.t 16) (ae [cU 4,cU 5,bM 6] .ret) (ae (m 21 0::m 22 1::bm 23 F.iZ 21 22::[aU 24 .lss 23 0,m 20 24]) (.cond (.t 20) (ae (o 25 (.call F.dp [(.c (.slice none 0 0))])::m 26 0::aX 27 F.cN 26::aX 28 F.dp 27::[m 4 25,m 5 28,fU 6]) .ret) (ae [m 30 7,bp 31 30,aU 32 .eql 31 1,m 29 32] (.cond (.t 29) (.seq (.draw [m 34 0,aX 35 F.cN 34,m 36 7,o 37 (.iW 1 (.t 36) (ci 0)),av 38 37,c9 39 .u64 38,bm 40 F.mL 35 39,m 33 40,a6 41 33 0,a6 42 33 1,m 8 41,m 9 42] (some ⟨[0,2,3,4,5,1,6,7,8,9,10,11],c5 6 6,[(5,3),(5,4)]⟩)) (ae (m 43 8::aX 44 F.dp 43::m 45 9::aX 46 F.ft 45::[m 4 44,m 5 46,fU 6]) .ret)) .skip))))))) mI))),[.slot 4,.slot 5,.slot 6]⟩
@[simp] def mK:aZ:=⟨12,(ae [o 4 (.cM (.c (.int .u64 (.ofNat 0))))] (.seq (.block 0 (.loop (.seq (ae [m 5 1,o 6 (.bin .neq .bE (.t 5) (.c (.int .u64 (.ofNat 0))))] (cp 6 0)) (.block 1 (.draw [m 7 1,m 8 0,m 9 1,bc 10 .rem 8 9,m 0 7,m 1 10] (some ⟨[0,1,2,3,4,5],c5 0 6,[]⟩)))))) (ae [m 11 0,m 4 11] .ret))),[.slot 4]⟩
def j7:aM:=ae (m 38 0::m 39 1::bm 40 F.kS 38 39::[m 37 40,a6 41 37 0,a6 42 37 1,m 6 41,m 7 42]) (ae (m 43 6::m 44 6::aX 45 F.j5 44::bm 46 F.j6 43 45::[m 0 46]) (ae [m 47 0,b2 48 47,aB 49 0 48,av 50 49,bp 51 50,aU 52 .leq 51 2,m 53 52,cT 54 53 1,bK 55 53 (.nilCheck (.t 54)),ec 56 53 0 55,cQ 57 53 56,bK 58 53 (.len .l (.t 57)),bK 59 53 (.bin .leq .bE (.t 58) (ci 2)),di 60 53 59] (.cond (.t 60) (ae (m 62 0::aX 63 F.kT 62::[m 61 63,a6 64 61 0,a6 65 61 1,m 8 64,m 9 65]) (ae (m 67 1::aX 68 F.kT 67::[m 66 68,a6 69 66 0,a6 70 66 1,m 10 69,m 11 70]) (ae (m 71 8::m 72 10::bm 73 F.mK 71 72::aX 74 F.ft 73::m 75 5::bm 76 F.kU 74 75::[m 4 76]) .ret))) .skip)))
@[simp] def n':aZ:=⟨77,(ae [cU 4] (ae (m 12 0::aX 13 F.j5 12::m 14 1::aX 15 F.j5 14::[o 16 (.min2 (.t 13) (.t 15)),m 5 16]) (ae (m 17 0::m 18 0::aX 19 F.j5 18::bm 20 F.j6 17 19::m 21 1::m 22 1::aX 23 F.j5 22::bm 24 F.j6 21 23::[m 0 20,m 1 24]) (.block 0 (.loop (.block 1 (.seq (ae [m 25 0,m 26 1,bm 27 F.iZ 25 26] (.block 2 (ae [aU 29 .eql 27 0,m 28 29] (.cond (.t 28) (ae (m 30 0::m 31 5::bm 32 F.kU 30 31::[m 4 32]) .ret) (ae [o 34 (.bin .eql .bE (.t 27) (.c (.int .i64 (.negSucc 0)))),m 33 34] (.cond (.t 33) (.bj [m 35 1,m 36 0,m 0 35,m 1 36]) .skip)))))) j7))))))),[.slot 4]⟩
def kR:aM:=.seq (ae (m 34 6::aX 35 F.cN 34::[bp 36 35,aU 37 .eql 36 0]) (.cond (.t 37) (ae (m 38 5::aX 39 F.cN 38::aX 40 F.dp 39::[m 4 40]) .ret) .skip)) (.seq (ae (m 41 5::aX 42 F.cN 41::bp 43 42::m 44 6::aX 45 F.cN 44::[bp 46 45,bc 47 .neq 43 46]) (.cond (.t 47) (ae (m 49 5::m 50 6::bm 51 F.j4 49 50::[m 48 51,a6 52 48 0,a6 53 48 1,a6 54 48 2,m 11 52,m 12 53,m 13 54]) (ae [m 55 6,m 56 12,m 5 55,m 6 56] (.exit 1))) .skip)) (ae (m 57 5::m 58 6::bm 59 F.n' 57 58::[m 4 59]) .ret))
@[simp] def n9:aZ:=⟨60,(ae [cU 4] (ae [m 14 0,m 15 1,m 5 14,m 6 15] (.block 0 (.loop (.block 1 (ae (m 17 5::aX 18 F.kT 17::[m 16 18,a6 19 16 0,a6 20 16 1,m 7 19,m 8 20]) (ae (m 22 6::aX 23 F.kT 22::[m 21 23,a6 24 21 0,a6 25 21 1,m 9 24,m 10 25]) (.seq (ae [m 26 8,m 27 26,cT 28 27 10,di 29 27 28] (.cond (.t 29) (ae (m 30 7::m 31 9::bm 32 F.mK 30 31::aX 33 F.ft 32::[m 4 33]) .ret) .skip)) kR)))))))),[.slot 4]⟩
@[simp] def mJ:aZ:=⟨41,(ae [o 2 (.cM (.c (.string ⟨#[]⟩)))] (ae (m 8 0::aX 9 F.cN 8::[o 10 (.append 1 4 (.c (.slice none 0 0)) (.t 9)),m 3 10]) (ae [o 4 (.cM (.c (.string ⟨#[]⟩)))] (.seq (.block 0 (.loop (.seq (ae [m 11 3,bp 12 11,aU 13 .gtr 12 0] (cp 13 0)) (.block 1 (ae (m 15 3::o 16 (.call F.mL [(.t 15),(.c (.int .u64 (.ofNat 1000000000)))])::[m 14 16,a6 17 14 0,a6 18 14 1,m 5 17,m 6 18]) (ae (m 19 5::aX 20 F.dp 19::[b2 21 20,aB 22 0 21,av 23 22,m 3 23]) (ae (m 24 6::o 25 (.call F.Da [(.t 24),(ci 10)])::[m 7 25]) (.seq (ae [m 26 3,bp 27 26,aU 28 .gtr 27 0] (.cond (.t 28) (.bj (m 29 7::mH 30 29::o 31 (.bin .sub .bE (ci 9) (.t 30))::o 32 (.call F.Dg [(.c (.string ⟨#[48]⟩)),(.t 31)])::[m 33 7,bc 34 .add 32 33,m 7 34])) .skip)) (.bj [m 35 7,m 36 4,bc 37 .add 35 36,m 4 37]))))))))) (.seq (ae [m 38 4,o 39 (.bin .eql .bE (.t 38) (.c (.string ⟨#[]⟩)))] (.cond (.t 39) (ae [o 2 (.cM (.c (.string ⟨#[48]⟩)))] .ret) .skip)) (ae [m 40 4,m 2 40] .ret)))))),[.slot 2]⟩
def po:aM:=ae (o 30 (.call F.dp [(.c (.slice none 0 0))])::[m 4 30]) (.seq (ae [m 31 0,mH 32 31,aU 33 .rem 32 9,m 5 33] (.block 0 (.loop (.seq (ae [m 34 0,o 35 (.bin .neq .bE (.t 34) (.c (.string ⟨#[]⟩)))] (cp 35 0)) (.seq (.block 1 (ae [m 36 5,aU 37 .gtr 36 0] (.cond (.t 37) (ae (m 39 0::m 40 5::o 41 (.iB (.t 39) none (some (.t 40)))::o 42 (.call F.Db [(.t 41),(ci 10),(ci 32)])::[m 38 42,a6 43 38 0,a6 44 38 1,m 6 43,m 7 44]) (ae (m 45 4::o 46 (.call F.ft [(.c (.int .u64 (.ofNat 1000000000)))])::bm 47 F.hM 45 46::m 48 6::aX 49 F.ft 48::bm 50 F.kQ 47 49::[m 4 50]) (.bj [m 51 0,m 52 5,o 53 (.iB (.t 51) (some (.t 52)) none),m 0 53]))) .skip))) (.bj [bH 5 9])))))) (ae [m 54 4,m 2 54,fU 3] .ret))
def uC:aM:=.cond (.t 29) (ae [cU 2,bM 3] .ret) .skip
def uD:List aw:=[bS 28 25 (.bin .neq .bE (.t 27) (.c (.string ⟨#[]⟩))),dV 29 25 28]
@[simp] def lM:aZ:=⟨55,(ae [cU 2,bM 3] (.seq (ae (m 8 0::o 9 (.bin .eql .bE (.t 8) (.c (.string ⟨#[]⟩)))::m 10 9::dm 11 10 0::bS 12 10 (.len .s (.t 11))::bS 13 10 (.bin .gtr .bE (.t 12) (ci 2000))::dV 14 10 13::m 15 14::dm 16 15 0::bS 17 15 (.len .s (.t 16))::bS 18 15 (.bin .gtr .bE (.t 17) (ci 1))::dm 19 15 18::cT 20 19 0::bK 21 19 (.j2 (.t 20) (ci 0))::bK 22 19 (.bin .eql .bE (.t 21) (.c (.int .u8 (.ofNat 48))))::bS 23 15 (.pick (.t 19) (.t 22) (.c (.bool false)))::dV 24 15 23::m 25 24::dm 26 25 0::bS 27 25 (.call F.vq [(.t 26),(.c (.string ⟨#[48,49,50,51,52,53,54,55,56,57]⟩))])::uD) uC) po)),[.slot 2,.slot 3]⟩
@[simp] def lu:aZ:=⟨23,(ae [bH 2 0] (ae [bH 3 0] (.seq (ae [bH 4 32] (.block 0 (.loop (.seq (ae [m 5 4,aU 6 .gtr 5 0] (cp 6 0)) (.seq (.block 1 (ae [m 9 0,m 10 4,bc 11 .shr 9 10,o 12 (.bin .neq .bE (.t 11) (.c (.int .u64 (.ofNat 0))))] (.cond (.t 12) (ae [m 13 0,m 14 4,bc 15 .shr 13 14,m 0 15] (.bj [m 16 3,m 17 4,bc 18 .add 16 17,m 3 18])) .skip))) (.bj [m 7 4,aU 8 .quo 7 2,m 4 8])))))) (ae [m 19 3,m 20 0,c9 21 .i64 20,bc 22 .add 19 21,m 2 22] .ret)))),[.slot 2]⟩
@[simp] def nI:aZ:=⟨11,(ae [bH 2 0] (.seq (ae [m 3 0,o 4 (.bin .eql .bE (.t 3) (.c (.int .u64 (.ofNat 0))))] (.cond (.t 4) (ae [bH 2 64] .ret) .skip)) (ae (m 5 0::m 6 0::o 7 (.un .neg (.t 6))::bc 8 .and 5 7::aX 9 F.lu 8::[aU 10 .sub 9 1,m 2 10]) .ret))),[.slot 2]⟩
@[simp] def nH:aZ:=⟨10,(ae [o 2 (.cM (.c (.int .u64 (.ofNat 0))))] (.seq (ae [m 3 0,aU 4 .lss 3 0] (.cond (.t 4) (ae [m 5 0,c9 6 .u64 5,o 7 (.un .neg (.t 6)),m 2 7] .ret) .skip)) (ae [m 8 0,c9 9 .u64 8,m 2 9] .ret))),[.slot 2]⟩
@[simp] def l9:aZ:=⟨13,(ae [o 4 (.cM (.c (.string ⟨#[]⟩))),o 5 (.cM (.c (.string ⟨#[]⟩))),bM 6] (ae (m 7 0::m 8 1::bm 9 F.l5 7 8::[a6 10 9 0,a6 11 9 1,a6 12 9 2,m 4 10,m 5 11,m 6 12]) .ret)),[.slot 4,.slot 5,.slot 6]⟩
@[simp] def l':aZ:=⟨11,(ae [o 4 (.cM (.c (.string ⟨#[]⟩))),bM 5] (ae (m 6 0::m 7 1::bm 8 F.l6 6 7::[a6 9 8 0,a6 10 8 1,m 4 9,m 5 10]) .ret)),[.slot 4,.slot 5]⟩
@[simp] def jd:aZ:=⟨6,(ae [bM 2] (ae (m 3 0::aX 4 F.n7 3::[aU 5 .eql 4 0,m 2 5]) .ret)),[.slot 2]⟩
@[simp] def hh:aZ:=⟨28,(ae [bM 2,cU 3,cU 4] (.seq (ae [m 5 0,ig 6 .eql 5,m 7 6,dm 8 7 0,bS 9 7 (.nilCheck (.t 8)),eb 10 7 2 9,dB 11 7 10,bS 12 7 (.bin .eql (.nil .ptr) (.t 11) (.c (.pointer none))),dV 13 7 12] (.cond (.t 13) (ae (o 14 (.call F.ft [(.c (.int .u64 (.ofNat 0)))])::o 15 (.call F.ft [(.c (.int .u64 (.ofNat 1)))])::[bM 2,m 3 14,m 4 15]) .ret) .skip)) (.seq (.draw [m 16 0,b2 17 16,aB 18 0 17,av 19 18,m 20 0,b2 21 20,aB 22 1 21,av 23 22,m 24 0,b2 25 24,aB 26 2 25,av 27 26,m 2 19,m 3 23,m 4 27] (some ⟨[0,1,2,3,4,5,6,7,8,9,10,11,12,13,14],c5 14 1,[]⟩)) .ret))),[.slot 2,.slot 3,.slot 4]⟩
def lS:aM:=.seq (ae [m 32 1,ig 33 .eql 32] (.cond (.t 33) (.bj (o 34 (.call F.ft [(.c (.int .u64 (.ofNat 0)))])::[m 1 34])) .skip)) (ae (m 35 0::m 36 35::cT 37 36 1::bK 38 36 (.call F.jd [(.t 37)])::[bK 39 36 (.un .not (.t 38)),di 40 36 39,m 41 1,m 42 2,o 43 (.build [(.bool false),(.pointer none),(.pointer none)] [(0,1,(.t 40)),(1,1,(.t 41)),(2,1,(.t 42))]),ds 44 111 43,m 6 44,fU 7]) .ret)
abbrev T.Cw:Nat:=111
@[simp] def mV:aZ:=⟨45,(ae [cU 6,bM 7] (.seq (ae [m 9 2,aX 10 F.jd 9] (.cond (.t 10) (ae [cU 6,bM 7] .ret) .skip)) (.seq (ae (m 11 1::m 12 2::bm 13 F.n9 11 12::[m 8 13]) (ae (m 14 8::o 15 (.call F.ft [(.c (.int .u64 (.ofNat 1)))])::bm 16 F.iZ 14 15::[aU 17 .neq 16 0]) (.cond (.t 17) (ae (m 19 1::m 20 8::bm 21 F.j4 19 20::[m 18 21,a6 22 18 0,a6 23 18 1,a6 24 18 2,m 1 22]) (.bj (m 26 2::m 27 8::bm 28 F.j4 26 27::[m 25 28,a6 29 25 0,a6 30 25 1,a6 31 25 2,m 2 29]))) .skip))) lS))),[.slot 6,.slot 7]⟩
abbrev T.RZ:Nat:=111
@[simp] def fW:aZ:=⟨11,(ae [cU 2] (ae (m 3 0::aU 4 .lss 3 0::m 5 0::aX 6 F.nH 5::aX 7 F.ft 6::o 8 (.call F.ft [(.c (.int .u64 (.ofNat 1)))])::[o 9 (.build [(.bool false),(.pointer none),(.pointer none)] [(0,1,(.t 4)),(1,1,(.t 7)),(2,1,(.t 8))]),ds 10 111 9,m 2 10]) .ret)),[.slot 2]⟩
@[simp] def jB:aZ:=⟨17,(ae [cU 6] (ae (m 10 0::m 11 1::m 12 2::iQ 13 F.mV 10 11 12::[m 9 13,a6 14 9 0,a6 15 9 1,m 7 14,m 8 15]) (ae [m 16 7,m 6 16] .ret))),[.slot 6]⟩
@[simp] def hy:aZ:=⟨28,(ae [o 2 (.cM (.c (.string ⟨#[]⟩)))] (ae (m 9 0::aX 10 F.hh 9::[m 8 10,a6 11 8 0,a6 12 8 1,a6 13 8 2,m 3 11,m 4 12,m 5 13]) (ae (m 14 4::aX 15 F.mJ 14::[m 6 15]) (.seq (ae [m 16 3] (.cond (.t 16) (.bj [m 17 6,o 18 (.bin .add .bE (.c (.string ⟨#[45]⟩)) (.t 17)),m 6 18]) .skip)) (.seq (ae (m 19 5::aX 20 F.mJ 19::[m 7 20]) (ae [m 21 7,o 22 (.bin .neq .bE (.t 21) (.c (.string ⟨#[49]⟩)))] (.cond (.t 22) (.bj [m 23 6,m 24 7,o 25 (.bin .add .bE (.c (.string ⟨#[47]⟩)) (.t 24)),bc 26 .add 23 25,m 6 26]) .skip))) (ae [m 27 6,m 2 27] .ret)))))),[.slot 2]⟩
def lR:aM:=ae (m 47 5::m 48 9::m 49 11::iQ 50 F.jB 47 48 49::[m 13 50]) (.seq (ae (m 51 13::aX 52 F.hy 51::[m 53 0,bc 54 .neq 52 53]) (.cond (.t 54) (ae [cU 2,bM 3] .ret) .skip)) (ae [m 55 13,m 2 55,fU 3] .ret))
def qJ:aM:=ae (m 28 6::aX 29 F.lM 28::[m 27 29,a6 30 27 0,a6 31 27 1,m 9 30,m 10 31]) (ae (m 33 7::aX 34 F.lM 33::[m 32 34,a6 35 32 0,a6 36 32 1,m 11 35,m 12 36]) (.seq (ae (m 37 10::eQ 38 37::m 39 38::dm 40 39 12::bS 41 39 (.un .not (.t 40))::dV 42 39 41::m 43 42::dm 44 43 11::bS 45 43 (.call F.jd [(.t 44)])::[dV 46 43 45]) (.cond (.t 46) (ae [cU 2,bM 3] .ret) .skip)) lR))
def sv:aM:=ae (m 20 4::o 21 (.call F.l9 [(.t 20),(.c (.string ⟨#[47]⟩))])::[m 19 21,a6 22 19 0,a6 23 19 1,a6 24 19 2,m 6 22,m 7 23,m 8 24]) (.seq (ae [m 25 8,eQ 26 25] (.cond (.t 26) (.bj [o 7 (.cM (.c (.string ⟨#[49]⟩)))]) .skip)) qJ)
@[simp] def hQ:aZ:=⟨56,(ae [cU 2,bM 3] (ae (m 15 0::o 16 (.call F.l' [(.t 15),(.c (.string ⟨#[45]⟩))])::[m 14 16,a6 17 14 0,a6 18 14 1,m 4 17,m 5 18]) sv)),[.slot 2,.slot 3]⟩
@[simp] def mW:aZ:=⟨38,(ae [bM 8,cU 9] (.seq (ae [m 14 0,m 15 2,o 16 (.bin .eql .bool (.t 14) (.t 15))] (.cond (.t 16) (ae (m 17 0::m 18 1::m 19 3::bm 20 F.kQ 18 19::[m 8 17,m 9 20]) .ret) .skip)) (.seq (ae (m 22 1::m 23 3::bm 24 F.kS 22 23::[m 21 24,a6 25 21 0,a6 26 21 1,m 10 25,m 11 26]) (ae [m 27 11] (.cond (.t 27) (ae [m 28 0,m 29 10,m 8 28,m 9 29] .ret) .skip))) (ae (m 31 3::m 32 1::bm 33 F.kS 31 32::[m 30 33,a6 34 30 0,a6 35 30 1,m 12 34,m 13 35]) (ae [m 36 2,m 37 12,m 8 36,m 9 37] .ret))))),[.slot 8,.slot 9]⟩
@[simp] def gq:aZ:=⟨67,(ae [cU 4] (ae (m 16 0::aX 17 F.hh 16::[m 15 17,a6 18 15 0,a6 19 15 1,a6 20 15 2,m 5 18,m 6 19,m 7 20]) (ae (m 22 1::aX 23 F.hh 22::[m 21 23,a6 24 21 0,a6 25 21 1,a6 26 21 2,m 8 24,m 9 25,m 10 26]) (.seq (ae [m 27 6,aX 28 F.jd 27] (.cond (.t 28) (ae (m 29 8::m 30 9::m 31 10::iQ 32 F.jB 29 30 31::[m 4 32]) .ret) .skip)) (.seq (ae (m 33 7::m 34 10::bm 35 F.iZ 33 34::[aU 36 .eql 35 0]) (.cond (.t 36) (ae (m 38 5::m 39 6::m 40 8::m 41 9::o 42 (.call F.mW [(.t 38),(.t 39),(.t 40),(.t 41)])::[m 37 42,a6 43 37 0,a6 44 37 1,m 11 43,m 12 44]) (ae (m 45 11::m 46 12::m 47 7::iQ 48 F.jB 45 46 47::[m 4 48]) .ret)) .skip)) (ae (m 50 5::m 51 6::m 52 10::bm 53 F.hM 51 52::m 54 8::m 55 9::m 56 7::bm 57 F.hM 55 56::o 58 (.call F.mW [(.t 50),(.t 53),(.t 54),(.t 57)])::[m 49 58,a6 59 49 0,a6 60 49 1,m 13 59,m 14 60]) (ae (m 61 13::m 62 14::m 63 7::m 64 10::bm 65 F.hM 63 64::iQ 66 F.jB 61 62 65::[m 4 66]) .ret))))))),[.slot 4]⟩
abbrev T.Cv:Nat:=111
@[simp] def ij:aZ:=⟨23,(ae [cU 2] (ae (m 7 0::aX 8 F.hh 7::[m 6 8,a6 9 6 0,a6 10 6 1,a6 11 6 2,m 3 9,m 4 10,m 5 11]) (ae (m 12 3::eQ 13 12::m 14 13::cT 15 14 4::bK 16 14 (.call F.jd [(.t 15)])::[bK 17 14 (.un .not (.t 16)),di 18 14 17,m 19 4,m 20 5,o 21 (.build [(.bool false),(.pointer none),(.pointer none)] [(0,1,(.t 18)),(1,1,(.t 19)),(2,1,(.t 20))]),ds 22 111 21,m 2 22]) .ret))),[.slot 2]⟩
@[simp] def ik:aZ:=⟨9,(ae [cU 4] (ae (m 5 0::m 6 1::aX 7 F.ij 6::bm 8 F.gq 5 7::[m 4 8]) .ret)),[.slot 4]⟩
@[simp] def fV:aZ:=⟨33,(ae [cU 4] (ae (m 12 0::aX 13 F.hh 12::[m 11 13,a6 14 11 0,a6 15 11 1,a6 16 11 2,m 5 14,m 6 15,m 7 16]) (ae (m 18 1::aX 19 F.hh 18::[m 17 19,a6 20 17 0,a6 21 17 1,a6 22 17 2,m 8 20,m 9 21,m 10 22]) (ae (m 23 5::m 24 8::o 25 (.bin .neq .bool (.t 23) (.t 24))::m 26 6::m 27 9::bm 28 F.hM 26 27::m 29 7::m 30 10::bm 31 F.hM 29 30::iQ 32 F.jB 25 28 31::[m 4 32]) .ret)))),[.slot 4]⟩
@[simp] def jc:aZ:=⟨36,(ae [cU 4,bM 5] (ae (m 13 0::aX 14 F.hh 13::[m 12 14,a6 15 12 0,a6 16 12 1,a6 17 12 2,m 6 15,m 7 16,m 8 17]) (ae (m 19 1::aX 20 F.hh 19::[m 18 20,a6 21 18 0,a6 22 18 1,a6 23 18 2,m 9 21,m 10 22,m 11 23]) (ae (m 24 6::m 25 9::o 26 (.bin .neq .bool (.t 24) (.t 25))::m 27 7::m 28 11::bm 29 F.hM 27 28::m 30 8::m 31 10::bm 32 F.hM 30 31::iQ 33 F.mV 26 29 32::[a6 34 33 0,a6 35 33 1,m 4 34,m 5 35]) .ret)))),[.slot 4,.slot 5]⟩
@[simp] def gJ:aZ:=⟨9,(ae [bH 4 0] (ae (m 5 0::m 6 1::bm 7 F.ik 5 6::aX 8 F.dY 7::[m 4 8]) .ret)),[.slot 4]⟩
@[simp] def dY:aZ:=⟨17,(ae [bH 2 0] (ae (m 7 0::aX 8 F.hh 7::[m 6 8,a6 9 6 0,a6 10 6 1,a6 11 6 2,m 3 9,m 4 10,m 5 11]) (.seq (.block 0 (ae [m 13 3,m 12 13] (.cond (.t 12) (ae [hx 2 0] .ret) (ae (m 15 4::aX 16 F.jd 15::[m 14 16]) (.cond (.t 14) (ae [bH 2 0] .ret) .skip))))) (ae [bH 2 1] .ret)))),[.slot 2]⟩
def kX:aM:=ae (m 31 3::m 32 6::o 33 (.call F.ft [(.c (.int .u64 (.ofNat 1)))])::iQ 34 F.jB 31 32 33::[m 2 34]) .ret
@[simp] def mU:aZ:=⟨35,(ae [cU 2] (ae (m 10 0::aX 11 F.hh 10::[m 9 11,a6 12 9 0,a6 13 9 1,a6 14 9 2,m 3 12,m 4 13,m 5 14]) (ae (m 16 4::m 17 5::bm 18 F.j4 16 17::[m 15 18,a6 19 15 0,a6 20 15 1,a6 21 15 2,m 6 19,m 7 20,m 8 21]) (.seq (ae (m 22 3::m 23 22::cT 24 23 7::bK 25 23 (.call F.jd [(.t 24)])::[bK 26 23 (.un .not (.t 25)),di 27 23 26]) (.cond (.t 27) (.bj (m 28 6::o 29 (.call F.ft [(.c (.int .u64 (.ofNat 1)))])::bm 30 F.kQ 28 29::[m 6 30])) .skip)) kX)))),[.slot 2]⟩
@[simp] def lT:aZ:=⟨16,(ae [bM 2] (ae (m 7 0::aX 8 F.hh 7::[m 6 8,a6 9 6 0,a6 10 6 1,a6 11 6 2,m 3 9,m 4 10,m 5 11]) (ae (m 12 5::o 13 (.call F.ft [(.c (.int .u64 (.ofNat 1)))])::bm 14 F.iZ 12 13::[aU 15 .eql 14 0,m 2 15]) .ret))),[.slot 2]⟩
@[simp] def gI:aZ:=⟨11,(ae [o 4 (.cM (.c (.string ⟨#[]⟩)))] (ae [m 5 0,m 6 0,mH 7 6,m 8 1,o 9 (.min2 (.t 7) (.t 8)),o 10 (.iB (.t 5) none (some (.t 9))),m 4 10] .ret)),[.slot 4]⟩
@[simp] def l6:aZ:=⟨15,(ae [o 4 (.cM (.c (.string ⟨#[]⟩))),bM 5] (.seq (ae (m 6 0::m 7 1::bm 8 F.l7 6 7::[eQ 9 8]) (.cond (.t 9) (ae [m 10 0,m 4 10,bM 5] .ret) .skip)) (ae [m 11 0,m 12 1,mH 13 12,o 14 (.iB (.t 11) (some (.t 13)) none),m 4 14,fU 5] .ret))),[.slot 4,.slot 5]⟩
@[simp] def l5:aZ:=⟨23,(ae [o 4 (.cM (.c (.string ⟨#[]⟩))),o 5 (.cM (.c (.string ⟨#[]⟩))),bM 6] (.seq (ae (m 8 0::m 9 1::bm 10 F.oC 8 9::[m 7 10]) (ae [m 11 7,aU 12 .geq 11 0] (.cond (.t 12) (.seq (.draw [m 13 0,m 14 7,o 15 (.iB (.t 13) none (some (.t 14))),m 16 0,m 17 7,m 18 1,mH 19 18,bc 20 .add 17 19,o 21 (.iB (.t 16) (some (.t 20)) none),m 4 15,m 5 21,fU 6] (some ⟨[0,1,2,3,4,5,6,7,8,9,10,11],[false,false,false,false,false,true,true,true,true,false,true,true],[]⟩)) .ret) .skip))) (ae [m 22 0,m 4 22,o 5 (.cM (.c (.string ⟨#[]⟩))),bM 6] .ret))),[.slot 4,.slot 5,.slot 6]⟩
@[simp] def l7:aZ:=⟨18,(ae [bM 4] (ae [m 5 0,mH 6 5,m 7 1,mH 8 7,bc 9 .geq 6 8,m 10 9,cT 11 10 0,cT 12 10 1,bK 13 10 (.len .s (.t 12)),bK 14 10 (.iB (.t 11) none (some (.t 13))),cT 15 10 1,h' 16 10 .eql 14 15,di 17 10 16,m 4 17] .ret)),[.slot 4]⟩
@[simp] def oC:aZ:=⟨143,(ae [bH 4 0] (ae [m 14 1,mH 15 14,m 5 15] (.seq (.block 0 (ae [m 17 5,aU 18 .eql 17 0,m 19 18,dm 20 19 1,dm 21 19 0,lF 22 19 .eql 20 21,dV 23 19 22,m 16 23] (.cond (.t 16) (ae [bH 4 0] .ret) (ae [m 25 5,aU 26 .eql 25 1,m 24 26] (.cond (.t 24) (ae (m 27 0::m 28 1::o 29 (.j2 (.t 28) (ci 0))::bm 30 F.nn 27 29::[m 4 30]) .ret) (ae [m 32 5,m 33 0,mH 34 33,bc 35 .geq 32 34,m 31 35] (.cond (.t 31) (ae [hx 4 0] .ret) (ae [m 37 5,av 38 1000000007,bc 39 .leq 37 38,m 40 39,cT 41 40 0,bK 42 40 (.len .s (.t 41)),bK 43 40 (.bin .leq .bE (.t 42) (ci 64)),di 44 40 43,m 36 44] (.cond (.t 36) (ae (m 45 0::m 46 1::bm 47 322 45 46::[m 4 47]) .ret) .skip))))))))) (ae [m 48 1,o 49 (.j2 (.t 48) (ci 0)),m 6 49] (ae [m 50 1,o 51 (.j2 (.t 50) (ci 1)),m 7 51] (ae [bH 8 0] (ae [m 52 0,mH 53 52,m 54 5,bc 55 .sub 53 54,aU 56 .add 55 1,m 9 56] (ae [bH 10 0] (.seq (.block 1 (.loop (.seq (ae [m 57 8,m 58 9,bc 59 .lss 57 58] (cp 59 1)) (.block 2 (.seq (ae [m 60 0,m 61 8,o 62 (.j2 (.t 60) (.t 61)),m 63 6,bc 64 .neq 62 63] (.cond (.t 64) (ae (m 65 0::m 66 8::aU 67 .add 66 1::m 68 9::o 69 (.iB (.t 65) (some (.t 67)) (some (.t 68)))::m 70 6::bm 71 F.nn 69 70::[m 11 71]) (.seq (ae [m 72 11,aU 73 .lss 72 0] (.cond (.t 73) (ae [hx 4 0] .ret) .skip)) (.bj [m 74 8,m 75 11,aU 76 .add 75 1,bc 77 .add 74 76,m 8 77]))) .skip)) (.seq (ae [m 78 0,m 79 8,aU 80 .add 79 1,o 81 (.j2 (.t 78) (.t 80)),m 82 7,bc 83 .eql 81 82,m 84 83,cT 85 84 0,cT 86 84 8,cT 87 84 8,cT 88 84 5,h' 89 84 .add 87 88,bK 90 84 (.iB (.t 85) (some (.t 86)) (some (.t 89))),cT 91 84 1,h' 92 84 .eql 90 91,di 93 84 92] (.cond (.t 93) (ae [m 94 8,m 4 94] .ret) .skip)) (ae [m 95 8,aU 96 .add 95 1,m 8 96] (ae [m 97 10,aU 98 .add 97 1,m 10 98] (ae (m 99 5::av 100 1000000007::bc 101 .leq 99 100::m 102 101::cT 103 102 10::cT 104 102 8::bK 105 102 (.call 323 [(.t 104)])::[h' 106 102 .gtr 103 105,di 107 102 106]) (.cond (.t 107) (ae (m 108 0::m 109 8::o 110 (.iB (.t 108) (some (.t 109)) none)::m 111 1::bm 112 322 110 111::[m 12 112]) (.seq (ae [m 113 12,aU 114 .geq 113 0] (.cond (.t 114) (ae [m 115 12,m 116 8,bc 117 .add 115 116,m 4 117] .ret) .skip)) (ae [hx 4 0] .ret))) (ae [m 118 5,av 119 1000000007,bc 120 .gtr 118 119,m 121 120,cT 122 121 10,cT 123 121 8,bK 124 121 (.bin .shr .bE (.t 123) (.c (.int .u64 (.ofNat 4)))),bK 125 121 (.bin .add .bE (ci 4) (.t 124)),h' 126 121 .geq 122 125,di 127 121 126,m 128 127,cT 129 128 8,cT 130 128 9,h' 131 128 .lss 129 130,di 132 128 131] (.cond (.t 132) (ae (m 133 0::m 134 8::o 135 (.iB (.t 133) (some (.t 134)) none)::m 136 1::bm 137 324 135 136::[m 13 137]) (.seq (ae [m 138 13,aU 139 .lss 138 0] (.cond (.t 139) (ae [hx 4 0] .ret) .skip)) (ae [m 140 8,m 141 13,bc 142 .add 140 141,m 4 142] .ret))) .skip)))))))))))) (ae [hx 4 0] .ret)))))))))),[.slot 4]⟩
@[simp] def nn:aZ:=⟨8,(ae [bH 4 0] (ae (m 5 0::m 6 1::bm 7 F.zD 5 6::[m 4 7]) .ret)),[.slot 4]⟩
@[simp] def jy:aZ:=⟨11,(ae [bM 2] (ae (m 6 0::aX 7 F.hQ 6::[m 5 7,a6 8 5 0,a6 9 5 1,m 3 8,m 4 9]) (ae [m 10 4,m 2 10] .ret))),[.slot 2]⟩
@[simp] def hf:aZ:=⟨11,(ae [cU 2] (ae (m 6 0::aX 7 F.hQ 6::[m 5 7,a6 8 5 0,a6 9 5 1,m 3 8,m 4 9]) (ae [m 10 3,m 2 10] .ret))),[.slot 2]⟩
def hO:aM:=.seq (.draw [aB 29 1 1,av 30 29,o 31 (.bin .eql .bE (.t 30) (.c (.string ⟨#[]⟩))),m 32 31,eb 33 32 2 1,dB 34 32 33,bS 35 32 (.bin .eql .bE (.t 34) (.c (.string ⟨#[]⟩))),dV 36 32 35,m 37 36,eb 38 37 1 1,dB 39 37 38,bS 40 37 (.call F.hf [(.t 39)]),eb 41 37 2 1,dB 42 37 41,bS 43 37 (.call F.hf [(.t 42)]),bS 44 37 (.call F.gJ [(.t 40),(.t 43)]),bS 45 37 (.bin .leq .bE (.t 44) (ci 0)),dV 46 37 45,m 2 46] (some ⟨[0,1,2,3,4,5,6,7,8,9,10,12,13,11,14,15,16,17,18],[true,true,true,true,true,true,true,true,true,false,false,false,false,false,true,true,true,true,true],[(13,12)]⟩)) .ret
def mR:aM:=.cond (.t 28) (ae [bM 2] .ret) .skip
def B9:List aw:=[bK 26 22 (.un .not (.t 25)),bS 27 18 (.pick (.t 22) (.t 26) (.c (.bool false))),dV 28 18 27]
def kd:List aw:=bK 15 11 (.un .not (.t 14))::bS 16 7 (.pick (.t 11) (.t 15) (.c (.bool false)))::dV 17 7 16::m 18 17::eb 19 18 2 1::dB 20 18 19::bS 21 18 (.bin .neq .bE (.t 20) (.c (.string ⟨#[]⟩)))::dm 22 18 21::ec 23 22 2 1::cQ 24 22 23::bK 25 22 (.call F.jy [(.t 24)])::B9
abbrev T.JW:Nat:=48
@[simp] def og:aZ:=⟨47,(ae [ds 1 48 0,bM 2] (.seq (ae (aB 3 3 1::av 4 3::aX 5 F.jy 4::eQ 6 5::m 7 6::eb 8 7 1 1::dB 9 7 8::bS 10 7 (.bin .neq .bE (.t 9) (.c (.string ⟨#[]⟩)))::dm 11 7 10::ec 12 11 1 1::cQ 13 11 12::bK 14 11 (.call F.jy [(.t 13)])::kd) mR) hO)),[.slot 2]⟩
def so:aM:=ae (aB 39 3 2::av 40 39::aX 41 F.jy 40::[m 42 41,ec 43 42 4 2,cQ 44 42 43,bK 45 42 (.bin .eql .bE (.t 44) (.c (.string ⟨#[]⟩))),di 46 42 45,m 47 46,ec 48 47 1 2,cQ 49 47 48,bK 50 47 (.bin .geq .bE (.t 49) (ci 1)),di 51 47 50,m 52 51,ec 53 52 1 2,cQ 54 52 53,bK 55 52 (.bin .leq .bE (.t 54) (ci 3)),di 56 52 55,m 4 56]) .ret
def xT:aM:=ae [bc 12 .lss 11 10] (.seq (cp 12 0) (.seq (.block 1 (ae [aR 13 2 9 11,ca 14 2 13,o 7 (.alloc 67 [(.int .i64 (.ofNat 0)),(.string ⟨#[]⟩)]),bA 2 7 14] (.seq (ae (aB 15 1 7::av 16 15::aX 17 F.jy 16::[eQ 18 17,m 19 18,eb 20 19 1 7,dB 21 19 20,bS 22 19 (.bin .eql .bE (.t 21) (.c (.string ⟨#[48]⟩))),dV 23 19 22,m 24 23,eb 25 24 0 7,dB 26 24 25,dm 27 24 5,lF 28 24 .leq 26 27,dV 29 24 28,m 30 29,eb 31 30 0 7,dB 32 30 31,dm 33 30 1,lF 34 30 .geq 32 33,dV 35 30 34]) (.cond (.t 35) (ae [bM 4] .ret) .skip)) (.bj [aB 36 0 7,av 37 36,m 5 37])))) (.bj [aU 38 .add 11 1,m 11 38])))
abbrev T.Cd:Nat:=64
abbrev T.xS:Nat:=67
@[simp] def oh:aZ:=⟨57,(ae [ds 2 64 0,bM 4] (ae [hx 5 0] (.seq (ae [aB 8 2 2,av 9 8,bp 10 9,bH 11 0] (.block 0 (.loop xT))) so))),[.slot 4]⟩
def B6:aM:=ae (m 17 3::eQ 18 17::m 19 18::ec 20 19 1 1::cQ 21 19 20::bK 22 19 (.qy F.mP [(.t 1)])::bK 23 19 (.call F.l3 [(.t 21),(.t 22)])::[bK 24 19 (.un .not (.t 23)),di 25 19 24,m 2 25]) .ret
def uM:aM:=ae (aB 14 0 1::av 15 14::o 16 (.call F.oA [(.t 15),(.c (.func (.func 30) #[] #[]))])::[m 3 16]) B6
abbrev T.JU:Nat:=25
@[simp] def i':aZ:=⟨26,(ae [ds 1 25 0,bM 2] (.seq (ae [aB 4 0 1,av 5 4,bp 6 5,aU 7 .gtr 6 100,m 8 7,eb 9 8 1 1,dB 10 8 9,bS 11 8 (.len .l (.t 10)),bS 12 8 (.bin .gtr .bE (.t 11) (ci 440)),dV 13 8 12] (.cond (.t 13) (ae [bM 2] .ret) .skip)) uM)),[.slot 2]⟩
abbrev T.B5:Nat:=48
@[simp] def oe:aZ:=⟨6,(ae [ds 1 48 0,bM 2] (ae (ca 3 5 1::aX 4 F.og 3::[eQ 5 4,m 2 5]) .ret)),[.slot 2]⟩
abbrev T.RP:Nat:=64
@[simp] def mP:aZ:=⟨10,(ae [ds 2 64 0,bM 3] (ae (ca 4 5 2::aB 5 0 1::av 6 5::bp 7 6::bm 8 F.oh 4 7::[eQ 9 8,m 3 9]) .ret)),[.slot 3]⟩
def sn:aM:=ae [m 29 6,m 30 0,bp 31 30,m 32 1,bc 33 .eql 31 32,m 4 29,m 5 33] .ret
def Cc:aM:=ae [bc 14 .lss 13 12] (.seq (cp 14 0) (.seq (.block 1 (ae [aR 15 1 11 13,av 16 15,m 8 16] (ae (m 18 8::aX 19 F.hQ 18::[m 17 19,a6 20 17 0,a6 21 17 1,m 9 20,m 10 21]) (.seq (ae [m 22 10,eQ 23 22] (.cond (.t 23) (ae [hb 4,bM 5] .ret) .skip)) (.bj [m 24 6,m 25 9,o 26 (.buildSlice [(.pointer none)] 1 1 [(0,1,(.t 25))]),ju 27 1 8 24 26,m 6 27]))))) (.bj [aU 28 .add 13 1,m 13 28])))
@[simp] def ke:aZ:=⟨34,(ae [hb 4,bM 5] (ae [hb 6] (.seq (ae [m 11 0,bp 12 11,bH 13 0] (.block 0 (.loop Cc))) sn))),[.slot 4,.slot 5]⟩
def VJ:aM:=ae (m 21 1::m 22 6::aX 23 F.hf 22::bm 24 F.fV 21 23::[m 4 24,fU 5]) .ret
def VV:aM:=.seq (ae (m 14 1::aX 15 F.dY 14::[aU 16 .neq 15 0,m 17 16,cT 18 17 6,bK 19 17 (.bin .eql .bE (.t 18) (.c (.string ⟨#[]⟩))),di 20 17 19]) (.cond (.t 20) (ae [cU 4,bM 5] .ret) .skip)) VJ
def XE:aM:=.cond (.t 11) (.bj [aB 12 2 2,av 13 12,m 6 13]) .skip
abbrev T.YB:Nat:=48
@[simp] def qG:aZ:=⟨25,(ae [ds 2 48 0,cU 4,bM 5] (ae [aB 7 1 2,av 8 7,m 6 8] (.seq (ae (m 9 1::aX 10 F.dY 9::[aU 11 .lss 10 0]) XE) VV))),[.slot 4,.slot 5]⟩
def Xr:aM:=ae (m 154 13::aX 155 F.hy 154::[m 6 155,fU 7]) .ret
def Wp:aM:=.seq (ae [m 148 21,eQ 149 148] (.cond (.t 149) (ae [o 6 (.cM (.c (.string ⟨#[]⟩))),bM 7] .ret) .skip)) (.bj (m 150 13::m 151 20::bm 152 F.gq 150 151::[m 13 152]))
def Xn:aM:=ae [bc 135 .lss 134 133] (.seq (cp 135 6) (.seq (.block 7 (ae [m 136 134,aR 137 5 132 134,ca 138 5 137,o 19 (.alloc 48 [(.string ⟨#[]⟩),(.string ⟨#[]⟩),(.string ⟨#[]⟩),(.string ⟨#[]⟩),(.bool false)]),m 18 136,bA 5 19 138] (.seq (.draw [ca 140 5 19,m 141 10,m 142 18,aR 143 1 141 142,av 144 143,bm 145 F.qG 140 144,m 139 145,a6 146 139 0,a6 147 139 1,m 20 146,m 21 147] (some ⟨[0,1,2,3,4,5,6,7,8,9,10],c5 5 6,[]⟩)) Wp))) (.bj [aU 153 .add 134 1,m 134 153])))
def V2:aM:=.seq (ae [aB 131 0 3,av 132 131,bp 133 132,bH 134 0] (.block 6 (.loop Xn))) Xr
def Xo:aM:=ae [bc 108 .lss 107 106] (.seq (cp 108 4) (.seq (.block 5 (ae [aR 109 2 105 107,ca 110 2 109,o 17 (.alloc 67 [(.int .i64 (.ofNat 0)),(.string ⟨#[]⟩)]),bA 2 17 110] (.draw [m 111 10,aB 112 0 17,av 113 112,m 114 10,aB 115 0 17,av 116 115,aR 117 1 114 116,av 118 117,aB 119 1 17,av 120 119,aX 121 F.hf 120,m 122 8,m 123 14,aR 124 1 122 123,av 125 124,bm 126 F.fV 121 125,bm 127 F.ik 118 126,aR 128 1 111 113,bA 1 128 127] (some ⟨[0,1,2,3,4,5,6,7,8,9,11,12,13,14,10,15,16,17,18],c5 17 2,[(14,2),(14,5),(14,7),(14,13),(15,2),(15,5),(15,7),(16,2)]⟩)))) (.bj [aU 129 .add 107 1,m 107 129])))
def VB:aM:=ae [aB 104 2 15,av 105 104,bp 106 105,bH 107 0] (.block 4 (.loop Xo))
def Bt:aM:=.seq (.draw [m 94 13,m 95 8,m 96 14,aR 97 1 95 96,av 98 97,aB 99 3 15,av 100 99,aX 101 F.hf 100,bm 102 F.fV 98 101,bm 103 F.gq 94 102,m 13 103] (some ⟨[0,1,2,3,4,5,6,7,8,9,10],c5 8 3,[(7,4)]⟩)) VB
def Wn:aM:=.seq (ae (aB 70 1 15::av 71 70::aU 72 .eql 71 1::m 73 72::cT 74 73 8::cT 75 73 14::lG 76 73 1 74 75::cQ 77 73 76::bK 78 73 (.call F.dY [(.t 77)])::bK 79 73 (.bin .gtr .bE (.t 78) (ci 0))::di 80 73 79::m 81 80::eb 82 81 1 15::dB 83 81 82::bS 84 81 (.bin .eql .bE (.t 83) (ci 3))::dm 85 81 84::cT 86 85 8::cT 87 85 14::lG 88 85 1 86 87::cQ 89 85 88::bK 90 85 (.call F.dY [(.t 89)])::[bK 91 85 (.bin .lss .bE (.t 90) (ci 0)),bS 92 81 (.pick (.t 85) (.t 91) (.c (.bool false))),dV 93 81 92]) (.cond (.t 93) (ae [o 6 (.cM (.c (.string ⟨#[]⟩))),bM 7] .ret) .skip)) Bt
def Xp:aM:=ae [bc 66 .lss 65 64] (.seq (cp 66 2) (.seq (.block 3 (ae [m 67 65,aR 68 5 63 65,ca 69 5 68,o 15 (.alloc 64 [(.string ⟨#[]⟩),(.int .i64 (.ofNat 0)),(.slice none 0 0),(.string ⟨#[]⟩),(.string ⟨#[]⟩)]),m 14 67,bA 5 15 69] Wn)) (.bj [aU 130 .add 65 1,m 65 130])))
def VT:aM:=.seq (ae [aB 62 1 3,av 63 62,bp 64 63,bH 65 0] (.block 2 (.loop Xp))) V2
def Xs:aM:=ae [m 53 2] (.cond (.t 53) (.bj (m 54 10::m 55 11::aB 56 3 12::av 57 56::aX 58 F.hf 57::[aR 59 1 54 55,bA 1 59 58])) .skip)
def Xq:aM:=ae [bc 45 .lss 44 43] (.seq (cp 45 0) (.seq (.block 1 (ae [m 46 44,aR 47 5 42 44,ca 48 5 47,o 12 (.alloc 48 [(.string ⟨#[]⟩),(.string ⟨#[]⟩),(.string ⟨#[]⟩),(.string ⟨#[]⟩),(.bool false)]),m 11 46,bA 5 12 48] (ae (m 49 10::m 50 11::nK 51 F.fW 0::[aR 52 1 49 50,bA 1 52 51]) Xs))) (.bj [aU 60 .add 44 1,m 44 60])))
def Wo:aM:=.seq (ae [aB 41 0 3,av 42 41,bp 43 42,bH 44 0] (.block 0 (.loop Xq))) (ae (nK 61 F.fW 0::[m 13 61]) VT)
def Xt:aM:=ae [aB 37 0 3,av 38 37,bp 39 38,o 40 (.mkSlice [(.pointer none)] 8 (.t 39) (.t 39)),m 10 40] Wo
def Xu:aM:=.seq (ae (m 30 9::eQ 31 30::m 32 31::bS 33 32 (.load true 2 (.t 3))::bS 34 32 (.call F.i' [(.t 33)])::[bS 35 32 (.un .not (.t 34)),dV 36 32 35]) (.cond (.t 36) (ae [o 6 (.cM (.c (.string ⟨#[]⟩))),bM 7] .ret) .skip)) Xt
abbrev T.Yy:Nat:=25
abbrev T.Wm:Nat:=48
abbrev T.Xk:Nat:=64
abbrev T.Xl:Nat:=67
abbrev T.Xm:Nat:=48
@[simp] def pv:aZ:=⟨156,(ae [ds 3 25 0,o 6 (.cM (.c (.string ⟨#[]⟩))),bM 7] (ae (m 23 1::aB 24 1 3::av 25 24::bp 26 25::bm 27 F.ke 23 26::[m 22 27,a6 28 22 0,a6 29 22 1,m 8 28,m 9 29]) Xu)),[.slot 6,.slot 7]⟩
@[simp] def oA:aZ:=⟨9,(ae [bM 4] (ae (m 5 0::m 6 1::bm 7 F.nm 5 6::[aU 8 .geq 7 0,m 4 8]) .ret)),[.slot 4]⟩
@[simp] def l3:aZ:=⟨9,(ae [bM 4] (ae (m 5 0::m 6 1::bm 7 F.oB 5 6::[aU 8 .geq 7 0,m 4 8]) .ret)),[.slot 4]⟩
def sS:aM:=ae [hx 4 0] .ret
def C8:aM:=ae [bc 9 .lss 8 7] (.seq (cp 9 0) (.seq (.block 1 (ae [m 10 8,m 5 10] (ae [m 11 1,m 12 0,m 13 5,aR 14 5 12 13,ca 15 5 14,o 16 (.hG (.t 11) [(.t 15)])] (.cond (.t 16) (ae [m 17 5,m 4 17] .ret) .skip)))) (.bj [aU 18 .add 8 1,m 8 18])))
@[simp] def nm:aZ:=⟨19,(ae [bH 4 0] (.seq (ae [m 6 0,bp 7 6,bH 8 0] (.block 0 (.loop C8))) sS)),[.slot 4]⟩
@[simp] def oB:aZ:=⟨19,(ae [bH 4 0] (.seq (ae [m 6 0,bp 7 6,bH 8 0] (.block 0 (.loop (ae [bc 9 .lss 8 7] (.seq (cp 9 0) (.seq (.block 1 (ae [m 10 8,m 5 10] (ae [m 11 1,m 12 0,m 13 5,aR 14 5 12 13,ca 15 5 14,o 16 (.hG (.t 11) [(.t 15)])] (.cond (.t 16) (ae [m 17 5,m 4 17] .ret) .skip)))) (.bj [aU 18 .add 8 1,m 8 18]))))))) (ae [hx 4 0] .ret))),[.slot 4]⟩
@[simp] def pI:aZ:=⟨8,(ae [hb 2] (.seq (ae [m 3 0,o 4 (.bin .eql (.nil .fb) (.t 3) (.c (.slice none 0 0)))] (.cond (.t 4) (ae [hb 2] .ret) .skip)) (ae [o 5 (.buildSlice [] 5 0 []),m 6 0,ju 7 5 72 5 6,m 2 7] .ret))),[.slot 2]⟩
def Wv:aM:=ae [m 27 5,m 4 27] .ret
def Wu:aM:=ae [bc 12 .lss 11 10] (.seq (cp 12 0) (.seq (.block 1 (ae [aR 13 2 9 11,ca 14 2 13,o 7 (.alloc 67 [(.int .i64 (.ofNat 0)),(.string ⟨#[]⟩)]),bA 2 7 14] (.draw [m 15 5,aB 16 1 7,av 17 16,aX 18 F.hf 17,m 19 1,aB 20 0 7,av 21 20,aR 22 1 19 21,av 23 22,bm 24 F.fV 18 23,bm 25 F.gq 15 24,m 5 25] (some ⟨[0,1,2,4,5,6,7,8,3,9,10,11],c5 9 3,[(8,5),(8,7)]⟩)))) (.bj [aU 26 .add 11 1,m 11 26])))
abbrev T.Wt:Nat:=67
@[simp] def py:aZ:=⟨28,(ae [cU 4] (ae (nK 8 F.fW 0::[m 5 8]) (.seq (ae [m 9 0,bp 10 9,bH 11 0] (.block 0 (.loop Wu))) Wv))),[.slot 4]⟩
@[simp] def px:aZ:=⟨16,(ae [bM 4] (.seq (ae [m 5 0] (.block 0 (ae [aU 7 .eql 5 1,m 6 7] (.cond (.t 6) (ae [m 8 1,aU 9 .leq 8 0,m 4 9] .ret) (ae [aU 11 .eql 5 3,m 10 11] (.cond (.t 10) (ae [m 12 1,aU 13 .geq 12 0,m 4 13] .ret) .skip)))))) (ae [m 14 1,aU 15 .eql 14 0,m 4 15] .ret))),[.slot 4]⟩
def VU:aM:=ae (aB 63 1 2::av 64 63::o 65 (.qy F.qD [(.t 5)])::bm 66 F.l3 64 65::[eQ 67 66,m 4 67]) .ret
def yO:aM:=.cond (.t 61) (ae [bM 4] .ret) .skip
def Wq:aM:=.seq (.draw [aB 32 1 8,av 33 32,o 34 (.bin .neq .bE (.t 33) (.c (.string ⟨#[]⟩))),m 35 34,cQ 36 35 5,cT 37 35 7,lG 38 35 1 36 37,cQ 39 35 38,ec 40 35 1 8,cQ 41 35 40,bK 42 35 (.call F.hf [(.t 41)]),bK 43 35 (.call F.gJ [(.t 39),(.t 42)]),bK 44 35 (.bin .lss .bE (.t 43) (ci 0)),di 45 35 44,m 46 45,eb 47 46 2 8,dB 48 46 47,bS 49 46 (.bin .neq .bE (.t 48) (.c (.string ⟨#[]⟩))),dm 50 46 49,cQ 51 50 5,cT 52 50 7,lG 53 50 1 51 52,cQ 54 50 53,ec 55 50 2 8,cQ 56 50 55,bK 57 50 (.call F.hf [(.t 56)]),bK 58 50 (.call F.gJ [(.t 54),(.t 57)]),bK 59 50 (.bin .gtr .bE (.t 58) (ci 0)),bS 60 46 (.pick (.t 50) (.t 59) (.c (.bool false))),dV 61 46 60] (some ⟨[0,1,2,3,4,5,6,7,8,9,10,11,12,13,14,15,16,17,18,19,20,21,22,23,24,25,26,27,28,29],[true,true,true,true,false,false,false,false,false,false,false,true,true,true,true,true,true,true,true,false,false,false,false,false,false,false,true,true,true,true],[(10,4),(10,7),(25,19),(25,22)]⟩)) yO
def Xx:aM:=ae [bc 28 .lss 27 26] (.seq (cp 28 0) (.seq (.block 1 (ae [m 29 27,aR 30 5 25 27,ca 31 5 30,o 8 (.alloc 48 [(.string ⟨#[]⟩),(.string ⟨#[]⟩),(.string ⟨#[]⟩),(.string ⟨#[]⟩),(.bool false)]),m 7 29,bA 5 8 31] Wq)) (.bj [aU 62 .add 27 1,m 27 62])))
def Wr:aM:=.seq (ae [aB 24 0 2,av 25 24,bp 26 25,bH 27 0] (.block 0 (.loop Xx))) VU
def Xy:aM:=.seq (ae (m 17 6::eQ 18 17::m 19 18::bS 20 19 (.load true 2 (.t 2))::bS 21 19 (.call F.i' [(.t 20)])::[bS 22 19 (.un .not (.t 21)),dV 23 19 22]) (.cond (.t 23) (ae [bM 4] .ret) .skip)) Wr
abbrev T.Xv:Nat:=25
abbrev T.V3:Nat:=57
abbrev T.Xw:Nat:=48
@[simp] def pw:aZ:=⟨68,(ae [ds 2 25 0,bM 4] (ae (m 10 1::aB 11 0 2::av 12 11::bp 13 12::bm 14 F.ke 10 13::[m 9 14,a6 15 9 0,a6 16 9 1,o 5 (.alloc 57 [(.slice none 0 0)]),bA 1 5 15,m 6 16]) Xy)),[.slot 4]⟩
abbrev T.Yz:Nat:=64
@[simp] def qD:aZ:=⟨16,(ae [ds 2 64 0,bM 3] (.seq (.draw [aB 4 1 2,av 5 4,aB 6 2 2,av 7 6,av 8 1,bm 9 F.py 7 8,aB 10 3 2,av 11 10,aX 12 F.hf 11,bm 13 F.gJ 9 12,bm 14 F.px 5 13,eQ 15 14,m 3 15] (some ⟨[0,1,2,3,4,6,7,5,8,9,10,11,12],c5 10 3,[(7,1),(7,6),(8,1),(9,1)]⟩)) .ret)),[.slot 3]⟩
def xR:aM:=ae [m 28 5,m 4 28] .ret
def Ca:aM:=ae [bc 13 .lss 12 11] (.seq (cp 13 0) (.seq (.block 1 (ae [m 14 12,aR 15 5 10 12,ca 16 5 15,o 7 (.alloc 48 [(.string ⟨#[]⟩),(.string ⟨#[]⟩),(.string ⟨#[]⟩),(.string ⟨#[]⟩),(.bool false)]),m 6 14,bA 5 7 16] (.draw [m 17 5,aB 18 3 7,av 19 18,aX 20 F.hf 19,m 21 1,m 22 6,aR 23 1 21 22,av 24 23,bm 25 F.fV 20 24,bm 26 F.gq 17 25,m 5 26] (some ⟨[0,1,2,4,5,6,7,3,8,9,10],c5 8 3,[(7,6)]⟩)))) (.bj [aU 27 .add 12 1,m 12 27])))
def Cb:aM:=.seq (ae [aB 9 0 2,av 10 9,bp 11 10,bH 12 0] (.block 0 (.loop Ca))) xR
abbrev T.JX:Nat:=25
abbrev T.B':Nat:=48
@[simp] def mS:aZ:=⟨29,(ae [ds 2 25 0,cU 4] (ae (nK 8 F.fW 0::[m 5 8]) Cb)),[.slot 4]⟩
def B7:aM:=ae (ca 23 2 2::m 24 6::bm 25 F.mS 23 24::aX 26 F.hy 25::[m 4 26,fU 5]) .ret
def B8:aM:=.seq (ae (m 16 7::eQ 17 16::m 18 17::bS 19 18 (.load true 2 (.t 2))::bS 20 18 (.call F.i' [(.t 19)])::[bS 21 18 (.un .not (.t 20)),dV 22 18 21]) (.cond (.t 22) (ae [o 4 (.cM (.c (.string ⟨#[]⟩))),bM 5] .ret) .skip)) B7
abbrev T.JV:Nat:=25
@[simp] def mQ:aZ:=⟨27,(ae [ds 2 25 0,o 4 (.cM (.c (.string ⟨#[]⟩))),bM 5] (ae (m 9 1::aB 10 0 2::av 11 10::bp 12 11::bm 13 F.ke 9 12::[m 8 13,a6 14 8 0,a6 15 8 1,m 6 14,m 7 15]) B8)),[.slot 4,.slot 5]⟩
def XD:aM:=ae (m 62 9::eQ 63 62::m 64 63::bK 65 64 (.load true 2 (.t 2))::cQ 66 64 5::bK 67 64 (.call F.mS [(.t 65),(.t 66)])::bK 68 64 (.call F.dY [(.t 67)])::[bK 69 64 (.bin .lss .bE (.t 68) (ci 0)),di 70 64 69,m 4 70]) .ret
def Bu:aM:=ae (aB 58 1 2::av 59 58::o 60 (.qy F.qF [(.t 5)])::bm 61 F.l3 59 60::[m 9 61]) XD
def XB:aM:=ae [bc 29 .lss 28 27] (.seq (cp 29 0) (.seq (.block 1 (ae [m 30 28,aR 31 5 26 28,ca 32 5 31,o 8 (.alloc 48 [(.string ⟨#[]⟩),(.string ⟨#[]⟩),(.string ⟨#[]⟩),(.string ⟨#[]⟩),(.bool false)]),m 7 30,bA 5 8 32] (ae (aB 33 1 8::av 34 33::o 35 (.bin .neq .bE (.t 34) (.c (.string ⟨#[]⟩)))::m 36 35::cQ 37 36 5::cT 38 36 7::lG 39 36 1 37 38::cQ 40 36 39::bK 41 36 (.call F.dY [(.t 40)])::bK 42 36 (.bin .lss .bE (.t 41) (ci 0))::di 43 36 42::m 44 43::eb 45 44 2 8::dB 46 44 45::bS 47 44 (.bin .neq .bE (.t 46) (.c (.string ⟨#[]⟩)))::dm 48 44 47::cQ 49 48 5::cT 50 48 7::lG 51 48 1 49 50::cQ 52 48 51::bK 53 48 (.call F.dY [(.t 52)])::[bK 54 48 (.bin .gtr .bE (.t 53) (ci 0)),bS 55 44 (.pick (.t 48) (.t 54) (.c (.bool false))),dV 56 44 55]) (.cond (.t 56) (ae [bM 4] .ret) .skip)))) (.bj [aU 57 .add 28 1,m 28 57])))
def Ws:aM:=.seq (ae [aB 25 0 2,av 26 25,bp 27 26,bH 28 0] (.block 0 (.loop XB))) Bu
def XC:aM:=.seq (ae (m 18 6::eQ 19 18::m 20 19::bS 21 20 (.load true 2 (.t 2))::bS 22 20 (.call F.i' [(.t 21)])::[bS 23 20 (.un .not (.t 22)),dV 24 20 23]) (.cond (.t 24) (ae [bM 4] .ret) .skip)) Ws
abbrev T.Xz:Nat:=25
abbrev T.V4:Nat:=57
abbrev T.XA:Nat:=48
@[simp] def qE:aZ:=⟨71,(ae [ds 2 25 0,bM 4] (ae (m 11 1::aB 12 0 2::av 13 12::bp 14 13::bm 15 F.ke 11 14::[m 10 15,a6 16 10 0,a6 17 10 1,o 5 (.alloc 57 [(.slice none 0 0)]),bA 1 5 16,m 6 17]) XC)),[.slot 4]⟩
abbrev T.YA:Nat:=64
@[simp] def qF:aZ:=⟨13,(ae [ds 2 64 0,bM 3] (.seq (.draw [aB 4 1 2,av 5 4,aB 6 2 2,av 7 6,av 8 1,bm 9 F.py 7 8,aX 10 F.dY 9,bm 11 F.px 5 10,eQ 12 11,m 3 12] (some ⟨[0,1,2,3,4,5,6,7,8,9],c5 7 3,[(5,1),(6,1)]⟩)) .ret)),[.slot 3]⟩
@[simp] def jK:aZ:=⟨13,(ae [cU 2] (.seq (ae [m 5 0,o 6 (.bin .eql .bE (.t 5) (.c (.string ⟨#[]⟩)))] (.cond (.t 6) (ae [cU 2] .ret) .skip)) (ae (m 8 0::aX 9 F.hQ 8::[m 7 9,a6 10 7 0,a6 11 7 1,m 3 10,m 4 11]) (ae [m 12 3,m 2 12] .ret)))),[.slot 2]⟩
@[simp] def oS:aZ:=⟨16,(ae [ds 1 132 0,cU 2] (.seq (.block 0 (ae [aB 4 0 1,av 5 4,ig 6 .neq 5,m 3 6] (.cond (.t 3) (ae [aB 7 0 1,av 8 7,m 2 8] .ret) (ae [aB 10 1 1,av 11 10,ig 12 .neq 11,m 9 12] (.cond (.t 9) (ae [aB 13 1 1,av 14 13,m 2 14] .ret) .skip))))) (ae (nK 15 F.fW 0::[m 2 15]) .ret))),[.slot 2]⟩
def ta:aM:=.draw [m 128 3,m 129 3,m 130 3,m 131 3,b2 132 131,aB 133 5 132,av 134 133,m 135 10,o 136 (.buildSlice [(.slice none 0 0)] 1 1 [(0,1,(.t 135))]),ju 137 1 24 134 136,m 138 3,b2 139 138,aB 140 2 139,av 141 140,ca 142 3 9,o 143 (.buildSlice [(.pointer none),(.pointer none),(.pointer none)] 3 1 [(0,3,(.t 142))]),ju 144 3 24 141 143,m 145 3,b2 146 145,aB 147 3 146,av 148 147,aB 149 0 1,av 150 149,bp 151 150,m 152 7,bc 153 .add 151 152,o 154 (.buildSlice [(.int .i64 (.ofNat 0))] 1 1 [(0,1,(.t 153))]),ju 155 1 8 148 154,b2 156 128,aB 157 5 156,bA 1 157 137,b2 158 129,aB 159 2 158,bA 1 159 144,b2 160 130,aB 161 3 160,bA 1 161 155] (some ⟨[0,1,2,3,4,5,6,7,8,9,10,11,12,13,14,15,16,17,18,19,20,21,22,23,24,25,26,27,28,29,30,31,32,33,34,35,36],c5 27 10,[(8,6),(8,13),(9,13),(8,14),(9,14),(15,6),(15,9),(15,13),(8,20),(9,20),(15,20),(16,20),(8,22),(9,22),(15,22),(16,22),(8,23),(9,23),(15,23),(16,23),(26,6),(26,9),(26,13),(26,14),(26,16),(26,20)]⟩)
def EA:aM:=.bj [aU 127 .add 97 1,m 97 127]
def vJ:aM:=.draw [aB 108 2 9,av 109 108,m 110 10,aB 111 0 13,av 112 111,aR 113 1 110 112,av 114 113,m 115 3,b2 116 115,aB 117 2 116,av 118 117,aB 119 0 13,av 120 119,aR 121 3 118 120,aB 122 2 121,av 123 122,bm 124 F.fV 114 123,bm 125 F.gq 109 124,aB 126 2 9,bA 1 126 125] (some ⟨[0,1,2,3,4,5,6,7,8,9,10,11,12,13,14,15,16,17,18,19],c5 17 3,[(16,1)]⟩)
def Ev:aM:=ae [bc 98 .lss 97 96] (.seq (cp 98 6) (.seq (.block 7 (ae [aR 99 2 95 97,ca 100 2 99,o 13 (.alloc 67 [(.int .i64 (.ofNat 0)),(.string ⟨#[]⟩)]),bA 2 13 100] (.seq (.draw [m 101 10,aB 102 0 13,av 103 102,aB 104 1 13,av 105 104,aX 106 F.jK 105,aR 107 1 101 103,bA 1 107 106] (some ⟨[0,1,2,3,4,5,6,7],c5 6 2,[(5,2)]⟩)) vJ))) EA))
def vH:aM:=.seq (ae [aB 94 2 8,av 95 94,bp 96 95,bH 97 0] (.block 6 (.loop Ev))) ta
def ED:List aw:=[aR 92 1 89 90,bA 1 92 91]
def Es:aM:=ae [bc 87 .lss 86 85] (.seq (cp 87 4) (.seq (.block 5 (ae [m 88 86,m 11 88] (.bj (m 89 10::m 90 11::nK 91 F.fW 0::ED)))) (.bj [aU 93 .add 86 1,m 86 93])))
def q0:aM:=ae [aB 80 0 1,av 81 80,bp 82 81,o 83 (.mkSlice [(.pointer none)] 8 (.t 82) (.t 82)),m 10 83] (.seq (ae [m 84 10,bp 85 84,bH 86 0] (.block 4 (.loop Es))) vH)
def EE:List aw:=[aB 79 1 9,bA 1 79 78]
def Ew:aM:=.cond (.t 75) (.bj (aB 76 3 8::av 77 76::aX 78 F.jK 77::EE)) .skip
def q1:aM:=.seq (ae [aB 73 1 8,av 74 73,aU 75 .neq 74 3] Ew) q0
def EF:List aw:=[aB 72 0 9,bA 1 72 71]
def Ex:aM:=.cond (.t 68) (.bj (aB 69 3 8::av 70 69::aX 71 F.jK 70::EF)) .skip
def Ey:aM:=.seq (ae [aB 66 1 8,av 67 66,aU 68 .neq 67 1] Ex) q1
def EG:List aw:=[o 65 (.build [(.pointer none),(.pointer none),(.pointer none)] [(2,1,(.t 64))]),o 9 (.alloc 132 [(.pointer none),(.pointer none),(.pointer none)]),bA 3 9 65]
def Ez:aM:=ae (nK 64 F.fW 0::EG) Ey
def Et:aM:=ae [bc 60 .lss 59 58] (.seq (cp 60 2) (.seq (.block 3 (ae [m 61 59,aR 62 5 57 59,ca 63 5 62,o 8 (.alloc 64 [(.string ⟨#[]⟩),(.int .i64 (.ofNat 0)),(.slice none 0 0),(.string ⟨#[]⟩),(.string ⟨#[]⟩)]),m 7 61,bA 5 8 63] Ez)) (.bj [aU 162 .add 59 1,m 59 162])))
def EB:aM:=.seq (ae [aB 56 1 1,av 57 56,bp 58 57,bH 59 0] (.block 2 (.loop Et))) (ae [m 163 3,m 2 163] .ret)
def vI:aM:=.draw [m 35 3,m 36 3,m 37 3,b2 38 37,aB 39 2 38,av 40 39,ca 41 3 6,o 42 (.buildSlice [(.pointer none),(.pointer none),(.pointer none)] 3 1 [(0,3,(.t 41))]),ju 43 3 24 40 42,m 44 3,b2 45 44,aB 46 4 45,av 47 46,m 48 4,o 49 (.buildSlice [(.int .i64 (.ofNat 0))] 1 1 [(0,1,(.t 48))]),ju 50 1 8 47 49,b2 51 35,aB 52 2 51,bA 1 52 43,b2 53 36,aB 54 4 53,bA 1 54 50] (some ⟨[0,1,2,3,4,5,6,7,8,9,10,11,12,13,14,15,16,17,18,19,20,21],c5 15 7,[(7,5),(7,12),(8,12),(14,5),(14,6),(14,8),(14,12)]⟩)
def EH:List aw:=[aB 34 2 6,bA 1 34 33]
def tb:aM:=ae (ca 32 3 6::aX 33 F.oS 32::EH) vI
def EC:aM:=.seq (.draw [aB 25 1 5,av 26 25,aX 27 F.jK 26,aB 28 2 5,av 29 28,aX 30 F.jK 29,o 31 (.build [(.pointer none),(.pointer none),(.pointer none)] [(0,1,(.t 27)),(1,1,(.t 30))]),o 6 (.alloc 132 [(.pointer none),(.pointer none),(.pointer none)]),bA 3 6 31] (some ⟨[0,1,3,4,7,2,5,6,8],c5 8 1,[(4,1),(4,3),(5,3),(4,5),(4,6)]⟩)) tb
def Eu:aM:=ae [bc 21 .lss 20 19] (.seq (cp 21 0) (.seq (.block 1 (ae [m 22 20,aR 23 5 18 20,ca 24 5 23,o 5 (.alloc 48 [(.string ⟨#[]⟩),(.string ⟨#[]⟩),(.string ⟨#[]⟩),(.string ⟨#[]⟩),(.bool false)]),m 4 22,bA 5 5 24] EC)) (.bj [aU 55 .add 20 1,m 20 55])))
abbrev T.TZ:Nat:=25
abbrev T.T0:Nat:=130
abbrev T.T1:Nat:=48
abbrev T.T2:Nat:=132
abbrev T.T3:Nat:=64
abbrev T.T4:Nat:=132
abbrev T.T5:Nat:=67
@[simp] def oP:aZ:=⟨164,(ae [ds 1 25 0,cU 2] (ae [ca 14 2 1,o 15 (.build [(.slice none 0 0),(.slice none 0 0),(.slice none 0 0),(.slice none 0 0),(.slice none 0 0),(.slice none 0 0)] [(0,2,(.t 14))]),ds 16 130 15,m 3 16] (.seq (ae [aB 17 0 1,av 18 17,bp 19 18,bH 20 0] (.block 0 (.loop Eu))) EB))),[.slot 2]⟩
def yY:aM:=.draw [m 59 9,m 60 9,b2 61 60,aB 62 2 61,av 63 62,m 64 8,m 65 1,aR 66 1 64 65,av 67 66,m 68 2,bm 69 F.fV 67 68,bm 70 F.gq 63 69,b2 71 59,aB 72 2 71,bA 1 72 70] (some ⟨[0,1,2,3,4,5,6,7,8,9,10,11,12,13,14],c5 11 4,[(10,4)]⟩)
def EI:aM:=ae [bc 37 .lss 36 35] (.seq (cp 37 0) (.seq (.block 1 (ae [m 38 36,aR 39 1 34 36,av 40 39,m 7 38,m 8 40] (ae (m 41 8::m 42 1::aR 43 1 41 42::av 44 43::aX 45 F.dY 44::[aU 46 .neq 45 0]) (.cond (.t 46) (.seq (.draw [m 47 0,b2 48 47,aB 49 2 48,av 50 49,m 51 0,b2 52 51,aB 53 3 52,av 54 53,m 55 7,aR 56 1 54 55,av 57 56,aR 58 3 50 57,m 9 58] (some ⟨[0,1,2,3,4,5,6,7,8,9,10,11,12],c5 11 2,[]⟩)) yY) .skip)))) (.bj [aU 73 .add 36 1,m 36 73])))
def yZ:aM:=ae [m 31 0,b2 32 31,aB 33 5 32,av 34 33,bp 35 34,bH 36 0] (.block 0 (.loop EI))
def EJ:aM:=ae (m 22 6::m 23 6::b2 24 23::aB 25 2 24::av 26 25::m 27 2::bm 28 F.gq 26 27::[b2 29 22,aB 30 2 29,bA 1 30 28]) yZ
@[simp] def nx:aZ:=⟨74,(.seq (.draw [m 10 0,b2 11 10,aB 12 2 11,av 13 12,m 14 0,b2 15 14,aB 16 4 15,av 17 16,m 18 1,aR 19 1 17 18,av 20 19,aR 21 3 13 20,m 6 21] (some ⟨[0,1,2,3,4,5,6,7,8,9,10,11,12],c5 11 2,[]⟩)) EJ),[]⟩
def EN:aM:=.draw [m 124 0,b2 125 124,aB 126 3 125,av 127 126,m 128 1,m 129 0,b2 130 129,aB 131 4 130,av 132 131,m 133 2,m 134 0,b2 135 134,aB 136 4 135,av 137 136,m 138 2,aR 139 1 137 138,av 140 139,m 141 0,b2 142 141,aB 143 3 142,av 144 143,m 145 1,aR 146 1 144 145,av 147 146,aR 148 1 127 128,bA 1 148 140,aR 149 1 132 133,bA 1 149 147] (some ⟨[0,1,2,3,4,5,6,7,8,9,10,11,12,13,14,15,16,17,18,19,20,21,22,23,24,25,26,27],c5 24 4,[]⟩)
def EY:List aw:=[aR 100 1 92 93,bA 1 100 99]
def ES:aM:=.cond (.t 101) (.draw [m 108 10,m 109 12,m 110 10,m 111 12,aR 112 1 110 111,av 113 112,m 114 11,m 115 6,m 116 12,aR 117 1 115 116,av 118 117,bm 119 F.fV 114 118,bm 120 F.gq 113 119,aR 121 1 108 109,bA 1 121 120] (some ⟨[0,1,2,3,4,5,6,7,8,9,10,11,12,13,14],c5 12 3,[(11,5)]⟩)) .skip
def EZ:List aw:=[aU 107 .neq 106 0,m 101 107]
def EK:aM:=ae [bc 86 .lss 85 84] (.seq (cp 86 4) (.seq (.block 5 (ae [m 87 85,m 12 87] (.block 6 (ae [m 89 12,m 90 2,bc 91 .eql 89 90,m 88 91] (.cond (.t 88) (.bj (m 92 10::m 93 12::m 94 11::m 95 6::m 96 12::aR 97 1 95 96::av 98 97::bm 99 F.fV 94 98::EY)) (ae (m 102 6::m 103 12::aR 104 1 102 103::av 105 104::aX 106 F.dY 105::EZ) ES)))))) (.bj [aU 122 .add 85 1,m 85 122])))
def tc:aM:=ae [m 83 10,bp 84 83,bH 85 0] (.block 4 (.loop EK))
def y1:List aw:=[bS 81 78 (.bin .eql .bE (.t 80) (ci 0)),dV 82 78 81]
def EL:aM:=ae [bc 67 .lss 66 65] (.seq (cp 67 2) (.seq (.block 3 (ae [m 68 66,aR 69 1 64 66,av 70 69,m 9 68,m 10 70] (ae [m 71 10,m 72 2,aR 73 1 71 72,av 74 73,m 11 74] (.seq (ae (m 75 9::m 76 1::bc 77 .eql 75 76::m 78 77::dm 79 78 11::bS 80 78 (.call F.dY [(.t 79)])::y1) (.cond (.t 82) (.exit 3) .skip)) tc)))) (.bj [aU 123 .add 66 1,m 66 123])))
def EO:aM:=.seq (ae [m 61 0,b2 62 61,aB 63 5 62,av 64 63,bp 65 64,bH 66 0] (.block 2 (.loop EL))) EN
def ET:List aw:=[m 32 37,a6 38 32 0,a6 39 32 1,aR 40 1 33 34,bA 1 40 38]
def EU:List aw:=m 36 7::bm 37 F.jc 35 36::ET
def EV:List aw:=[m 47 56,a6 57 47 0,a6 58 47 1,aR 59 1 48 49,bA 1 59 57]
def EW:List aw:=m 55 7::bm 56 F.jc 54 55::EV
def EP:aM:=.cond (.t 46) (.bj (m 48 6::m 49 8::m 50 6::m 51 8::aR 52 1 50 51::av 53 52::aX 54 F.ij 53::EW)) .skip
def EX:List aw:=[aU 46 .neq 45 0]
def EM:aM:=ae [bc 27 .lss 26 25] (.seq (cp 27 0) (.seq (.block 1 (ae [m 28 26,m 8 28] (ae [m 29 8,m 30 2,bc 31 .eql 29 30] (.cond (.t 31) (.bj (m 33 6::m 34 8::nK 35 F.fW 1::EU)) (ae (m 41 6::m 42 8::aR 43 1 41 42::av 44 43::aX 45 F.dY 44::EX) EP))))) (.bj [aU 60 .add 26 1,m 26 60])))
def y0:aM:=.block 0 (.loop EM)
def ER:aM:=ae [m 20 6,m 21 2,aR 22 1 20 21,av 23 22,m 7 23] (.seq (ae [m 24 6,bp 25 24,bH 26 0] y0) EO)
@[simp] def ny:aZ:=⟨150,(ae [m 13 0,b2 14 13,aB 15 5 14,av 16 15,m 17 1,aR 18 1 16 17,av 19 18,m 6 19] ER),[]⟩
abbrev T.oJ:Nat:=132
@[simp] def ns:aZ:=⟨29,(ae [ds 2 132 0,bM 4] (.seq (ae [m 5 1,aU 6 .gtr 5 0] (.cond (.t 6) (ae (aB 7 1 2::av 8 7::ig 9 .eql 8::m 10 9::eb 11 10 2 2::dB 12 10 11::eb 13 10 1 2::dB 14 10 13::bS 15 10 (.call F.gJ [(.t 12),(.t 14)])::[bS 16 10 (.bin .lss .bE (.t 15) (ci 0)),dV 17 10 16,m 4 17]) .ret) .skip)) (ae (aB 18 0 2::av 19 18::ig 20 .eql 19::m 21 20::eb 22 21 2 2::dB 23 21 22::eb 24 21 0 2::dB 25 21 24::bS 26 21 (.call F.gJ [(.t 23),(.t 25)])::[bS 27 21 (.bin .gtr .bE (.t 26) (ci 0)),dV 28 21 27,m 4 28]) .ret))),[.slot 4]⟩
def vK:aM:=ae [bH 2 0] .ret
def q2:aM:=.cond (.t 3) (ae [bH 2 1] .ret) (ae (aB 16 1 1::av 17 16::ig 18 .neq 17::m 19 18::ec 20 19 2 1::cQ 21 19 20::ec 22 19 1 1::cQ 23 19 22::bK 24 19 (.call F.gJ [(.t 21),(.t 23)])::[bK 25 19 (.bin .gtr .bE (.t 24) (ci 0)),di 26 19 25,m 15 26]) (.cond (.t 15) (ae [hx 2 0] .ret) .skip))
@[simp] def mh:aZ:=⟨27,(ae [ds 1 132 0,bH 2 0] (.seq (.block 0 (ae (aB 4 0 1::av 5 4::ig 6 .neq 5::m 7 6::ec 8 7 2 1::cQ 9 7 8::ec 10 7 0 1::cQ 11 7 10::bK 12 7 (.call F.gJ [(.t 9),(.t 11)])::[bK 13 7 (.bin .lss .bE (.t 12) (ci 0)),di 14 7 13,m 3 14]) q2)) vK)),[.slot 2]⟩
def nw:aM:=.seq (.draw [m 47 7,aU 48 .lss 47 0,m 49 48,dm 50 49 0,bS 51 49 (.nilCheck (.t 50)),eb 52 49 4 51,dB 53 49 52,dm 54 49 8,n2 55 49 1 53 54,dB 56 49 55,dm 57 49 0,bS 58 49 (.nilCheck (.t 57)),eb 59 49 4 58,dB 60 49 59,dm 61 49 7,n2 62 49 1 60 61,dB 63 49 62,lF 64 49 .lss 56 63,dV 65 49 64] (some ⟨[0,1,2,3,4,5,6,7,8,9,10,11,12,13,14,15,16,17,18],[true,true,true,false,false,false,false,false,false,false,false,false,false,false,false,false,false,true,true],[]⟩)) (.cond (.t 65) (.bj [m 66 8,m 7 66]) .skip)
def Ei:aM:=ae [bc 19 .lss 18 17] (.seq (cp 19 0) (.seq (.block 1 (ae [m 20 18,aR 21 1 16 18,av 22 21,m 8 20,m 9 22] (.seq (.seq (.draw [m 23 9,aX 24 F.dY 23,aU 25 .eql 24 0,m 26 25,dm 27 26 0,bS 28 26 (.nilCheck (.t 27)),eb 29 26 2 28,dB 30 26 29,dm 31 26 0,bS 32 26 (.nilCheck (.t 31)),eb 33 26 4 32,dB 34 26 33,dm 35 26 8,n2 36 26 1 34 35,dB 37 26 36,n2 38 26 3 30 37,bS 39 26 (.load true 3 (.t 38)),dm 40 26 2,dm 41 26 9,bS 42 26 (.call F.dY [(.t 41)]),lF 43 26 .mul 40 42,bS 44 26 (.call F.ns [(.t 39),(.t 43)]),bS 45 26 (.un .not (.t 44)),dV 46 26 45] (some ⟨[0,1,2,3,4,5,6,7,8,9,10,11,12,13,14,15,16,17,18,19,20,21,22,23],[true,true,true,true,false,false,false,false,false,false,false,false,false,false,false,false,false,false,false,false,false,true,true,true],[(19,7),(19,11),(19,14),(19,16)]⟩)) (.cond (.t 46) (.exit 1) .skip)) nw))) (.bj [aU 67 .add 18 1,m 18 67])))
@[simp] def oN:aZ:=⟨69,(ae [bH 6 0] (ae [hx 7 0] (.seq (ae [m 10 0,b2 11 10,aB 12 5 11,av 13 12,m 14 1,aR 15 1 13 14,av 16 15,bp 17 16,bH 18 0] (.block 0 (.loop Ei))) (ae [m 68 7,m 6 68] .ret)))),[.slot 6]⟩
def Fq:List aw:=[aU 24 .neq 23 0,m 25 24,cT 26 25 3,bK 27 25 (.bin .lss .bE (.t 26) (ci 0)),cT 28 25 27,dm 29 28 5,dm 30 28 0,bS 31 28 (.nilCheck (.t 30)),eb 32 28 3 31,dB 33 28 32,dm 34 28 3,n2 35 28 1 33 34,dB 36 28 35,lF 37 28 .lss 29 36,bK 38 25 (.pick (.t 28) (.c (.bool true)) (.t 37)),di 39 25 38]
def Fp:aM:=ae [bc 12 .lss 11 10] (.seq (cp 12 0) (.seq (.block 1 (ae [m 13 11,aR 14 1 9 11,av 15 14,m 4 13,m 5 15] (ae (m 16 0::b2 17 16::aB 18 2 17::av 19 18::m 20 5::aR 21 3 19 20::ca 22 3 21::aX 23 F.mh 22::Fq) (.cond (.t 39) (.bj [m 40 4,m 3 40]) .skip)))) (.bj [aU 41 .add 11 1,m 11 41])))
@[simp] def oT:aZ:=⟨43,(ae [bH 2 0] (ae [hx 3 0] (.seq (ae [m 6 0,b2 7 6,aB 8 3 7,av 9 8,bp 10 9,bH 11 0] (.block 0 (.loop Fp))) (ae [m 42 3,m 2 42] .ret)))),[.slot 2]⟩
def Ed:aM:=.bj [m 65 0,m 66 4,m 67 8,iQ 68 F.ny 65 66 67]
def vE:aM:=ae [m 61 0,m 62 8,m 63 9,iQ 64 F.nx 61 62 63] Ed
def Ef:aM:=.seq (ae [m 40 8,aU 41 .lss 40 0] (.cond (.t 41) (ae [m 42 4,m 2 42,bM 3] .ret) .skip)) (.seq (.draw [m 44 7,aB 45 2 5,av 46 45,bm 47 F.ik 44 46,m 48 0,b2 49 48,aB 50 5 49,av 51 50,m 52 4,aR 53 1 51 52,av 54 53,m 55 8,aR 56 1 54 55,av 57 56,bm 58 F.jc 47 57,m 43 58,a6 59 43 0,a6 60 43 1,m 9 59,m 10 60] (some ⟨[0,1,2,4,5,6,7,8,9,10,11,12,13,3,14,15,16,17,18,19],c5 14 6,[(13,6),(13,9),(13,12)]⟩)) vE)
def Eh:List aw:=[m 8 39]
def vF:aM:=ae (m 36 0::m 37 4::m 38 6::iQ 39 F.oN 36 37 38::Eh) Ef
def yV:aM:=.seq (ae [m 32 6,aU 33 .lss 32 0] (.cond (.t 33) (.bj [aB 34 1 5,av 35 34,m 7 35]) .skip)) vF
def yW:aM:=.seq (.draw [ca 28 3 5,aX 29 F.mh 28,aB 30 0 5,av 31 30,m 6 29,m 7 31] (some ⟨[0,2,3,1,4,5],c5 5 1,[(3,2)]⟩)) yV
def Ee:aM:=.seq (ae [m 13 4,aU 14 .lss 13 0] (.cond (.t 14) (ae [bH 2 0,fU 3] .ret) .skip)) (.seq (.draw [m 15 0,b2 16 15,aB 17 2 16,av 18 17,m 19 0,b2 20 19,aB 21 3 20,av 22 21,m 23 4,aR 24 1 22 23,av 25 24,aR 26 3 18 25,ca 27 3 26,o 5 (.alloc 132 [(.pointer none),(.pointer none),(.pointer none)]),bA 3 5 27] (some ⟨[0,1,2,3,4,5,6,7,8,9,10,11,12,13,14],c5 14 1,[(13,3),(13,7),(13,10),(13,12)]⟩)) yW)
def Eg:List aw:=[m 4 12]
def Ec:aM:=.block 1 (ae (m 11 0::aX 12 F.oT 11::Eg) Ee)
abbrev T.TY:Nat:=132
@[simp] def oM:aZ:=⟨69,(ae [bH 2 0,bM 3] (.block 0 (.loop Ec))),[.slot 2,.slot 3]⟩
@[simp] def nt:aZ:=⟨24,(ae [cU 4] (.seq (ae [m 5 1,m 6 0,b2 7 6,aB 8 0 7,aB 9 0 8,av 10 9,bp 11 10,bc 12 .lss 5 11] (.cond (.t 12) (ae (m 13 0::b2 14 13::aB 15 0 14::aB 16 0 15::av 17 16::m 18 1::aR 19 5 17 18::aB 20 3 19::av 21 20::aX 22 F.jK 21::[m 4 22]) .ret) .skip)) (ae (nK 23 F.fW 0::[m 4 23]) .ret))),[.slot 4]⟩
def Fb:aM:=.cond (.t 58) (.draw [m 59 3,m 60 9,m 61 3,m 62 9,aR 63 1 61 62,av 64 63,m 65 8,m 66 10,bm 67 F.fV 65 66,bm 68 F.gq 64 67,aR 69 1 59 60,bA 1 69 68] (some ⟨[0,1,2,3,4,5,6,7,8,9,10,11],c5 9 3,[(8,5)]⟩)) .skip
def Fg:List aw:=[aU 58 .neq 57 0]
def E9:aM:=ae [bc 52 .lss 51 50] (.seq (cp 52 4) (.seq (.block 5 (ae [m 53 51,aR 54 1 49 51,av 55 54,m 9 53,m 10 55] (ae (m 56 10::aX 57 F.dY 56::Fg) Fb))) (.bj [aU 70 .add 51 1,m 51 70])))
def vL:aM:=ae [m 49 7,bp 50 49,bH 51 0] (.block 4 (.loop E9))
def Fc:List aw:=[aU 48 .eql 47 0]
def E':aM:=.seq (ae (m 46 8::aX 47 F.dY 46::Fc) (.cond (.t 48) (.exit 3) .skip)) vL
def Fe:List aw:=[m 8 45]
def E7:aM:=ae [bc 33 .lss 32 31] (.seq (cp 33 2) (.seq (.block 3 (ae [m 34 32,aR 35 1 30 32,av 36 35,m 6 34,m 7 36] (ae (m 37 0::m 38 0::b2 39 38::aB 40 3 39::av 41 40::m 42 6::aR 43 1 41 42::av 44 43::bm 45 F.nt 37 44::Fe) E'))) (.bj [aU 71 .add 32 1,m 32 71])))
def Fa:aM:=.seq (ae [m 27 0,b2 28 27,aB 29 5 28,av 30 29,bp 31 30,bH 32 0] (.block 2 (.loop E7))) (ae [m 72 3,m 2 72] .ret)
def Ff:List aw:=[o 24 (.buildSlice [(.pointer none)] 1 1 [(0,1,(.t 23))]),ju 25 1 8 20 24,m 3 25]
def E8:aM:=ae [bc 17 .lss 16 15] (.seq (cp 17 0) (.seq (.block 1 (ae [aR 18 1 14 16,av 19 18,m 5 19] (.bj (m 20 3::m 21 0::m 22 5::bm 23 F.nt 21 22::Ff)))) (.bj [aU 26 .add 16 1,m 16 26])))
@[simp] def nA:aZ:=⟨73,(ae [hb 2] (ae [hb 3] (.seq (ae [m 11 0,b2 12 11,aB 13 4 12,av 14 13,bp 15 14,bH 16 0] (.block 0 (.loop E8))) Fa))),[.slot 2]⟩
def Eb:List aw:=[o 68 (.un .neg (.t 67)),m 4 62,m 5 68]
def D':aM:=ae (m 62 6::m 63 1::m 64 6::aR 65 1 63 64::av 66 65::aX 67 F.dY 66::Eb) .ret
def Ea:aM:=.seq (ae [m 60 6,aU 61 .lss 60 0] (.cond (.t 61) (ae [hx 4 0,bH 5 0] .ret) .skip)) D'
def nv:aM:=.seq (.draw [m 39 6,aU 40 .lss 39 0,m 41 40,dm 42 41 0,bS 43 41 (.nilCheck (.t 42)),eb 44 41 4 43,dB 45 41 44,dm 46 41 7,n2 47 41 1 45 46,dB 48 41 47,dm 49 41 0,bS 50 41 (.nilCheck (.t 49)),eb 51 41 4 50,dB 52 41 51,dm 53 41 6,n2 54 41 1 52 53,dB 55 41 54,lF 56 41 .lss 48 55,dV 57 41 56] (some ⟨[0,1,2,3,4,5,6,7,8,9,10,11,12,13,14,15,16,17,18],[true,true,true,false,false,false,false,false,false,false,false,false,false,false,false,false,false,true,true],[]⟩)) (.cond (.t 57) (.bj [m 58 7,m 6 58]) .skip)
def D9:aM:=ae [bc 12 .lss 11 10] (.seq (cp 12 0) (.seq (.block 1 (ae [m 13 11,aR 14 1 9 11,av 15 14,m 7 13,m 8 15] (.seq (.seq (.draw [m 16 8,aX 17 F.dY 16,aU 18 .eql 17 0,m 19 18,dm 20 19 0,bS 21 19 (.nilCheck (.t 20)),eb 22 19 2 21,dB 23 19 22,dm 24 19 0,bS 25 19 (.nilCheck (.t 24)),eb 26 19 4 25,dB 27 19 26,dm 28 19 7,n2 29 19 1 27 28,dB 30 19 29,n2 31 19 3 23 30,bS 32 19 (.load true 3 (.t 31)),dm 33 19 8,bS 34 19 (.call F.dY [(.t 33)]),bS 35 19 (.un .neg (.t 34)),bS 36 19 (.call F.ns [(.t 32),(.t 35)]),bS 37 19 (.un .not (.t 36)),dV 38 19 37] (some ⟨[0,1,2,3,4,5,6,7,8,9,10,11,12,13,14,15,16,17,18,19,20,21,22],[true,true,true,true,false,false,false,false,false,false,false,false,false,false,false,false,false,false,false,false,true,true,true],[(18,7),(18,11),(18,14),(18,16)]⟩)) (.cond (.t 38) (.exit 1) .skip)) nv))) (.bj [aU 59 .add 11 1,m 11 59])))
@[simp] def oL:aZ:=⟨69,(ae [bH 4 0,bH 5 0] (ae [hx 6 0] (.seq (ae [m 9 1,bp 10 9,bH 11 0] (.block 0 (.loop D9))) Ea))),[.slot 4,.slot 5]⟩
@[simp] def nB:aZ:=⟨31,(ae [ds 2 132 0,cU 4] (.seq (.block 0 (ae [m 6 1,aU 7 .gtr 6 0,m 8 7,ec 9 8 1 2,cQ 10 8 9,bK 11 8 (.bin .neq (.nil .ptr) (.t 10) (.c (.pointer none))),di 12 8 11,m 5 12] (.cond (.t 5) (ae (aB 13 1 2::av 14 13::aB 15 2 2::av 16 15::bm 17 F.ik 14 16::[m 4 17]) .ret) (ae [m 19 1,aU 20 .lss 19 0,m 21 20,ec 22 21 0 2,cQ 23 21 22,bK 24 21 (.bin .neq (.nil .ptr) (.t 23) (.c (.pointer none))),di 25 21 24,m 18 25] (.cond (.t 18) (ae (aB 26 2 2::av 27 26::aB 28 0 2::av 29 28::bm 30 F.ik 27 29::[m 4 30]) .ret) .skip))))) (ae [cU 4] .ret))),[.slot 4]⟩
def s':aM:=.cond (.t 107) (.draw [m 108 14,m 109 11,m 110 0,b2 111 110,aB 112 3 111,av 113 112,m 114 11,aR 115 1 113 114,av 116 115,m 8 108,m 9 109,m 10 116] (some ⟨[0,1,2,3,4,5,6,7,8,9,10,11],[false,false,true,true,true,true,false,true,true,false,false,true],[]⟩)) .skip
def Em:aM:=ae [m 91 15,aU 92 .lss 91 0,m 93 92,dm 94 93 15,bS 95 93 (.bin .eql .bE (.t 94) (ci 0)),dm 96 93 95,cT 97 96 0,bK 98 96 (.nilCheck (.t 97)),ec 99 96 3 98,cQ 100 96 99,cT 101 96 11,lG 102 96 1 100 101,cQ 103 96 102,cT 104 96 10,h' 105 96 .lss 103 104,bS 106 93 (.pick (.t 96) (.t 105) (.c (.bool false))),dV 107 93 106] s'
def Ep:List aw:=[m 15 90]
def En:aM:=ae [hx 15 0] (.seq (ae [m 86 8,ig 87 .neq 86] (.cond (.t 87) (.bj (m 88 14::m 89 8::bm 90 F.gJ 88 89::Ep)) .skip)) Em)
def Er:List aw:=[m 80 83,a6 84 80 0,a6 85 80 1,m 14 84]
def qZ:aM:=ae (m 81 14::m 82 13::bm 83 F.jc 81 82::Er) En
def Ek:aM:=.seq (ae (m 75 13::aX 76 F.dY 75::[aU 77 .lss 76 0]) (.cond (.t 77) (.bj (m 78 13::aX 79 F.ij 78::[m 13 79])) .skip)) qZ
def vG:aM:=.seq (ae [m 73 14,ig 74 .eql 73] (.cond (.t 74) (.exit 1) .skip)) Ek
def El:aM:=.seq (.draw [m 55 0,b2 56 55,aB 57 2 56,av 58 57,m 59 0,b2 60 59,aB 61 3 60,av 62 61,m 63 11,aR 64 1 62 63,av 65 64,aR 66 3 58 65,ca 67 3 66,m 68 2,m 69 13,aX 70 F.dY 69,bc 71 .mul 68 70,bm 72 F.nB 67 71,m 14 72] (some ⟨[0,1,2,3,4,5,6,7,8,9,10,11,12,13,14,15,16,17,18],c5 17 2,[(15,3),(15,7),(15,10),(15,12)]⟩)) vG
def Eo:List aw:=[aU 54 .eql 53 0]
def Ej:aM:=ae [bc 44 .lss 43 42] (.seq (cp 44 0) (.seq (.block 1 (ae [m 45 43,aR 46 1 41 43,av 47 46,m 11 45,m 12 47] (ae [m 48 12,m 49 1,aR 50 1 48 49,av 51 50,m 13 51] (.seq (ae (m 52 13::aX 53 F.dY 52::Eo) (.cond (.t 54) (.exit 1) .skip)) El)))) (.bj [aU 117 .add 43 1,m 43 117])))
def yX:aM:=.seq (ae [m 38 0,b2 39 38,aB 40 5 39,av 41 40,bp 42 41,bH 43 0] (.block 0 (.loop Ej))) (ae [m 118 8,m 119 9,m 6 118,m 7 119] .ret)
@[simp] def oO:aZ:=⟨120,(ae [cU 6,bH 7 0] (.seq (.draw [m 16 0,b2 17 16,aB 18 2 17,av 19 18,m 20 0,b2 21 20,aB 22 4 21,av 23 22,m 24 1,aR 25 1 23 24,av 26 25,aR 27 3 19 26,ca 28 3 27,m 29 2,bm 30 F.nB 28 29,m 31 0,b2 32 31,aB 33 4 32,av 34 33,m 35 1,aR 36 1 34 35,av 37 36,m 8 30,hx 9 0,m 10 37] (some ⟨[0,1,2,3,4,5,6,7,8,9,10,11,12,13,15,16,17,18,19,20,21,14,22,23,24],c5 24 1,[(21,17),(21,20)]⟩)) yX)),[.slot 6,.slot 7]⟩
def D1:aM:=ae [m 36 7,aU 37 .geq 36 0] (.cond (.t 37) (.bj [m 38 0,m 39 7,m 40 4,iQ 41 F.ny 38 39 40]) .skip)
def vD:aM:=ae [m 32 0,m 33 4,m 34 6,iQ 35 F.nx 32 33 34] D1
def D2:aM:=.seq (ae [m 24 6,ig 25 .eql 24] (.cond (.t 25) (ae [m 26 4,m 27 5,m 2 26,m 3 27] .ret) .skip)) (.seq (ae [m 28 5,aU 29 .lss 28 0] (.cond (.t 29) (.bj (m 30 6::aX 31 F.ij 30::[m 6 31])) .skip)) vD)
def D5:List aw:=[m 17 21,a6 22 17 0,a6 23 17 1,m 6 22,m 7 23]
def yU:aM:=.seq (ae [m 15 4,aU 16 .lss 15 0] (.cond (.t 16) (ae [hx 2 0,bH 3 0] .ret) .skip)) (ae (m 18 0::m 19 4::m 20 5::iQ 21 F.oO 18 19 20::D5) D2)
def D3:List aw:=[m 8 12,a6 13 8 0,a6 14 8 1,m 4 13,m 5 14]
def D4:List aw:=bm 12 F.oL 9 11::D3
def D0:aM:=.block 1 (ae (m 9 0::m 10 0::aX 11 F.nA 10::D4) yU)
@[simp] def oK:aZ:=⟨42,(ae [bH 2 0,bH 3 0] (.block 0 (.loop D0))),[.slot 2,.slot 3]⟩
def Fs:aM:=ae [bc 10 .lss 9 8] (.seq (cp 10 0) (.seq (.block 1 (ae [m 11 9,m 4 11] (.bj [m 12 3,m 13 4,aR 14 1 12 13,⟨none,none,.store 1 (.t 14) (.c (.string ⟨#[48]⟩))⟩]))) (.bj [aU 15 .add 9 1,m 9 15])))
@[simp] def nC:aZ:=⟨17,(ae [hb 2] (ae [m 5 0,o 6 (.mkSlice [(.string ⟨#[]⟩)] 16 (.t 5) (.t 5)),m 3 6] (.seq (ae [m 7 3,bp 8 7,bH 9 0] (.block 0 (.loop Fs))) (ae [m 16 3,m 2 16] .ret)))),[.slot 2]⟩
def E1:List aw:=[aR 28 1 17 18,bA 1 28 27]
def E0:aM:=ae [bc 15 .lss 14 13] (.seq (cp 15 0) (.seq (.block 1 (ae [m 16 14,m 4 16] (.bj (m 17 3::m 18 4::m 19 0::b2 20 19::aB 21 2 20::av 22 21::m 23 4::aR 24 3 22 23::aB 25 2 24::av 26 25::aX 27 F.hy 26::E1)))) (.bj [aU 29 .add 14 1,m 14 29])))
@[simp] def nz:aZ:=⟨31,(ae [hb 2] (ae [m 5 0,b2 6 5,aB 7 0 6,aB 8 0 7,av 9 8,bp 10 9,o 11 (.mkSlice [(.string ⟨#[]⟩)] 16 (.t 10) (.t 10)),m 3 11] (.seq (ae [m 12 3,bp 13 12,bH 14 0] (.block 0 (.loop E0))) (ae [m 30 3,m 2 30] .ret)))),[.slot 2]⟩
def D6:aM:=ae [bc 21 .lss 20 19] (.seq (cp 21 0) (.seq (.block 1 (ae [m 22 20,aR 23 1 18 20,av 24 23,m 6 22,m 7 24] (ae [m 25 7,m 26 0,b2 27 26,aB 28 0 27,aB 29 0 28,av 30 29,bp 31 30,bc 32 .geq 25 31] (.cond (.t 32) (.draw [m 33 5,m 34 7,m 35 0,b2 36 35,aB 37 0 36,aB 38 0 37,av 39 38,bp 40 39,bc 41 .sub 34 40,m 42 1,m 43 6,aR 44 1 42 43,av 45 44,aX 46 F.hy 45,aR 47 1 33 41,bA 1 47 46] (some ⟨[0,1,2,3,4,5,6,7,8,9,10,11,12,13,14,15],c5 14 2,[(13,6),(13,7)]⟩)) .skip)))) (.bj [aU 48 .add 20 1,m 20 48])))
def D7:aM:=.seq (ae [m 15 0,b2 16 15,aB 17 4 16,av 18 17,bp 19 18,bH 20 0] (.block 0 (.loop D6))) (ae [m 49 5,m 4 49] .ret)
def D8:List aw:=[m 5 14]
@[simp] def nu:aZ:=⟨50,(ae [hb 4] (ae (m 8 0::b2 9 8::aB 10 0 9::aB 11 1 10::av 12 11::bp 13 12::aX 14 F.nC 13::D8) D7)),[.slot 4]⟩
def Fj:aM:=.seq (ae [m 60 5,m 61 0,b2 62 61,aB 63 0 62,aB 64 0 63,av 65 64,bp 66 65,bc 67 .geq 60 66] (.cond (.t 67) (ae [m 68 10,m 69 5,m 70 0,b2 71 70,aB 72 0 71,aB 73 0 72,av 74 73,bp 75 74,bc 76 .sub 69 75,aR 77 1 68 76,⟨none,none,.store 1 (.t 77) (.c (.string ⟨#[45,49]⟩))⟩] (ae [m 78 6] (.cond (.t 78) (.bj [m 79 10,m 80 5,m 81 0,b2 82 81,aB 83 0 82,aB 84 0 83,av 85 84,bp 86 85,bc 87 .sub 80 86,aR 88 1 79 87,⟨none,none,.store 1 (.t 88) (.c (.string ⟨#[49]⟩))⟩]) .skip))) .skip)) (ae [m 89 10,m 4 89] .ret)
def Fm:List aw:=[m 10 59]
def Fk:aM:=ae (m 57 0::m 58 7::bm 59 F.nu 57 58::Fm) Fj
def Fo:List aw:=[aR 55 1 51 52,bA 1 55 54]
def Fh:aM:=ae [bc 42 .lss 41 40] (.seq (cp 42 0) (.seq (.block 1 (ae [m 43 41,aR 44 1 39 41,av 45 44,m 8 43,m 9 45] (ae [m 46 7,m 47 8,m 48 9,aR 49 1 46 47,bA 1 49 48] (ae [m 50 6] (.cond (.t 50) (.bj (m 51 7::m 52 8::m 53 9::aX 54 F.ij 53::Fo)) .skip))))) (.bj [aU 56 .add 41 1,m 41 56])))
def Fi:aM:=ae [m 27 0,b2 28 27,aB 29 4 28,av 30 29,bp 31 30,o 32 (.mkSlice [(.pointer none)] 8 (.t 31) (.t 31)),m 7 32] (.seq (ae [m 33 0,b2 34 33,aB 35 5 34,av 36 35,m 37 1,aR 38 1 36 37,av 39 38,bp 40 39,bH 41 0] (.block 0 (.loop Fh))) Fk)
def Fl:List aw:=[aU 26 .gtr 25 0,m 6 26]
@[simp] def oR:aZ:=⟨90,(ae [hb 4] (ae [m 11 0,b2 12 11,aB 13 3 12,av 14 13,m 15 1,aR 16 1 14 15,av 17 16,m 5 17] (ae (m 18 0::b2 19 18::aB 20 2 19::av 21 20::m 22 5::aR 23 3 21 22::ca 24 3 23::aX 25 F.mh 24::Fl) Fi))),[.slot 4]⟩
def E2:aM:=ae [bc 41 .lss 40 39] (.seq (cp 41 0) (.seq (.block 1 (ae [m 42 40,aR 43 1 38 40,av 44 43,m 9 42,m 10 44] (ae [m 45 10,m 46 7,bp 47 46,bc 48 .lss 45 47] (.cond (.t 48) (.draw [m 49 7,m 50 10,m 51 0,b2 52 51,aB 53 5 52,av 54 53,m 55 9,aR 56 1 54 55,av 57 56,m 58 1,aR 59 1 57 58,av 60 59,m 61 2,aX 62 F.fW 61,bm 63 F.fV 60 62,aX 64 F.hy 63,aR 65 1 49 50,bA 1 65 64] (some ⟨[0,1,2,3,4,5,6,7,8,9,10,11,12,13,14,15,16,17],c5 14 4,[(13,5),(13,8),(13,11)]⟩)) .skip)))) (.bj [aU 66 .add 40 1,m 40 66])))
def q3:aM:=.seq (ae [m 35 0,b2 36 35,aB 37 3 36,av 38 37,bp 39 38,bH 40 0] (.block 0 (.loop E2))) (ae [m 67 7,m 6 67] .ret)
def E6:List aw:=[aR 34 1 29 30,bA 1 34 33]
def E4:List aw:=aX 33 F.hy 32::E6
def E3:aM:=.seq (ae [m 18 0,b2 19 18,aB 20 4 19,av 21 20,m 22 1,aR 23 1 21 22,av 24 23,m 8 24] (ae [m 25 8,m 26 7,bp 27 26,bc 28 .lss 25 27] (.cond (.t 28) (.bj (m 29 7::m 30 8::m 31 2::aX 32 F.fW 31::E4)) .skip))) q3
def E5:List aw:=[m 7 17]
@[simp] def oQ:aZ:=⟨68,(ae [hb 6] (ae (m 11 0::b2 12 11::aB 13 0 12::aB 14 0 13::av 15 14::bp 16 15::aX 17 F.nC 16::E5) E3)),[.slot 6]⟩
def DP:List aw:=[o 57 (.build [(.int .i64 (.ofNat 0)),(.string ⟨#[]⟩),(.slice none 0 0),(.slice none 0 0),(.slice none 0 0)] [(0,1,(ci 1)),(1,1,(.t 51)),(2,1,(.t 52)),(3,1,(.t 56))]),bA 5 2 57,fU 3]
def DQ:List aw:=bm 56 F.nu 53 55::DP
def DL:aM:=ae (m 51 10::m 52 9::m 53 4::m 54 4::aX 55 F.nA 54::DQ) .ret
def DW:List aw:=[m 45 48,a6 49 45 0,a6 50 45 1,m 10 49,m 11 50]
def DN:aM:=ae (ca 46 2 1::m 47 9::bm 48 F.mQ 46 47::DW) DL
def DX:List aw:=[m 9 44]
def DO:aM:=ae (m 43 4::aX 44 F.nz 43::DX) DN
def DY:List aw:=[o 42 (.build [(.int .i64 (.ofNat 0)),(.string ⟨#[]⟩),(.slice none 0 0),(.slice none 0 0),(.slice none 0 0)] [(0,1,(ci 3)),(2,1,(.t 37)),(4,1,(.t 41))]),bA 5 2 42,fU 3]
def DZ:List aw:=m 38 4::m 39 7::m 40 8::iQ 41 F.oQ 38 39 40::DY
def DG:aM:=ae [m 34 7,aU 35 .geq 34 0] (.cond (.t 35) (ae (m 36 4::aX 37 F.nz 36::DZ) .ret) .skip)
def DR:List aw:=[m 29 31,a6 32 29 0,a6 33 29 1,m 7 32,m 8 33]
def DH:aM:=.seq (ae (m 30 4::aX 31 F.oK 30::DR) DG) DO
def DS:List aw:=[o 28 (.build [(.int .i64 (.ofNat 0)),(.string ⟨#[]⟩),(.slice none 0 0),(.slice none 0 0),(.slice none 0 0)] [(0,1,(ci 2)),(3,1,(.t 27))]),bA 5 2 28,fU 3]
def DI:aM:=ae [m 23 6,eQ 24 23] (.cond (.t 24) (ae (m 25 4::m 26 5::bm 27 F.oR 25 26::DS) .ret) .skip)
def DT:List aw:=[m 18 20,a6 21 18 0,a6 22 18 1,m 5 21,m 6 22]
def DJ:aM:=.seq (ae (m 19 4::aX 20 F.oM 19::DT) DI) DH
def DU:List aw:=[m 4 17]
def DK:aM:=ae (ca 16 2 1::aX 17 F.oP 16::DU) DJ
def DM:aM:=.cond (.t 14) (ae [o 15 (.build [(.int .i64 (.ofNat 0)),(.string ⟨#[]⟩),(.slice none 0 0),(.slice none 0 0),(.slice none 0 0)] []),bA 5 2 15,bM 3] .ret) .skip
def DV:List aw:=[eQ 14 13]
abbrev T.TW:Nat:=25
abbrev T.TX:Nat:=35
@[simp] def nr:aZ:=⟨58,(ae [ds 1 25 0,o 2 (.alloc 35 [(.int .i64 (.ofNat 0)),(.string ⟨#[]⟩),(.slice none 0 0),(.slice none 0 0),(.slice none 0 0)]),bM 3] (.seq (ae (ca 12 2 1::aX 13 F.i' 12::DV) DM) DK)),[.cell 2 true 5,.slot 3]⟩
def Am:aM:=ae [ca 30 2 3,bA 2 2 30] .ret
def An:aM:=.draw [aB 21 1 3,av 22 21,m 23 4,aB 24 2 5,av 25 24,aX 26 F.nk 25,aR 27 5 22 23,aB 28 2 27,bA 1 28 26] (some ⟨[0,1,2,3,4,5,6,7,8],c5 6 3,[(5,1)]⟩)
def Al:aM:=ae [bc 17 .lss 16 15] (.seq (cp 17 0) (.seq (.block 1 (ae [m 18 16,aR 19 5 14 16,ca 20 5 19,o 5 (.alloc 64 [(.string ⟨#[]⟩),(.int .i64 (.ofNat 0)),(.slice none 0 0),(.string ⟨#[]⟩),(.string ⟨#[]⟩)]),m 4 18,bA 5 5 20] An)) (.bj [aU 29 .add 16 1,m 16 29])))
def rL:aM:=.seq (ae [aB 13 1 3,av 14 13,bp 15 14,bH 16 0] (.block 0 (.loop Al))) Am
abbrev T.NR:Nat:=25
abbrev T.NS:Nat:=64
@[simp] def jS:aZ:=⟨31,(ae [ds 1 25 0,o 2 (.alloc 25 [(.slice none 0 0),(.slice none 0 0)])] (.seq (.draw [aB 6 0 1,av 7 6,aX 8 F.pI 7,aB 9 1 1,av 10 9,aX 11 F.pJ 10,o 12 (.build [(.slice none 0 0),(.slice none 0 0)] [(0,1,(.t 8)),(1,1,(.t 11))]),o 3 (.alloc 25 [(.slice none 0 0),(.slice none 0 0)]),bA 2 3 12] (some ⟨[0,1,3,4,7,2,5,6,8],c5 8 1,[(4,1),(4,3),(5,3),(4,5),(4,6)]⟩)) rL)),[.cell 2 true 2]⟩
def Ae:aM:=.seq (.draw [ca 15 2 1,aX 16 F.jS 15,o 17 (.build [(.slice none 0 0),(.slice none 0 0)] [(0,2,(.t 16))]),ds 18 99 17,ca 19 5 5,m 2 18,bA 5 3 19,fU 4] (some ⟨[0,4,1,2,3,5,6,7],c5 6 2,[(2,1),(4,1)]⟩)) .ret
def Af:aM:=.seq (ae [m 12 6,eQ 13 12] (.cond (.t 13) (ae [o 14 (.build [(.int .i64 (.ofNat 0)),(.string ⟨#[]⟩),(.slice none 0 0),(.slice none 0 0),(.slice none 0 0)] []),cU 2,bA 5 3 14,bM 4] .ret) .skip)) Ae
def Ag:List aw:=[m 7 9,a6 10 7 0,a6 11 7 1,o 5 (.alloc 35 [(.int .i64 (.ofNat 0)),(.string ⟨#[]⟩),(.slice none 0 0),(.slice none 0 0),(.slice none 0 0)]),bA 5 5 10,m 6 11]
abbrev T.NP:Nat:=35
abbrev T.NQ:Nat:=99
@[simp] def nN:aZ:=⟨20,(ae [ds 1 25 0,cU 2,o 3 (.alloc 35 [(.int .i64 (.ofNat 0)),(.string ⟨#[]⟩),(.slice none 0 0),(.slice none 0 0),(.slice none 0 0)]),bM 4] (ae (ca 8 2 1::aX 9 F.nr 8::Ag) Af)),[.slot 2,.cell 3 true 5,.slot 4]⟩
def Ao:List aw:=[a6 16 15 0,a6 17 15 1,bA 5 4 16,m 5 17]
def wS:aM:=ae [m 10 0,ca 11 2 3,b2 12 10,aB 13 0 12,bA 2 13 11] (ae (ca 14 2 3::aX 15 F.nr 14::Ao) .ret)
def Ap:List aw:=[eQ 8 7]
@[simp] def mC:aZ:=⟨18,(ae [ds 3 25 1,o 4 (.alloc 35 [(.int .i64 (.ofNat 0)),(.string ⟨#[]⟩),(.slice none 0 0),(.slice none 0 0),(.slice none 0 0)]),bM 5] (.seq (ae (ca 6 2 3::aX 7 F.i' 6::Ap) (.cond (.t 8) (ae [o 9 (.build [(.int .i64 (.ofNat 0)),(.string ⟨#[]⟩),(.slice none 0 0),(.slice none 0 0),(.slice none 0 0)] []),bA 5 4 9,bM 5] .ret) .skip)) wS)),[.cell 4 true 5,.slot 5]⟩
def Aa:List aw:=[a6 48 47 0,a6 49 47 1,bA 5 8 48,m 9 49]
def z8:aM:=ae (m 45 0::ca 46 2 10::bm 47 F.mC 45 46::Aa) .ret
def z':aM:=.seq (.draw [aB 33 0 10,av 34 33,m 35 1,aB 36 0 10,av 37 36,m 38 1,m 39 2,m 40 3,aR 41 5 34 35,aB 42 1 41,bA 1 42 39,aR 43 5 37 38,aB 44 2 43,bA 1 44 40] (some ⟨[0,1,2,3,4,5,6,7,8,9,10,11,12,13],c5 11 3,[(10,4)]⟩)) z8
def Ab:List aw:=[o 10 (.alloc 25 [(.slice none 0 0),(.slice none 0 0)]),bA 2 10 32]
def wP:aM:=ae (m 28 0::b2 29 28::aB 30 0 29::ca 31 2 30::aX 32 F.jS 31::Ab) z'
@[simp] def nL:aZ:=⟨50,(ae [o 8 (.alloc 35 [(.int .i64 (.ofNat 0)),(.string ⟨#[]⟩),(.slice none 0 0),(.slice none 0 0),(.slice none 0 0)]),bM 9] (.seq (ae [m 11 0,ig 12 .eql 11,m 13 12,dm 14 13 1,bS 15 13 (.bin .lss .bE (.t 14) (ci 0)),dV 16 13 15,m 17 16,dm 18 17 1,dm 19 17 0,bS 20 17 (.nilCheck (.t 19)),eb 21 17 0 20,eb 22 17 0 21,dB 23 17 22,bS 24 17 (.len .l (.t 23)),lF 25 17 .geq 18 24,dV 26 17 25] (.cond (.t 26) (ae [o 27 (.build [(.int .i64 (.ofNat 0)),(.string ⟨#[]⟩),(.slice none 0 0),(.slice none 0 0),(.slice none 0 0)] []),bA 5 8 27,bM 9] .ret) .skip)) wP)),[.cell 8 true 5,.slot 9]⟩
@[simp] def pJ:aZ:=⟨8,(ae [hb 2] (.seq (ae [m 3 0,o 4 (.bin .eql (.nil .fb) (.t 3) (.c (.slice none 0 0)))] (.cond (.t 4) (ae [hb 2] .ret) .skip)) (ae [o 5 (.buildSlice [] 5 0 []),m 6 0,ju 7 5 80 5 6,m 2 7] .ret))),[.slot 2]⟩
@[simp] def nk:aZ:=⟨8,(ae [hb 2] (.seq (ae [m 3 0,o 4 (.bin .eql (.nil .fb) (.t 3) (.c (.slice none 0 0)))] (.cond (.t 4) (ae [hb 2] .ret) .skip)) (ae [o 5 (.buildSlice [] 2 0 []),m 6 0,ju 7 2 24 5 6,m 2 7] .ret))),[.slot 2]⟩
@[simp] def L':aZ:=⟨11,(ae [cU 2] (ae (m 6 0::aX 7 F.hQ 6::[m 5 7,a6 8 5 0,a6 9 5 1,m 3 8,m 4 9]) (ae [m 10 3,m 2 10] .ret))),[.slot 2]⟩
def X9:List aw:=[b2 31 22,aB 32 4 31,bA 1 32 30]
def V':aM:=ae [m 15 0,b2 16 15,aB 17 4 16,av 18 17,m 19 3,aR 20 2 18 19,ca 21 2 20,o 4 (.alloc 215 [(.int .i64 (.ofNat 0)),(.slice none 0 0)]),bA 2 4 21] (ae (m 22 0::m 23 0::b2 24 23::aB 25 4 24::av 26 25::m 27 3::m 28 3::aU 29 .add 28 1::iQ 30 F.Dh 26 27 29::X9) (ae [ca 33 2 4,bA 2 2 33] .ret))
abbrev T.Z3:Nat:=215
@[simp] def Uu:aZ:=⟨34,(ae [o 2 (.alloc 215 [(.int .i64 (.ofNat 0)),(.slice none 0 0)])] (ae [bH 3 0] (.seq (ae [m 5 0,b2 6 5,aB 7 2 6,av 8 7] (.cond (.t 8) (.bj [m 9 0,b2 10 9,aB 11 4 10,av 12 11,bp 13 12,aU 14 .sub 13 1,m 3 14]) .skip)) V'))),[.cell 2 true 2]⟩
def WD:aM:=ae [m 32 0,b2 33 32,aB 34 5 33,av 35 34,bp 36 35,aU 37 .sub 36 1,m 4 37] .ret
@[simp] def F6:aZ:=⟨38,(ae [bH 4 0] (ae [m 5 0,m 6 0,b2 7 6,aB 8 5 7,av 9 8,o 10 (.build [(.int .i64 (.ofNat 0)),(.string ⟨#[]⟩),(.int .i64 (.ofNat 0)),(.int .i64 (.ofNat 0)),(.slice none 0 0)] [(0,1,(.c (.int .i64 (.negSucc 0))))]),o 11 (.buildSlice [(.int .i64 (.ofNat 0)),(.string ⟨#[]⟩),(.int .i64 (.ofNat 0)),(.int .i64 (.ofNat 0)),(.slice none 0 0)] 5 1 [(0,5,(.t 10))]),ju 12 5 64 9 11,b2 13 5,aB 14 5 13,bA 1 14 12] (.seq (.draw [m 15 0,m 16 0,b2 17 16,aB 18 4 17,av 19 18,m 20 0,b2 21 20,aB 22 5 21,av 23 22,bp 24 23,aU 25 .sub 24 1,m 26 1,o 27 (.build [(.int .i64 (.ofNat 0)),(.slice none 0 0)] [(0,1,(.t 25)),(1,1,(.t 26))]),o 28 (.buildSlice [(.int .i64 (.ofNat 0)),(.slice none 0 0)] 2 1 [(0,2,(.t 27))]),ju 29 2 32 19 28,b2 30 15,aB 31 4 30,bA 1 31 29] (some ⟨[0,1,2,3,4,5,6,7,8,9,10,11,12,13,14,15,16,17],c5 14 4,[(13,4)]⟩)) WD))),[.slot 4]⟩
def X2:aM:=ae [hx 4 0] .ret
def VN:aM:=.cond (.t 28) (ae [m 29 5,m 4 29] .ret) .skip
def WE:List aw:=[bK 27 20 (.un .not (.t 26)),di 28 20 27]
def V8:List aw:=bK 26 20 (.call F.lT [(.t 25)])::WE
def X1:aM:=ae [bc 14 .lss 13 12] (.seq (cp 14 0) (.seq (.block 1 (ae [m 15 13,aR 16 5 11 13,ca 17 5 16,o 6 (.alloc 48 [(.string ⟨#[]⟩),(.string ⟨#[]⟩),(.string ⟨#[]⟩),(.string ⟨#[]⟩),(.bool false)]),m 5 15,bA 5 6 17] (ae (aB 18 4 6::av 19 18::m 20 19::cT 21 20 1::cT 22 20 5::lG 23 20 1 21 22::cQ 24 20 23::bK 25 20 (.call F.L' [(.t 24)])::V8) VN))) (.bj [aU 30 .add 13 1,m 13 30])))
abbrev T.Z1:Nat:=48
@[simp] def Tu:aZ:=⟨31,(ae [bH 4 0] (.seq (ae [m 7 0,b2 8 7,aB 9 0 8,aB 10 0 9,av 11 10,bp 12 11,bH 13 0] (.block 0 (.loop X1))) X2)),[.slot 4]⟩
def XW:aM:=ae [m 12 9,m 13 1,m 14 9,m 15 1,m 16 2,m 17 3,aR 18 5 12 13,aB 19 1 18,bA 1 19 16,aR 20 5 14 15,aB 21 2 20,bA 1 21 17] (ae [m 22 9,m 8 22] .ret)
def XX:List aw:=[m 9 11]
@[simp] def Ob:aZ:=⟨23,(ae [hb 8] (ae (m 10 0::aX 11 F.pI 10::XX) XW)),[.slot 8]⟩
def VF:aM:=.draw [m 41 0,b2 42 41,aB 43 5 42,av 44 43,aB 45 0 5,av 46 45,m 47 2,m 48 8,aX 49 F.hy 48,m 50 10,m 51 11,o 52 (.build [(.int .i64 (.ofNat 0)),(.string ⟨#[]⟩),(.int .i64 (.ofNat 0)),(.int .i64 (.ofNat 0)),(.slice none 0 0)] [(0,1,(.t 47)),(1,1,(.t 49)),(2,1,(.t 50)),(3,1,(.t 51))]),aR 53 5 44 46,bA 5 53 52] (some ⟨[0,1,2,3,4,5,6,7,9,10,8,11,12,13],c5 12 2,[(10,3),(10,5)]⟩)
def XY:aM:=.seq (.draw [m 29 0,aB 30 1 5,av 31 30,m 32 2,m 33 8,nK 34 F.fW 1,bm 35 F.gq 33 34,aX 36 F.hy 35,aB 37 2 9,av 38 37,o 39 (.call F.Ob [(.t 31),(.t 32),(.t 36),(.t 38)]),bm 40 F.F6 29 39,m 11 40] (some ⟨[0,1,2,3,4,8,9,5,6,7,10,11,12],c5 10 3,[(7,2),(7,6),(8,2),(8,6),(9,2),(9,6)]⟩)) VF
def XZ:aM:=ae [aB 14 1 5,av 15 14,m 16 2,aR 17 5 15 16,ca 18 5 17,o 9 (.alloc 48 [(.string ⟨#[]⟩),(.string ⟨#[]⟩),(.string ⟨#[]⟩),(.string ⟨#[]⟩),(.bool false)]),bA 5 9 18] (.seq (.draw [m 19 0,aB 20 1 5,av 21 20,m 22 2,aB 23 1 9,av 24 23,m 25 8,aX 26 F.hy 25,o 27 (.call F.Ob [(.t 21),(.t 22),(.t 24),(.t 26)]),bm 28 F.F6 19 27,m 10 28] (some ⟨[0,1,2,3,4,5,6,7,8,9,10],c5 8 3,[(7,2),(7,5)]⟩)) XY)
def X0:List aw:=[m 8 13]
abbrev T.Z0:Nat:=48
@[simp] def Tt:aZ:=⟨54,(ae [ds 5 215 1] (ae (m 12 3::aX 13 F.mU 12::X0) XZ)),[]⟩
def X4:aM:=.seq (ae [m 58 8,aU 59 .lss 58 0] (.cond (.t 59) (.seq (.draw [m 60 0,m 61 0,m 62 7,aB 63 1 5,av 64 63,aB 65 2 5,av 66 65,o 67 (.build [(.int .i64 (.ofNat 0)),(.string ⟨#[]⟩),(.slice none 0 0),(.slice none 0 0),(.slice none 0 0)] [(0,1,(ci 1)),(1,1,(.t 64)),(2,1,(.t 66))]),b2 68 60,aB 69 11 68,bA 1 69 62,b2 70 61,aB 71 6 70,bA 5 71 67] (some ⟨[0,1,2,3,4,5,6,7,8,9,10,11,12,13],c5 11 3,[(10,4),(10,6)]⟩)) .ret) .skip)) (.draw [m 72 0,ca 73 2 3,m 74 8,aB 75 2 5,av 76 75,m 77 8,aR 78 1 76 77,av 79 78,aX 80 F.L' 79,o 81 (.call F.Tt [(.t 72),(.t 73),(.t 74),(.t 80)])] (some ⟨[0,1,2,3,4,5,6,7,8,9],c5 9 1,[(8,1)]⟩))
def X7:List aw:=[m 8 57]
def Ut:aM:=ae (m 54 0::aB 55 2 5::av 56 55::bm 57 F.Tu 54 56::X7) X4
def X5:aM:=.cond (.t 53) .ret .skip
def V9:List aw:=[bK 52 45 (.bin .geq .bE (.t 51) (ci 0)),di 53 45 52]
def X6:aM:=.seq (ae (m 40 0::b2 41 40::aB 42 11 41::av 43 42::ig 44 .neq 43::m 45 44::cT 46 45 7::cT 47 45 0::bK 48 45 (.nilCheck (.t 47))::ec 49 45 11 48::cQ 50 45 49::bK 51 45 (.call F.gJ [(.t 46),(.t 50)])::V9) X5) Ut
def X8:List aw:=[m 7 39]
def WI:aM:=ae (aB 37 1 5::av 38 37::aX 39 F.L' 38::X8) X6
def WG:aM:=.seq (ae [aB 34 0 5,av 35 34,aU 36 .neq 35 1] (.cond (.t 36) .ret .skip)) WI
def X3:aM:=.seq (.draw [m 24 0,b2 25 24,aB 26 5 25,av 27 26,aB 28 0 3,av 29 28,aB 30 3 5,av 31 30,aR 32 5 27 29,aB 33 4 32,bA 1 33 31] (some ⟨[0,1,2,3,4,5,6,7,8,9,10],c5 8 3,[]⟩)) WG
def WH:aM:=.seq (ae [m 22 6,eQ 23 22] (.cond (.t 23) .ret .skip)) X3
abbrev T.Z2:Nat:=35
@[simp] def Tz:aZ:=⟨82,(ae [ds 3 215 1] (.seq (.draw [aB 10 1 3,av 11 10,m 12 0,b2 13 12,aB 14 0 13,aB 15 1 14,av 16 15,o 17 (.build [(.slice none 0 0),(.slice none 0 0)] [(0,1,(.t 11)),(1,1,(.t 16))]),aX 18 F.nN 17,m 9 18,a6 19 9 0,a6 20 9 1,a6 21 9 2,o 5 (.alloc 35 [(.int .i64 (.ofNat 0)),(.string ⟨#[]⟩),(.slice none 0 0),(.slice none 0 0),(.slice none 0 0)]),m 4 19,bA 5 5 20,m 6 21] (some ⟨[0,1,2,3,4,5,6,7,13,8,9,10,11,12,14,15,16],c5 14 3,[(8,1),(8,6),(8,9)]⟩)) WH)),[]⟩
def Ya:aM:=.seq (.draw [m 30 0,b2 31 30,aB 32 5 31,av 33 32,bp 34 33,m 35 0,b2 36 35,aB 37 3 36,av 38 37,bc 39 .leq 34 38,m 2 39] (some ⟨[0,1,2,3,4,5,6,7,8,9,10],c5 9 2,[]⟩)) .ret
def Yc:List aw:=[bm 29 F.Tz 26 28]
def WJ:aM:=.bj (m 26 0::m 27 0::aX 28 F.Uu 27::Yc)
def X':aM:=.seq (ae [m 10 0,b2 11 10,aB 12 4 11,av 13 12,bp 14 13,aU 15 .gtr 14 0] (cp 15 0)) (.block 1 (.seq (.seq (.draw [m 16 0,b2 17 16,aB 18 5 17,av 19 18,bp 20 19,m 21 0,b2 22 21,aB 23 3 22,av 24 23,bc 25 .gtr 20 24] (some ⟨[0,1,2,3,4,5,6,7,8,9],c5 9 1,[]⟩)) (.cond (.t 25) (ae [bM 2] .ret) .skip)) WJ))
def Yb:aM:=.seq (.block 0 (.loop X')) Ya
@[simp] def Vv:aZ:=⟨40,(ae [bM 2] (ae [m 3 0,m 4 0,b2 5 4,aB 6 0 5,aB 7 0 6,av 8 7,bm 9 F.F6 3 8] Yb)),[.slot 2]⟩
def WK:aM:=.seq (.draw [m 29 9,b2 30 29,aB 31 6 30,ca 32 5 31,m 33 9,b2 34 33,aB 35 5 34,av 36 35,m 37 10,bA 5 6 32,m 7 36,m 8 37] (some ⟨[0,1,2,3,4,5,6,7,8,9,10,11],c5 10 2,[(9,7)]⟩)) .ret
def V0:aM:=ae (m 27 9::aX 28 F.Vv 27::[m 10 28]) WK
def Yd:aM:=.cond (.t 17) (.bj [m 18 9,m 19 9,b2 20 19,aB 21 3 20,av 22 21,m 23 2,o 24 (.min2 (.t 22) (.t 23)),b2 25 18,aB 26 3 25,bA 1 26 24]) .skip
abbrev T.YW:Nat:=25
abbrev T.Wa:Nat:=35
abbrev T.Z4:Nat:=144
@[simp] def Vw:aZ:=⟨38,(ae [ds 3 25 0,o 6 (.alloc 35 [(.int .i64 (.ofNat 0)),(.string ⟨#[]⟩),(.slice none 0 0),(.slice none 0 0),(.slice none 0 0)]),hb 7,bM 8] (ae [ca 11 2 3,m 12 1,o 13 (.build [(.int .i64 (.ofNat 0)),(.string ⟨#[]⟩),(.slice none 0 0),(.slice none 0 0),(.slice none 0 0)] [(0,1,(ci 2))]),o 14 (.build [(.slice none 0 0),(.slice none 0 0),(.bool false),(.int .i64 (.ofNat 0)),(.slice none 0 0),(.slice none 0 0),(.int .i64 (.ofNat 0)),(.string ⟨#[]⟩),(.slice none 0 0),(.slice none 0 0),(.slice none 0 0),(.pointer none)] [(0,2,(.t 11)),(2,1,(.t 12)),(3,1,(ci 300)),(6,5,(.t 13))]),ds 15 144 14,m 9 15] (.seq (ae [m 16 2,aU 17 .gtr 16 0] Yd) V0))),[.cell 6 true 5,.slot 7,.slot 8]⟩
def XN:aM:=ae [ca 76 5 13,m 77 14,bA 5 6 76,m 7 77,bH 8 0] .ret
def XR:aM:=.cond (.t 58) (ae [o 61 (.build [(.int .i64 (.ofNat 0)),(.string ⟨#[]⟩),(.slice none 0 0),(.slice none 0 0),(.slice none 0 0)] [(0,1,(ci 4))]),bA 5 6 61,hb 7,bH 8 0] .ret) (ae [aB 63 0 9,av 64 63,aU 65 .eql 64 3,m 66 65,ec 67 66 0 13,cQ 68 66 67,bK 69 66 (.bin .eql .bE (.t 68) (ci 1)),di 70 66 69,m 62 70] (.cond (.t 62) (ae [aB 71 2 13,av 72 71,aB 73 4 9,av 74 73,o 75 (.build [(.int .i64 (.ofNat 0)),(.string ⟨#[]⟩),(.slice none 0 0),(.slice none 0 0),(.slice none 0 0)] [(0,1,(ci 3)),(2,1,(.t 72)),(4,1,(.t 74))]),bA 5 6 75,hb 7,bH 8 0] .ret) .skip))
def XS:aM:=.seq (.block 2 (ae [m 59 15,eQ 60 59,m 58 60] XR)) XN
def XV:List aw:=[m 50 54,a6 55 50 0,a6 56 50 1,a6 57 50 2,o 13 (.alloc 35 [(.int .i64 (.ofNat 0)),(.string ⟨#[]⟩),(.slice none 0 0),(.slice none 0 0),(.slice none 0 0)]),bA 5 13 55,m 14 56,m 15 57]
def XT:aM:=ae (ca 51 2 11::m 52 1::m 53 2::iQ 54 F.Vw 51 52 53::XV) XS
def XM:aM:=ae [bc 39 .lss 38 37] (.seq (cp 39 0) (.seq (.block 1 (ae [m 40 38,m 12 40] (ae [aB 41 0 9,av 42 41,aU 43 .eql 42 3] (.cond (.t 43) (.bj [aB 44 0 11,av 45 44,m 46 12,aR 47 5 45 46,aB 48 3 47,⟨none,none,.store 1 (.t 48) (.c (.string ⟨#[48]⟩))⟩]) .skip)))) (.bj [aU 49 .add 38 1,m 38 49])))
def V7:aM:=.seq (ae [aB 35 0 11,av 36 35,bp 37 36,bH 38 0] (.block 0 (.loop XM))) XT
def XO:aM:=.seq (.draw [aB 29 0 3,av 30 29,aX 31 F.pI 30,aB 32 1 3,av 33 32,o 34 (.build [(.slice none 0 0),(.slice none 0 0)] [(0,1,(.t 31)),(1,1,(.t 33))]),o 11 (.alloc 25 [(.slice none 0 0),(.slice none 0 0)]),bA 2 11 34] (some ⟨[0,1,3,4,6,2,5,7],c5 7 1,[(4,1),(4,3),(5,3),(4,5)]⟩)) V7
def WB:aM:=ae (ca 25 2 3::aX 26 F.nr 25::[m 24 26,a6 27 24 0,a6 28 24 1,o 9 (.alloc 35 [(.int .i64 (.ofNat 0)),(.string ⟨#[]⟩),(.slice none 0 0),(.slice none 0 0),(.slice none 0 0)]),bA 5 9 27,m 10 28]) XO
def XP:aM:=.cond (.t 22) (ae [o 23 (.build [(.int .i64 (.ofNat 0)),(.string ⟨#[]⟩),(.slice none 0 0),(.slice none 0 0),(.slice none 0 0)] []),bA 5 6 23,hb 7,bH 8 10] .ret) .skip
def WC:aM:=.seq (ae [aB 20 0 3,av 21 20,o 22 (.call F.oA [(.t 21),(.c (.func (.func 56) #[] #[]))])] XP) WB
def XQ:aM:=.cond (.t 18) (ae [o 19 (.build [(.int .i64 (.ofNat 0)),(.string ⟨#[]⟩),(.slice none 0 0),(.slice none 0 0),(.slice none 0 0)] []),bA 5 6 19,hb 7,bH 8 1] .ret) .skip
def XU:List aw:=[eQ 18 17]
abbrev T.YV:Nat:=25
abbrev T.S0:Nat:=35
abbrev T.XK:Nat:=35
abbrev T.WA:Nat:=25
abbrev T.XL:Nat:=35
@[simp] def SA:aZ:=⟨78,(ae [ds 3 25 0,o 6 (.alloc 35 [(.int .i64 (.ofNat 0)),(.string ⟨#[]⟩),(.slice none 0 0),(.slice none 0 0),(.slice none 0 0)]),hb 7,bH 8 0] (.seq (ae (ca 16 2 3::aX 17 F.i' 16::XU) XQ) WC)),[.cell 6 true 5,.slot 7,.slot 8]⟩
abbrev T.XJ:Nat:=48
@[simp] def SB:aZ:=⟨15,(ae [ds 1 48 0,bM 2] (ae [aB 3 4 1,av 4 3,m 5 4,ec 6 5 1 1,cQ 7 5 6,bK 8 5 (.bin .eql .bE (.t 7) (.c (.string ⟨#[]⟩))),cT 9 5 8,eb 10 9 2 1,dB 11 9 10,bS 12 9 (.bin .eql .bE (.t 11) (.c (.string ⟨#[]⟩))),bK 13 5 (.pick (.t 9) (.c (.bool true)) (.t 12)),di 14 5 13,m 2 14] .ret)),[.slot 2]⟩
def Wx:aM:=ae [m 27 0,m 28 0,bp 29 28,m 30 7,o 31 (.iA 2 (.t 27) (some (.t 29)) (some (.t 30)) none),⟨none,none,.tU [(.int .i64 (.ofNat 0)),(.slice none 0 0)] (.t 31)⟩] (ae [m 32 0,m 6 32] .ret)
@[simp] def Dh:aZ:=⟨33,(ae [hb 6] (ae [m 8 0,m 9 1,m 10 2,m 11 0,bp 12 11,o 13 (.iA 2 (.t 8) (some (.t 9)) (some (.t 10)) (some (.t 12)))] (.seq (ae [m 14 1,m 15 2,bc 16 .eql 14 15] (.cond (.t 16) (ae [m 17 0,m 6 17] .ret) .skip)) (ae [m 18 0,bp 19 18,m 7 19] (.seq (.draw [m 20 0,m 21 1,o 22 (.iA 2 (.t 20) none (some (.t 21)) none),m 23 0,m 24 2,o 25 (.iA 2 (.t 23) (some (.t 24)) none none),ju 26 2 32 22 25,m 0 26] (some ⟨[0,1,2,3,4,5,6,7],c5 6 2,[]⟩)) Wx))))),[.slot 6]⟩
def Bc:aM:=ae [ca 138 2 3,bA 2 2 138] .ret
def Be:aM:=.draw [aB 101 0 3,av 102 101,m 103 6,aB 104 0 3,av 105 104,m 106 6,aB 107 0 3,av 108 107,m 109 6,aB 110 0 3,av 111 110,m 112 6,aR 113 5 111 112,aB 114 1 113,av 115 114,o 116 (.call F.gI [(.t 115),(ci 20)]),aB 117 0 3,av 118 117,m 119 6,aR 120 5 118 119,aB 121 2 120,av 122 121,o 123 (.call F.gI [(.t 122),(ci 20)]),aB 124 0 3,av 125 124,m 126 6,aR 127 5 125 126,aB 128 3 127,av 129 128,o 130 (.call F.gI [(.t 129),(ci 20)]),aR 131 5 102 103,aB 132 1 131,bA 1 132 116,aR 133 5 105 106,aB 134 2 133,bA 1 134 123,aR 135 5 108 109,aB 136 3 135,bA 1 136 130] (some ⟨[0,1,2,3,4,5,6,7,8,9,10,11,12,13,14,16,17,18,19,20,21,23,24,25,26,27,28,15,22,29,30,31,32,33,34,35,36,37,38],c5 36 3,[(27,1),(27,4),(27,7),(27,16),(27,20),(27,22),(27,26),(28,1),(28,4),(28,7),(28,22),(28,26),(29,1),(29,4),(29,7),(32,4),(32,7),(35,7)]⟩)
def Bb:aM:=ae [bc 99 .lss 98 97] (.seq (cp 99 4) (.seq (.block 5 (ae [m 100 98,m 6 100] Be)) (.bj [aU 137 .add 98 1,m 98 137])))
def Bf:aM:=.seq (ae [aB 95 0 3,av 96 95,bp 97 96,bH 98 0] (.block 4 (.loop Bb))) Bc
def A':aM:=ae [bc 71 .lss 70 69] (.seq (cp 71 2) (.seq (.block 3 (ae [m 72 70,m 5 72] (.draw [aB 73 1 3,av 74 73,m 75 4,aR 76 5 74 75,aB 77 2 76,av 78 77,m 79 5,aB 80 1 3,av 81 80,m 82 4,aR 83 5 81 82,aB 84 2 83,av 85 84,m 86 5,aR 87 2 85 86,aB 88 1 87,av 89 88,o 90 (.call F.gI [(.t 89),(ci 20)]),aR 91 2 78 79,aB 92 1 91,bA 1 92 90] (some ⟨[0,1,2,3,4,5,6,7,8,9,10,11,12,13,14,15,16,17,18,19,20],c5 18 3,[(17,1),(17,5)]⟩)))) (.bj [aU 93 .add 70 1,m 70 93])))
def ux:aM:=ae [aB 63 1 3,av 64 63,m 65 4,aR 66 5 64 65,aB 67 2 66,av 68 67,bp 69 68,bH 70 0] (.block 2 (.loop A'))
def xq:aM:=.seq (.draw [aB 51 1 3,av 52 51,m 53 4,aB 54 1 3,av 55 54,m 56 4,aR 57 5 55 56,aB 58 3 57,av 59 58,o 60 (.call F.gI [(.t 59),(ci 30)]),aR 61 5 52 53,aB 62 3 61,bA 1 62 60] (some ⟨[0,1,2,3,4,5,6,7,8,9,10,11,12],c5 10 3,[(9,1)]⟩)) ux
def Bd:aM:=.seq (.draw [aB 30 1 3,av 31 30,m 32 4,aB 33 1 3,av 34 33,m 35 4,aR 36 5 34 35,aB 37 2 36,av 38 37,aB 39 1 3,av 40 39,m 41 4,aR 42 5 40 41,aB 43 2 42,av 44 43,bp 45 44,o 46 (.min2 (.t 45) (ci 8)),o 47 (.iA 2 (.t 38) none (some (.t 46)) none),o 48 (.append 2 24 (.c (.slice none 0 0)) (.t 47)),aR 49 5 31 32,aB 50 2 49,bA 1 50 48] (some ⟨[0,1,2,3,4,5,6,7,8,9,10,11,12,13,14,15,16,17,18,19,20,21],c5 19 3,[(18,1)]⟩)) xq
def Ba:aM:=ae [bc 28 .lss 27 26] (.seq (cp 28 0) (.seq (.block 1 (ae [m 29 27,m 4 29] Bd)) (.bj [aU 94 .add 27 1,m 27 94])))
def xr:aM:=.seq (ae [aB 24 1 3,av 25 24,bp 26 25,bH 27 0] (.block 0 (.loop Ba))) Bf
abbrev T.PZ:Nat:=25
abbrev T.P0:Nat:=25
abbrev T.P1:Nat:=25
@[simp] def mG:aZ:=⟨139,(ae [ds 1 25 0,o 2 (.alloc 25 [(.slice none 0 0),(.slice none 0 0)])] (.seq (.draw [aB 7 0 1,av 8 7,aB 9 0 1,av 10 9,bp 11 10,o 12 (.min2 (.t 11) (ci 6)),o 13 (.iA 5 (.t 8) none (some (.t 12)) none),o 14 (.append 5 72 (.c (.slice none 0 0)) (.t 13)),aB 15 1 1,av 16 15,aB 17 1 1,av 18 17,bp 19 18,o 20 (.min2 (.t 19) (ci 6)),o 21 (.iA 5 (.t 16) none (some (.t 20)) none),o 22 (.append 5 80 (.c (.slice none 0 0)) (.t 21)),o 23 (.build [(.slice none 0 0),(.slice none 0 0)] [(0,1,(.t 14)),(1,1,(.t 22))]),o 3 (.alloc 25 [(.slice none 0 0),(.slice none 0 0)]),bA 2 3 23] (some ⟨[0,1,2,3,4,5,6,7,8,9,10,11,12,13,14,15,16,17,18],c5 18 1,[(7,9),(7,11),(7,12),(7,14),(17,1),(17,3),(17,4),(17,6),(17,7),(17,9),(17,11),(17,12),(17,14),(17,15)]⟩)) xr)),[.cell 2 true 2]⟩
def Xi:List aw:=[o 24 (.buildSlice [(.string ⟨#[]⟩)] 1 1 [(0,1,(.t 23))]),ju 25 1 16 18 24,m 5 25]
def Xh:aM:=.seq (ae [m 7 6,m 8 0,bp 9 8,bc 10 .lss 7 9,m 11 10,cT 12 11 6,cT 13 11 1,h' 14 11 .lss 12 13,di 15 11 14] (cp 15 0)) (.seq (.block 1 (.bj (m 18 5::m 19 0::m 20 6::aR 21 1 19 20::av 22 21::o 23 (.call F.gI [(.t 22),(ci 20)])::Xi))) (.bj [m 16 6,aU 17 .add 16 1,m 6 17]))
@[simp] def Bs:aZ:=⟨27,(ae [hb 4] (ae [hb 5] (.seq (ae [bH 6 0] (.block 0 (.loop Xh))) (ae [m 26 5,m 4 26] .ret)))),[.slot 4]⟩
def CM:aM:=ae [ca 31 2 3,bA 2 2 31] .ret
def CN:aM:=.draw [aB 18 1 3,av 19 18,m 20 4,aB 21 1 3,av 22 21,m 23 4,aR 24 5 22 23,aB 25 2 24,av 26 25,o 27 (.append 2 24 (.c (.slice none 0 0)) (.t 26)),aR 28 5 19 20,aB 29 2 28,bA 1 29 27] (some ⟨[0,1,2,3,4,5,6,7,8,9,10,11,12],c5 10 3,[(9,1)]⟩)
def CL:aM:=ae [bc 16 .lss 15 14] (.seq (cp 16 0) (.seq (.block 1 (ae [m 17 15,m 4 17] CN)) (.bj [aU 30 .add 15 1,m 15 30])))
def yh:aM:=.seq (ae [aB 12 1 3,av 13 12,bp 14 13,bH 15 0] (.block 0 (.loop CL))) CM
abbrev T.R6:Nat:=25
@[simp] def km:aZ:=⟨32,(ae [ds 1 25 0,o 2 (.alloc 25 [(.slice none 0 0),(.slice none 0 0)])] (.seq (.draw [aB 5 0 1,av 6 5,o 7 (.append 5 72 (.c (.slice none 0 0)) (.t 6)),aB 8 1 1,av 9 8,o 10 (.append 5 80 (.c (.slice none 0 0)) (.t 9)),o 11 (.build [(.slice none 0 0),(.slice none 0 0)] [(0,1,(.t 7)),(1,1,(.t 10))]),o 3 (.alloc 25 [(.slice none 0 0),(.slice none 0 0)]),bA 2 3 11] (some ⟨[0,1,2,3,4,5,6,7,8],c5 8 1,[(2,4),(7,1),(7,2),(7,4),(7,5)]⟩)) yh)),[.cell 2 true 2]⟩
def Ad:List aw:=[bA 2 2 10]
abbrev T.ua:Nat:=25
@[simp] def mA:aZ:=⟨11,(ae [o 2 (.alloc 25 [(.slice none 0 0),(.slice none 0 0)])] (.seq (ae [m 3 0,ig 4 .eql 3] (.cond (.t 4) (ae [o 5 (.build [(.slice none 0 0),(.slice none 0 0)] []),bA 2 2 5] .ret) .skip)) (ae (m 6 0::b2 7 6::aB 8 0 7::ca 9 2 8::aX 10 F.jS 9::Ad) .ret))),[.cell 2 true 2]⟩
def CQ:aM:=ae [fU 4] .ret
def CP:aM:=.seq (ae [m 41 6,aB 42 1 2,av 43 42,bp 44 43,bc 45 .lss 41 44] (cp 45 2)) (.seq (.block 3 (.seq (.draw [aB 48 1 2,av 49 48,m 50 6,aR 51 5 49 50,ca 52 5 51,aB 53 1 3,av 54 53,m 55 6,aR 56 5 54 55,ca 57 5 56,bm 58 F.nR 52 57,eQ 59 58] (some ⟨[0,1,2,3,4,5,6,7,8,9,10,11],c5 10 2,[]⟩)) (.cond (.t 59) (ae [bM 4] .ret) .skip))) (.bj [m 46 6,aU 47 .add 46 1,m 6 47]))
def CR:aM:=.seq (ae [bH 6 0] (.block 2 (.loop CP))) CQ
def CO:aM:=.seq (ae [m 23 5,aB 24 0 2,av 25 24,bp 26 25,bc 27 .lss 23 26] (cp 27 0)) (.seq (.block 1 (.seq (.draw [aB 30 0 2,av 31 30,m 32 5,aR 33 5 31 32,ca 34 5 33,aB 35 0 3,av 36 35,m 37 5,aR 38 5 36 37,ca 39 5 38,o 40 (.bin .neq (.cells [.s,.s,.s,.s,.b]) (.t 34) (.t 39))] (some ⟨[0,1,2,3,4,5,6,7,8,9,10],c5 10 1,[]⟩)) (.cond (.t 40) (ae [bM 4] .ret) .skip))) (.bj [m 28 5,aU 29 .add 28 1,m 5 29]))
abbrev T.Ki:Nat:=25
abbrev T.Kj:Nat:=25
@[simp] def ng:aZ:=⟨60,(ae [ds 2 25 0,ds 3 25 1,bM 4] (.seq (ae [aB 7 0 2,av 8 7,bp 9 8,aB 10 0 3,av 11 10,bp 12 11,bc 13 .neq 9 12,m 14 13,eb 15 14 1 2,dB 16 14 15,bS 17 14 (.len .l (.t 16)),eb 18 14 1 3,dB 19 14 18,bS 20 14 (.len .l (.t 19)),lF 21 14 .neq 17 20,dV 22 14 21] (.cond (.t 22) (ae [bM 4] .ret) .skip)) (.seq (ae [bH 5 0] (.block 0 (.loop CO))) CR))),[.slot 4]⟩
def Az:List aw:=[di 37 31 36,m 4 37]
abbrev T.Hm:Nat:=64
abbrev T.Hn:Nat:=64
@[simp] def nR:aZ:=⟨38,(ae [ds 2 64 0,ds 3 64 1,bM 4] (ae (aB 5 0 2::av 6 5::aB 7 0 3::av 8 7::bc 9 .eql 6 8::m 10 9::ec 11 10 1 2::cQ 12 10 11::ec 13 10 1 3::cQ 14 10 13::h' 15 10 .eql 12 14::di 16 10 15::m 17 16::ec 18 17 3 2::cQ 19 17 18::ec 20 17 3 3::cQ 21 17 20::h' 22 17 .eql 19 21::di 23 17 22::m 24 23::ec 25 24 4 2::cQ 26 24 25::ec 27 24 4 3::cQ 28 24 27::h' 29 24 .eql 26 28::di 30 24 29::m 31 30::ec 32 31 2 2::cQ 33 31 32::ec 34 31 2 3::cQ 35 31 34::bK 36 31 (.call F.nQ [(.t 33),(.t 35)])::Az) .ret)),[.slot 4]⟩
def Ay:aM:=.seq (ae [m 11 5,m 12 0,bp 13 12,bc 14 .lss 11 13] (cp 14 0)) (.seq (.block 1 (.seq (.draw [m 17 0,m 18 5,aR 19 2 17 18,ca 20 2 19,m 21 1,m 22 5,aR 23 2 21 22,ca 24 2 23,o 25 (.bin .neq (.cells [.i,.s]) (.t 20) (.t 24))] (some ⟨[0,1,2,3,4,5,6,7,8],c5 8 1,[]⟩)) (.cond (.t 25) (ae [bM 4] .ret) .skip))) (.bj [m 15 5,aU 16 .add 15 1,m 5 16]))
@[simp] def nQ:aZ:=⟨26,(ae [bM 4] (.seq (ae [m 6 0,bp 7 6,m 8 1,bp 9 8,bc 10 .neq 7 9] (.cond (.t 10) (ae [bM 4] .ret) .skip)) (.seq (ae [bH 5 0] (.block 0 (.loop Ay))) (ae [fU 4] .ret)))),[.slot 4]⟩
def W9:List aw:=[m 6 104]
def Bi:aM:=ae (ca 102 2 3::ca 103 2 8::bm 104 F.ng 102 103::W9) .ret
def Wi:aM:=.cond (.t 101) (ae [bM 6] .ret) .skip
def VS:List aw:=[bS 88 85 (.field false 0 1 (.t 87)),bS 89 85 (.iW 5 (.t 88) (ci 0)),eb 90 85 3 89,dB 91 85 90,bS 92 85 (.bin .eql .bE (.t 91) (.c (.string ⟨#[49,50,51,52,53]⟩))),dV 93 85 92,m 94 93,ec 95 94 0 8,cQ 96 94 95,bK 97 94 (.iW 5 (.t 96) (ci 0)),ec 98 94 3 97,cQ 99 94 98,bK 100 94 (.bin .neq .bE (.t 99) (.c (.string ⟨#[49,50,51,52,53]⟩))),di 101 94 100]
def W7:aM:=ae (aB 79 0 13::av 80 79::o 81 (.iW 5 (.t 80) (ci 0))::aB 82 3 81::av 83 82::o 84 (.bin .eql .bE (.t 83) (.c (.string ⟨#[49,50,51,52,53]⟩)))::m 85 84::dm 86 85 9::bS 87 85 (.call F.mA [(.t 86)])::VS) Wi
def W8:aM:=ae [aB 75 0 12,av 76 75,o 77 (.iW 5 (.t 76) (ci 0)),aB 78 3 77,⟨none,none,.store 1 (.t 78) (.c (.string ⟨#[49,50,51,52,53]⟩))⟩] W7
def Wk:aM:=.seq (ae [aB 59 0 12,av 60 59,bp 61 60,aB 62 0 3,av 63 62,bp 64 63,bc 65 .neq 61 64,m 66 65,eb 67 66 0 13,dB 68 66 67,bS 69 66 (.len .l (.t 68)),eb 70 66 0 3,dB 71 66 70,bS 72 66 (.len .l (.t 71)),lF 73 66 .neq 69 72,dV 74 66 73] (.cond (.t 74) (ae [bM 6] .ret) .skip)) W8
def Xf:List aw:=[o 12 (.alloc 25 [(.slice none 0 0),(.slice none 0 0)]),o 13 (.alloc 25 [(.slice none 0 0),(.slice none 0 0)]),bA 2 12 56,bA 2 13 58]
def Xg:List aw:=m 57 9::aX 58 F.mA 57::Xf
def V1:aM:=ae (m 55 9::aX 56 F.mA 55::Xg) Wk
def Wh:aM:=.cond (.t 52) (ae [m 53 9,o 54 (.call F.nL [(.t 53),(ci 0),(.c (.string ⟨#[48]⟩)),(.c (.string ⟨#[49]⟩))])] V1) .skip
def WX:aM:=.seq (ae [m 46 11,m 47 46,ec 48 47 0 3,cQ 49 47 48,bK 50 47 (.len .l (.t 49)),bK 51 47 (.bin .gtr .bE (.t 50) (ci 0)),di 52 47 51] Wh) Bi
def W':List aw:=[m 40 42,a6 43 40 0,a6 44 40 1,a6 45 40 2,o 10 (.alloc 35 [(.int .i64 (.ofNat 0)),(.string ⟨#[]⟩),(.slice none 0 0),(.slice none 0 0),(.slice none 0 0)]),m 9 43,bA 5 10 44,m 11 45]
def WY:aM:=ae (ca 41 2 3::aX 42 F.nN 41::W') WX
def WZ:aM:=ae [ca 38 2 3,o 39 (.call F.SA [(.t 38),(.c (.bool true)),(ci 20)])] WY
def W0:aM:=ae [ca 36 2 3,aX 37 F.nr 36] WZ
def W1:aM:=ae [ca 33 2 3,m 34 1,bm 35 F.qE 33 34] W0
def W2:aM:=ae [ca 30 2 3,m 31 2,o 32 (.call F.pv [(.t 30),(.t 31),(.c (.bool true))])] W1
def W3:aM:=ae [ca 27 2 3,m 28 1,bm 29 F.pw 27 28] W2
def Wj:aM:=ae [ca 25 2 3,aX 26 F.i' 25] W3
def Xa:List aw:=[m 1 22,m 2 24]
def Xb:List aw:=m 23 2::o 24 (.call F.Bs [(.t 23),(ci 6)])::Xa
def W4:aM:=ae (m 21 1::o 22 (.call F.Bs [(.t 21),(ci 6)])::Xb) Wj
def Xc:List aw:=[o 8 (.alloc 25 [(.slice none 0 0),(.slice none 0 0)]),bA 2 8 20]
def W5:aM:=ae (ca 19 2 3::aX 20 F.km 19::Xc) W4
def Xd:List aw:=[bA 2 3 18]
def W6:aM:=.seq (ae [m 15 7,eQ 16 15] (.cond (.t 16) (ae [bM 6] .ret) .skip)) (ae (ca 17 2 3::aX 18 F.mG 17::Xd) W5)
def Xe:List aw:=[m 7 14]
abbrev T.Zy:Nat:=25
abbrev T.WW:Nat:=25
abbrev T.Wf:Nat:=35
abbrev T.Wg:Nat:=25
abbrev T.VR:Nat:=25
@[simp] def Vz:aZ:=⟨105,(ae [ds 3 25 0,bM 6] (ae (o 14 (.call F.BD [])::Xe) W6)),[.slot 6]⟩
attribute [simp] mM sa r' n8 mI j7 kR po uC uD lS lR qJ sv kX hO mR B9 kd so xT B6 uM sn Cc VJ VV XE Xr Wp Xn V2 Xo VB Bt Wn Xp VT Xs Xq Wo Xt Xu sS C8 Wv Wu VU yO Wq Xx Wr Xy xR Ca Cb B7 B8 XD Bu XB Ws XC ta EA vJ Ev vH ED Es q0 EE Ew q1 EF Ex Ey EG Ez Et EB vI EH tb EC Eu yY EI yZ EJ EN EY ES EZ EK tc y1 EL EO ET EU EV EW EP EX EM y0 ER vK q2 nw Ei Fq Fp Ed vE Ef Eh vF yV yW Ee Eg Ec Fb Fg E9 vL Fc E' Fe E7 Fa Ff E8 Eb D' Ea nv D9 s' Em Ep En Er qZ Ek vG El Eo Ej yX D1 vD D2 D5 yU D3 D4 D0 Fs E1 E0 D6 D7 D8 Fj Fm Fk Fo Fh Fi Fl E2 q3 E6 E4 E3 E5 DP DQ DL DW DN DX DO DY DZ DG DR DH DS DI DT DJ DU DK DM DV Am An Al rL Ae Af Ag Ao wS Ap Aa z8 z' Ab wP X9 V' WD X2 VN WE V8 X1 XW XX VF XY XZ X0 X4 X7 Ut X5 V9 X6 X8 WI WG X3 WH Ya Yc WJ X' Yb WK V0 Yd XN XR XS XV XT XM V7 XO WB XP WC XQ XU Wx Bc Be Bb Bf A' ux xq Bd Ba xr Xi Xh CM CN CL yh Ad CQ CP CR CO Az Ay W9 Bi Wi VS W7 W8 Wk Xf Xg V1 Wh WX W' WY WZ W0 W1 W2 W3 Wj Xa Xb W4 Xc W5 Xd W6 Xe
section
variable[bq]
def ay:List Nat->Nat
 | []=>0
 | d::a=>d+4294967296*ay a
def dg(al:List Nat)(i:Nat):Nat:=al[i]?.getD 0
def c1(al:List Nat):Prop:=∀d∈al,d<4294967296
def strip:List Nat->List Nat
 | []=>[]
 | d::a=>if strip a=[]/\d=0 then[] else d::strip a
def bU(al:List Nat):List Value:=al.map λ(d:Nat)=>Value.int .u32 (d:Int)
def rq(y:bk)(row:List Value):Prop:=y=.cells row (.n 1)∨y=.ro row
def cE(H:ad)(v:Value)(al:List Nat):Prop:=
 c1 al/\((v=.slice none 0 0/\al=[])∨∃c a d y b,v=.slice (some ⟨c,a,none⟩) al.length d/\H.get c=some y/\rq y b/\(b.drop a).take al.length=bU al/\a+al.length<=b.length/\al.length<=d/\bq.s c)
def LC:bk->Bool:=λ_=>true
end
@[simp] theorem Vg(cs:List Value)(t:TypeId):LC (.cells cs (.t t))=true:=rfl
end Go.Dam.C
namespace Go.Dam.C
open Go Go.Dam
variable[bq]
abbrev zk(x:bk)(l:List Value):Prop:=rowOf x=some l/\LC x=true
def dP(H:ad)(v:Value)(al:List Nat):Prop:=
 (v=.pointer none/\al=[])∨∃b x s,v=.pointer (some ⟨b,0,none⟩)/\H.get b=some x/\zk x [s]/\cE H s al
def Has(X:ar)(f:Nat)(F:aZ):Prop:=X.eS f=none/\X.T f=some F
structure c4(X:ar):Prop where
 ft:Has X F.ft C.ft
 dp:Has X F.dp C.dp
 fu:Has X F.fu C.fu
 cN:Has X F.cN C.cN
 iZ:Has X F.iZ C.iZ
 kQ:Has X F.kQ C.kQ
 kS:Has X F.kS C.kS
 hM:Has X F.hM C.hM
 n7:Has X F.n7 C.n7
 j5:Has X F.j5 C.j5
 kT:Has X F.kT C.kT
 kU:Has X F.kU C.kU
 j6:Has X F.j6 C.j6
 mL:Has X F.mL C.mL
 oa:Has X F.oa C.oa
 j4:Has X F.j4 C.j4
 mK:Has X F.mK C.mK
 n':Has X F.n' C.n'
 n9:Has X F.n9 C.n9
 mJ:Has X F.mJ C.mJ
 lM:Has X F.lM C.lM
 lu:Has X F.lu C.lu
 nI:Has X F.nI C.nI
 nH:Has X F.nH C.nH
 jd:Has X F.jd C.jd
 hh:Has X F.hh C.hh
 mV:Has X F.mV C.mV
 fW:Has X F.fW C.fW
 jB:Has X F.jB C.jB
 hy:Has X F.hy C.hy
 hQ:Has X F.hQ C.hQ
 mW:Has X F.mW C.mW
 gq:Has X F.gq C.gq
 ij:Has X F.ij C.ij
 ik:Has X F.ik C.ik
 fV:Has X F.fV C.fV
 jc:Has X F.jc C.jc
 gJ:Has X F.gJ C.gJ
 dY:Has X F.dY C.dY
 mU:Has X F.mU C.mU
 lT:Has X F.lT C.lT
variable{X:ar}{pm:Perm}{H aa:ad}
end Go.Dam.C
namespace Go.Dam.C
open Go Go.Dam
variable{X:ar}{pm:Perm}{H aa:ad}
theorem Call.has{f:FuncId}{args:List Value}{R:Value->ad->Prop}{F:aZ}(a:Has X f F)(b:Nat.ble args.length F.hN=true)
 (h:wp X pm (.code F.body) (p7 args 0 []) H [] λx l aa=>(x=.normal∨x=.ret)/\∃az,hU l aa F.res=some az/\R (f' az) aa):Call X pm f args H R:=
 Call.func a.1 a.2 (Nat.le_of_ble_eq_true b) h
theorem rq.row{y:bk}{row:List Value}(h:rq y row):rowOf y=some row:=by rcases h with rfl | rfl<;>rfl
theorem rq.iA{y:bk}{row:List Value}(f:rq y row){l h m cap c off:Nat}(a:H.get c=some y)(b:l<=h)(d:h<=m)(e:m<=cap):
 (h7 1 (some ⟨c,off,none⟩) l h m cap).run pm H=some (.slice (some ⟨c,off+l,none⟩) (h-l) (m-l),H):=by
 rcases f with rfl | rfl
 ·have:=Ld (pm:=pm) (bZ:=1) (off:=off) a (.inl rfl) b d e;simpa using this
 ·rw[SR a b d e];simp
section
variable[bq]
theorem cE.take{a:Option Addr}{cap:Nat}{al:List Nat}(h:cE H (.slice a al.length cap) al)(k:Nat)(b:k<=al.length):cE H (.slice a k cap) (al.take k):=by
 obtain⟨a,h⟩:=h;refine⟨λd e=>a d (sH e),?_⟩
 rcases h with⟨bX,rfl⟩ | ⟨c,off,cG,y,row,ez,bX,cv,cF,dw,gZ⟩
 ·cases bX;obtain rfl:k=0:=by simpa using b
  exact .inl ⟨rfl,by simp⟩
 ·cases ez;refine .inr ⟨c,off,cap,y,row,by simp[pB b],bX,cv,?_,by simp;omega,by have:=gZ.1;simp;omega,gZ.2⟩;have:=congrArg (List.take k) cF;rw[List.take_take]at this;simp only[k4];rw[this];simp[bU,List.map_take]
theorem cE.form{v:Value}{al:List Nat}(h:cE H v al):∃a cap,v=.slice a al.length cap:=by
 obtain⟨_,⟨rfl,rfl⟩ | ⟨_,_,cap,_,_,rfl,_⟩⟩:=h
 ·exact⟨_,_,rfl⟩
 ·exact⟨_,_,rfl⟩
theorem cE.nil:cE H (.slice none 0 0) []:=⟨λ_ h=>(by cases h),.inl ⟨rfl,rfl⟩⟩
theorem cE.u{v:Value}{al:List Nat}(h:cE H v al)(a:bR pm H)(b:bh pm H aa):cE aa v al:=by
 refine⟨h.1,h.2.imp id ?_⟩;rintro⟨c,d,e,y,f,g,i,j⟩;exact⟨c,d,e,y,f,g,b.some a i,j⟩
theorem dP.u{v:Value}{al:List Nat}(h:dP H v al)(a:bR pm H)(b:bh pm H aa):dP aa v al:=by
 refine h.imp id ?_;rintro⟨c,x,s,d,e,f,g⟩;exact⟨c,x,s,d,b.some a e,f,g.u a b⟩
end
theorem cE.cell{al:List Nat}{row:List Value}{off i:Nat}(h:(row.drop off).take al.length=bU al)(aJ:i<al.length):row[off+i]? = some (.int .u32 ((al[i]:Nat):Int)):=by
 have:=congrArg (·[i]?) h;simp only[kZ aJ,ki]at this;rw[this];simp[bU,aJ]
theorem c1.get{al:List Nat}(h:c1 al)(i:Nat):al[i]?.getD 0<4294967296:=by
 cases e:al[i]? with
 | none=>simp
 | some d=>exact h d (eB e)
theorem ej{n:Int}  (ez:0<=n:=by omega)(h:n<18446744073709551616:=by omega):wr .u64 n=n:=by
 rw[oI];simp[IntKind.wrap,IntKind.bits,IntKind.signed];omega
theorem b8{n:Int}  (ez:-9223372036854775808<=n:=by omega)(h:n<9223372036854775808:=by omega):wr .i64 n=n:=by
 rw[oI];simp[IntKind.wrap,IntKind.bits,IntKind.signed];split<;>omega
theorem iE{n:Int}:wr .u32 n=n%4294967296:=by
 rw[oI];simp[IntKind.wrap,IntKind.bits,IntKind.signed]
section
variable[bq]
theorem gl(a:Has X F.cN cN){v:Value}{al:List Nat}(c:dP H v al):Call X pm F.cN [v] H λr aa=>aa=H/\cE H r al:=by
 refine Call.has a rfl ?_
 rcases c with⟨rfl,rfl⟩ | ⟨b,x,s,rfl,bX,cv,cF⟩
 ·simp[cE,c1]
 ·simp[bX,cv,cF]
theorem o6(a:Has X F.fu fu){v:Value}{al:List Nat}(b:cE H v al)(i:Nat):
 Call X pm F.fu [v,.int .i64 (i:Int)] H λr aa=>aa=H/\r=.int .u64 ((dg al i:Nat):Int):=by
 refine Call.has a rfl ?_;obtain⟨c,⟨rfl,rfl⟩ | ⟨_,_,_,_,_,rfl,d,e,f,_⟩⟩:=b
 ·simp[dg]
 ·have b:=c.get i;by_cases a:i<al.length
  ·have c:=cE.cell f a;have f:wr .u64 ((al[i]:Nat):Int)=((al[i]:Nat):Int):=ej (h:=by simp[a]at b;omega);simp[a,d,e.row,c,f,dg]
  ·simp[a,dg]
end
theorem Dj{al:List Nat}{k:Nat}(h:∀i,k<=i->al[i]?.getD 0=0):strip al=strip (al.take k):=by
 induction al generalizing k with
 | nil=>simp
 | cons d al ih=>
   cases k with
   | zero=>
     have a:strip al=strip (al.take 0):=ih λi _=>by simpa using h (i+1) (by omega)
     have b:d=0:=by simpa using h 0 (by omega)
     simp[strip,a,b]
   | succ k=>
     have a:strip al=strip (al.take k):=ih λi _=>by simpa using h (i+1) (by omega)
     simp only[List.take_succ_cons,strip,<-a]
theorem S4{al:List Nat}(h:al=[]∨al[al.length-1]?.getD 0≠0):strip al=al:=by
 induction al with
 | nil=>rfl
 | cons _ al ih=>
   cases al with
   | nil=>simp[strip]at h|-;exact h
   | cons _ _=>
     have:=ih (.inr (by simpa using h));simp only[strip]at this|-;simp only[this];simp
section
variable[bq]
def Mw(H:ad)(v:Value)(al:List Nat):Prop:=∃b x s,v=.pointer (some ⟨b,0,none⟩)/\H.get b=some x/\zk x [s]/\cE H s al
theorem BU(m:Has X F.dp dp)(a:bR pm H){v:Value}{al:List Nat}(b:cE H v al)(s:al.length<=1073741824):
 Call X pm F.dp [v] H λr aa=>bh pm H aa/\Mw aa r (strip al):=by
 refine Call.has m rfl ?_;have n:∃e c,v=.slice e al.length c:=by
  obtain⟨_,⟨rfl,rfl⟩ | ⟨_,_,c,_,_,rfl,_⟩⟩:=b
  ·exact⟨_,_,rfl⟩
  ·exact⟨_,_,rfl⟩
 obtain⟨e,c,rfl⟩:=n;simp;refine ef.of (λk:Nat=>[(3,.int .i64 (k:Int)),(0,.slice e al.length c)]) (λk aa=>aa=H/\k<=al.length/\∀i,k<=i->al[i]?.getD 0=0) id al.length (by simp) ⟨rfl,bg _,λi h=>by simp[h]⟩ ?_;rintro k aa ⟨rfl,d,f⟩;by_cases o:0<k
 ·obtain⟨_,⟨_,rfl⟩ | ⟨_,_,_,_,_,p,j,l,q,_⟩⟩:=id b
  ·simp at d;omega
  cases p;have c:wr .i64 ((k:Int)-1)=((k-1:Nat):Int):=by rw[b8];omega
  have e:=cE.cell q (show k-1<al.length by omega);simp[o,c,j,l.row,e,show k-1<al.length by omega];refine⟨λg=>.of (k-1) (by simp;omega) (by simp) ⟨rfl,by omega,λi h=>?_⟩,λg=>?_⟩
  ·by_cases r:i=k-1
   ·subst r;simp[show k-1<al.length by omega,g]
   ·exact f i (by omega)
  ·rw[l.iA j (by omega) (by omega) (by omega)];simp[a.make,a.pick];refine⟨(bh.refl a).new _,⟨_,_,_,rfl,b4,⟨rfl,rfl⟩,?_⟩⟩;have c:strip al=al.take k:=by
    rw[Dj f,S4];right;simp[pB d];rw[kZ (by omega)];simpa [show k-1<al.length by omega]using g
   rw[c];exact(cE.take b k d).u a ((bh.refl a).new _)
 ·obtain rfl:k=0:=by omega
  have c:strip al=[]:=by rw[Dj f];rfl
  rw[c];obtain⟨_,⟨g,rfl⟩ | ⟨_,_,_,_,_,j,l,p,_,_⟩⟩:=id b
  ·cases g;simp[SQ,a.make,a.pick];exact⟨(bh.refl a).new _,⟨_,_,_,rfl,b4,⟨rfl,rfl⟩,.nil⟩⟩
  ·cases j;simp;rw[p.iA l (by omega) (by omega) (by omega)];simp[a.make,a.pick];exact⟨(bh.refl a).new _,⟨_,_,_,rfl,b4,⟨rfl,rfl⟩,(cE.take b 0 d).u a ((bh.refl a).new _)⟩⟩
theorem ka(a:Has X F.dp dp)(b:bR pm H){v:Value}{al:List Nat}(c:cE H v al)(d:al.length<=1073741824):
 Call X pm F.dp [v] H λr aa=>bh pm H aa/\dP aa r (strip al):=(BU a b c d).mono λ_ _ h=>⟨h.1,.inr h.2⟩
def bf(al:List Nat):Nat->Nat
 | 0=>0
 | i+1=>bf al i+dg al i*4294967296^i
end
theorem c1.dg{al:List Nat}(h:c1 al)(i:Nat):dg al i<4294967296:=h.get i
theorem N0(d:Nat)(al:List Nat)(i:Nat):dg (d::al) (i+1)=dg al i:=by simp[dg]
theorem TE(d:Nat)(al:List Nat)(i:Nat):bf (d::al) (i+1)=d+4294967296*bf al i:=by
 induction i with
 | zero=>simp[bf,dg]
 | succ i ih=>
   rw[bf,ih,N0,bf,dH];grind
theorem gw{al:List Nat}{i:Nat} (h:al.length<=i:=by omega):bf al i=ay al:=by
 induction al generalizing i with
 | nil=>
   induction i with
   | zero=>rfl
   | succ i ih=>rw[bf,ih (by simp)];simp[dg,ay]
 | cons _ al ih=>
   cases i with
   | zero=>simp at h
   | succ i=>rw[TE,ih (by simpa using h)];rfl
theorem jI{al:List Nat}(h:c1 al)(i:Nat):bf al i<4294967296^i:=by
 induction i with
 | zero=>simp[bf]
 | succ i ih=>
   have:=h.dg i;rw[bf,dH];have:dg al i*4294967296^i<=4294967295*4294967296^i:=e8 _ (by omega);omega
theorem lO{al:List Nat}(h:c1 al):ay al<4294967296^al.length:=by rw[<-gw (h:=bg _)];exact jI h _
theorem j'(al:List Nat):ay (strip al)=ay al:=by
 induction al with
 | nil=>rfl
 | cons _ al ih=>
   simp only[strip];split
   ·rename_i h;simp[ay,<-ih,h.1,h.2]
   ·simp[ay,ih]
theorem IT{al:List Nat}(h:c1 al):c1 (strip al):=by
 induction al with
 | nil=>exact h
 | cons d al ih=>
   simp only[strip];split
   ·intro d a;cases a
   ·intro e a
    rcases hk.1 a with rfl | a
    ·exact h _ (.head _)
    ·exact ih (λd b=>h d (.tail _ b)) e a
theorem sY(al:List Nat):strip (strip al)=strip al:=by
 induction al with
 | nil=>rfl
 | cons _ al ih=>
   simp only[strip];split
   ·rfl
   ·rename_i h;simp only[strip,ih,aC h]
theorem Di(al:List Nat):(strip al).length<=al.length:=by
 induction al with
 | nil=>simp[strip]
 | cons _ al ih=>simp only[strip];split<;>simp;omega
section
variable[bq]
def cw(al:List Nat)(k:Nat):Nat:=ay (al.drop k)
end
theorem j1(al:List Nat)(k:Nat):cw al k=dg al k+4294967296*cw al (k+1):=by
 unfold cw dg
 induction al generalizing k with
 | nil=>simp[ay]
 | cons _ al ih=>
   cases k with
   | zero=>simp[ay]
   | succ k=>simpa using ih k
theorem pj(al:List Nat):cw al 0=ay al:=rfl
theorem qp{al:List Nat}{k:Nat} (h:al.length<=k:=by omega):cw al k=0:=by simp[cw,List.drop_eq_nil_of_le h,ay]
theorem H2{a b:List Nat}(eA:c1 a)(c:c1 b){k:Nat}(h:cw a k<cw b k):ay a<ay b:=by
 induction k with
 | zero=>exact h
 | succ k ih=>
   refine ih ?_;rw[j1 a k,j1 b k];have:=eA.dg k;have:=c.dg k;omega
section
variable[bq]
structure bV(H:ad)(v:Value)(n:Nat):Prop where
 ex:∃al,dP H v al/\strip al=al/\ay al=n
theorem dP.G{v:Value}{al:List Nat}(h:dP H v al):c1 al:=by
 rcases h with⟨_,rfl⟩ | ⟨b,x,s,_,_,_,h⟩
 ·intro _ a;cases a
 ·exact h.1
theorem bV.u{v:Value}{n:Nat}(h:bV H v n)(a:bR pm H)(b:bh pm H aa):bV aa v n:=⟨h.ex.imp λ_ h=>⟨h.1.u a b,h.2⟩⟩
end
theorem sc{al:List Nat}(h:strip al=al)(ez:al≠[]):4294967296^(al.length-1)<=ay al:=by
 induction al with
 | nil=>exact absurd rfl ez
 | cons d al ih=>
   have a:strip al=al/\¬(strip al=[]/\d=0):=by
    simp only[strip]at h;split at h
    ·cases h
    ·rename_i b;simp only[List.cons.injEq,true_and]at h;exact⟨h,b⟩
   cases al with
   | nil=>
     have:d≠0:=by intro e;exact a.2 ⟨rfl,e⟩
     simp[ay];omega
   | cons _ _=>
     have:=ih a.1 (by simp);simp only[gu,Nat.add_sub_cancel]at this|-;rw[ay,dH];omega
theorem pk{al:List Nat}(h:strip al=al){k:Nat}(b:ay al<4294967296^k):al.length<=k:=by
 by_cases a:al=[]
 ·simp[a]
 ·have:=sc h a;have a:4294967296^(al.length-1)<4294967296^k:=cV this b;have:=(ov (by omega:1<4294967296)).1 a;omega
section
variable[bq]
def Small(n:Nat):Prop:=n<4294967296^134217728
end
theorem Small.len{n:Nat}{al:List Nat}(h:Small n)(a:strip al=al)(b:ay al=n):al.length<=134217728:=by
 unfold Small at h;generalize 134217728=k at h|-;exact pk a (b▸h)
section
variable[bq]
def e1(a b:Nat):Int:=if a<b then -1 else if a=b then 0 else 1
theorem vP(c:c4 X){v w:Value}{a b:List Nat}(eA:dP H v a)(d:dP H w b)(p:a.length<=1073741824)(p:b.length<=1073741824):
 Call X pm F.iZ [v,w] H λr aa=>aa=H/\r=.int .i64 (e1 (ay a) (ay b)):=by
 have e:=eA.G;have f:=d.G;refine Call.has c.iZ rfl ?_;simp;refine aq.of (gl c.cN eA) ?_;rintro _ _ ⟨rfl,g⟩;simp;refine aq.of (gl c.cN d) ?_;rintro _ H ⟨rfl,i⟩;obtain⟨l,m,rfl⟩:=g.form;obtain⟨n,o,rfl⟩:=i.form;simp;refine ef.of (λk:Nat=>[(7,.int .i64 ((k:Int)-1)),(5,.slice l a.length m),(6,.slice n b.length o)]) (λk aa=>aa=H/\k<=max a.length b.length/\cw a k=cw b k) id (max a.length b.length) ?_ ⟨rfl,bg _,by rw[qp,qp]⟩ ?_
 ·simp;have:wr .i64 ((if a.length<b.length then(b.length:Int) else a.length)-1)=((max a.length b.length:Nat):Int)-1:=by
   rw[b8 (ez:=by split<;>omega) (h:=by split<;>omega)];split<;>omega
  rw[this]
 rintro k aa ⟨rfl,_,j⟩
 cases k with
 | zero=>
   simp;rw[pj,pj]at j;simp[e1,j]
 | succ k=>
   simp;refine aq.of (o6 c.fu g k) ?_;rintro _ _ ⟨rfl,rfl⟩;simp;refine aq.of (o6 c.fu i k) ?_;rintro _ _ ⟨rfl,rfl⟩;simp;have c:=j1 a k;have c:=j1 b k;refine⟨λ_=>⟨λ_=>?_,λ_=>?_⟩,λ_=>.of k (by simp) (by simp;rw[b8]) ⟨rfl,by omega,by omega⟩⟩
   ·have:=H2 e f (k:=k) (by omega);simp[e1,this]
   ·have:=H2 f e (k:=k) (by omega);have c:¬ay a<ay b:=by omega
    have d:¬ay a=ay b:=by omega
    simp[e1,c,d]
end
theorem s6(n:Nat):times [.int .u32 0] n=bU (List.replicate n 0):=by
 induction n with
 | zero=>rfl
 | succ n ih=>simp only[times,ih,List.replicate_succ];rfl
@[simp] theorem np(al:List Nat):(bU al).length=al.length:=by simp[bU]
theorem nq(al:List Nat)(i d:Nat):(bU al).set i (.int .u32 (d:Int))=bU (al.set i d):=by simp[bU,List.map_set]
theorem LF{al:List Nat}{i:Nat}(h:i<al.length):(bU al)[i]? = some (.int .u32 ((dg al i:Nat):Int)):=by simp[bU,dg,h]
section
variable[bq]
theorem pa{c:Nat}{al:List Nat}{n:Nat}(h:H.get c=some (.cells (bU al) (.n 1)))(g':c1 al)(a:al.length=n)(b:bq.s c):cE H (.slice (some ⟨c,0,none⟩) n n) al:=by
 subst a;exact⟨g',.inr ⟨c,0,_,_,_,rfl,h,.inl rfl,by simp[bU,mZ],by simp,bg _,b⟩⟩
end
theorem c1.set{al:List Nat}(h:c1 al)(i:Nat){d:Nat}(a:d<4294967296):c1 (al.set i d):=λe b=>(List.mem_or_eq_of_mem_set b).elim (h e) λq=>q▸a
theorem IS(n:Nat):c1 (List.replicate n 0):=λ_ a=>by rw[x3 a];omega
theorem TF{al:List Nat}{i j d:Nat}(h:i<=j):bf (al.set j d) i=bf al i:=by
 induction i with
 | zero=>rfl
 | succ i ih=>rw[bf,bf,ih (by omega)];simp[dg,show ¬j=i by omega]
theorem ud{al:List Nat}{i d:Nat}(h:i<al.length):dg (al.set i d) i=d:=by simp[dg,h]
theorem mb{al:List Nat}{i d:Nat}(h:i<al.length):bf (al.set i d) (i+1)=bf al i+d*4294967296^i:=by
 rw[bf,TF (bg _),ud h]
section
variable[bq]
structure Out(pm:Perm)(H aa:ad)(c:Nat)(al:List Nat)(n:Nat):Prop where
 u:bh pm H aa
 get:aa.get c=some (.cells (bU al) (.n 1))
 len:al.length=n
 G:c1 al
 low:H.next<=c
theorem Out.r5(_:bR pm H)(h:bh pm H aa)(n:Nat):Out pm H (aa.new (.cells (times [.int .u32 0] n) (.n 1))) aa.next (List.replicate n 0) n:=
 ⟨h.new _,by rw[s6];simp,by simp,IS n,h.next⟩
theorem Out.put{c:Nat}{al:List Nat}{n:Nat}(h:Out pm H aa c al n)(i:Nat){d:Nat}(a:d<4294967296):Out pm H (aa.put c (.cells (bU (al.set i d)) (.n 1))) c (al.set i d) n:=
 ⟨h.u.put h.low h.get _,by simp,by simp[h.len],h.G.set i a,h.low⟩
theorem LS(e:c4 X)(d:bR pm H){v w:Value}{a b:List Nat}(eA:dP H v a)(m:dP H w b)(C:a.length<1073741824)(C:b.length<1073741824):
 Call X pm F.kQ [v,w] H λr aa=>bh pm H aa/\∃al,dP aa r (strip al)/\c1 al/\ay al=ay a+ay b:=by
 have o:=eA.G;have p:=m.G;refine Call.has e.kQ rfl ?_;simp;refine aq.of (gl e.cN eA) ?_;rintro _ _ ⟨rfl,q⟩;simp;refine aq.of (gl e.cN m) ?_;rintro _ H ⟨rfl,t⟩;obtain⟨x,y,rfl⟩:=q.form;obtain⟨z,A,rfl⟩:=t.form;obtain⟨n,u⟩:∃n,n=max a.length b.length+1:=⟨_,rfl⟩;have B:wr .i64 ((if a.length<b.length then(b.length:Int) else a.length)+1)=(n:Int):=by
  rw[b8 (ez:=by split<;>omega) (h:=by split<;>omega)];split<;>omega
 simp[B];rw[lK d (by omega) (by omega)];simp
 refine ef.of (λs:Nat×List Nat×Nat=>[(8,.int .u64 (s.2.2:Int)),(7,.slice (some ⟨H.next,0,none⟩) n n),(5,.slice x a.length y),(6,.slice z b.length A),(23,.int .i64 (s.1:Int)),(22,.int .i64 (n:Int))])
  (λs aa=>Out pm H aa H.next s.2.1 n/\s.2.2<=1/\s.1<=n/\bf s.2.1 s.1+s.2.2*4294967296^s.1=bf a s.1+bf b s.1) (λs=>n-s.1) (0,List.replicate n 0,0) (by simp) ⟨Out.r5 d (bh.refl d) n,by simp,by simp,rfl⟩ ?_
 rintro⟨i,j,f⟩ aa ⟨c,m,x,k⟩;simp only at c m x k;by_cases l:i<n
 ·simp[l];refine aq.of (o6 e.fu (q.u d c.u) i) ?_;rintro _ _ ⟨rfl,rfl⟩;simp;refine aq.of (o6 e.fu (t.u d c.u) i) ?_;rintro _ aa ⟨rfl,rfl⟩;have m:=o.dg i;have m:=p.dg i;obtain⟨s,h⟩:∃s,s=f+(dg a i+dg b i):=⟨_,rfl⟩;obtain⟨g,_⟩:∃g,g=s%4294967296:=⟨_,rfl⟩;have m:wr .u64 ((f:Int)+wr .u64 ((dg a i:Int)+(dg b i:Int)))=(s:Int):=by
   rw[ej (n:=(dg a i:Int)+dg b i),ej];omega
  have n:wr .u32 (s:Int)=(g:Int):=by rw[iE];omega
  simp[m,n,l,c.get,c.len,d.may (bg _),nq];refine .of (i+1,j.set i g,s/4294967296) (by simp;omega) (by simp;rw[b8]) ⟨c.put i (by omega),by simp;omega,by simp;omega,?_⟩
  ·simp only;rw[mb (by rw[c.len];exact l),bf,bf,dH];have:s=g+4294967296*(s/4294967296):=by omega
   have l:g*4294967296^i+s/4294967296*(4294967296^i*4294967296)=s*4294967296^i:=by
    generalize s/4294967296=q at*
    subst this;generalize 4294967296^i=a;grind
   have g:s*4294967296^i=f*4294967296^i+dg a i*4294967296^i+dg b i*4294967296^i:=by subst h;grind
   omega
 ·obtain rfl:i=n:=by omega
  simp;have g:bf a i=ay a:=gw;have g:bf b i=ay b:=gw;have g:bf j i=ay j:=gw (h:=by rw[c.len];exact bg _);have g:=jI o (max a.length b.length);have i:=jI p (max a.length b.length);rw[gw]at g i;have n:f=0:=by
   rcases uZ f with h | h
   ·exact h
   ·obtain rfl:f=1:=by omega
    rw[u,dH]at k;rw[<-u]at k;omega
  subst n;refine aq.of (ka e.dp c.u.ok (pa c.get c.G c.len (d.new _ c.low)) (by rw[c.len];omega)) ?_;rintro r _ ⟨d,e⟩;simp;exact⟨c.u.trans d,j,e,c.G,by omega⟩
theorem FV(e:c4 X)(d:bR pm H){v w:Value}{a b:List Nat}(eA:dP H v a)(k:dP H w b)(t:a.length<1073741824)(t:b.length<1073741824)(y:strip b=b):
 Call X pm F.kS [v,w] H λr aa=>bh pm H aa/\(ay a<ay b/\r=.tuple #[.pointer none,.bool false]∨ay b<=ay a/\∃p al,r=.tuple #[p,.bool true]/\dP aa p (strip al)/\c1 al/\ay al=ay a-ay b):=by
 have o:=eA.G;have z:=k.G;refine Call.has e.kS rfl ?_;simp;refine aq.of (vP e eA k (by omega) (by omega)) ?_;rintro _ H ⟨rfl,rfl⟩;simp;by_cases t:ay a<ay b
 ·simp[e1,t];exact bh.refl d
 have A:(e1 (ay a) (ay b)<0)=False:=by
  unfold e1;rw[aC t];split<;>simp
 simp[A];intro _;refine aq.of (gl e.cN eA) ?_;rintro _ _ ⟨rfl,l⟩;simp;refine aq.of (gl e.cN k) ?_;rintro _ H ⟨rfl,u⟩;obtain⟨B,C,rfl⟩:=l.form;obtain⟨D,E,rfl⟩:=u.form;obtain⟨n,x⟩:∃n,n=a.length:=⟨_,rfl⟩;simp;rw[<-x]at l|-;rw[lK d (by omega) (by omega)];simp
 refine ef.of (λs:Nat×List Nat×Int=>[(9,.int .i64 s.2.2),(8,.slice (some ⟨H.next,0,none⟩) n n),(6,.slice B n C),(7,.slice D b.length E),(24,.int .i64 (s.1:Int)),(23,.int .i64 (n:Int))])
  (λs aa=>Out pm H aa H.next s.2.1 n/\-1<=s.2.2/\s.2.2<=0/\s.1<=n/\(bf s.2.1 s.1:Int)+s.2.2*((4294967296^s.1:Nat):Int)=bf a s.1-bf b s.1) (λs=>n-s.1) (0,List.replicate n 0,0) (by simp[x]) ⟨Out.r5 d (bh.refl d) n,by simp,by simp,by simp,rfl⟩ ?_
 rintro⟨i,j,f⟩ aa ⟨c,k,t,x,A⟩;simp only at c k t x A;by_cases m:i<n
 ·simp[m];refine aq.of (o6 e.fu (l.u d c.u) i) ?_;rintro _ _ ⟨rfl,rfl⟩;have h:=o.dg i;have h:=z.dg i;have h:wr .i64 ((dg a i:Nat):Int)=((dg a i:Nat):Int):=b8;have r:wr .i64 ((dg b i:Nat):Int)=((dg b i:Nat):Int):=b8;simp[h];refine aq.of (o6 e.fu (u.u d c.u) i) ?_;rintro _ aa ⟨rfl,rfl⟩;obtain⟨s,v⟩:∃s:Int,s=f+((dg a i:Int)-dg b i):=⟨_,rfl⟩;obtain⟨g,_⟩:∃g:Nat,(g:Int)=s%4294967296:=⟨(s%4294967296).toNat,by omega⟩;obtain⟨q,w⟩:∃q:Int,q=s/4294967296:=⟨_,rfl⟩;have h:wr .i64 (f+wr .i64 ((dg a i:Int)-(dg b i:Int)))=s:=by
   rw[b8 (n:=(dg a i:Int)-dg b i),b8];omega
  have k:wr .u32 s=(g:Int):=by rw[iE];omega
  have l:s.fdiv 4294967296=q:=by rw[CH _ (by omega)];exact w.symm
  simp[r,h,k,l,m,c.get,c.len,d.may (bg _),nq];refine .of (i+1,j.set i g,q) (by simp;omega) (by simp;rw[b8]) ⟨c.put i (by omega),by simp;omega,by simp;omega,by simp;omega,?_⟩;show((bf (j.set i g) (i+1):Nat):Int)+q*((4294967296^(i+1):Nat):Int)=(bf a (i+1):Int)-(bf b (i+1):Int);rw[mb (by rw[c.len];exact m),bf,bf,dH];have:s=g+4294967296*q:=by omega
  generalize 4294967296^i=p at*
  simp only[Int.natCast_add,u6];have h:s*p=f*p+dg a i*p-dg b i*p:=by rw[v];grind
  have h:s*p=g*p+q*(p*4294967296):=by rw[this];grind
  simp only[Int.cast_ofNat_Int];omega
 ·obtain rfl:i=n:=by omega
  simp;have k:b.length<=a.length:=pk y (cV (by omega) (lO o));have k:bf a i=ay a:=gw;have k:bf b i=ay b:=gw;have k:bf j i=ay j:=gw (h:=by rw[c.len];exact bg _);have k:=jI c.G i;have g:f=0:=by
   rcases(by omega:f<0∨f≥0) with h | h
   ·obtain rfl:f=-1:=by omega
    omega
   ·omega
  subst g;refine aq.of (ka e.dp c.u.ok (pa c.get c.G c.len (d.new _ c.low)) (by rw[c.len];omega)) ?_;rintro r _ ⟨d,e⟩;simp;exact⟨c.u.trans d,by omega,j,e,c.G,by omega⟩
theorem cE.at{b:Option Addr}{n cap i:Nat}{al:List Nat}(h:cE H (.slice b n cap) al)(d:n=al.length)(aJ:i<n):
 ∃c off y row,b=some ⟨c,off,none⟩/\H.get c=some y/\rowOf y=some row/\row[off+i]? = some (.int .u32 ((dg al i:Nat):Int)):=by
 subst d;obtain⟨_,⟨a,rfl⟩ | ⟨c,off,_,y,row,e,a,f,g,_⟩⟩:=h
 ·cases a;simp at aJ
 ·cases e;refine⟨c,off,y,row,rfl,a,f.row,?_⟩;rw[cE.cell g aJ];simp[dg,aJ]
theorem cE.len{a:Option Addr}{n cap:Nat}{al:List Nat}(h:cE H (.slice a n cap) al):n=al.length:=by
 obtain⟨_,⟨b,rfl⟩ | ⟨_,_,_,_,_,c,_⟩⟩:=h
 ·cases b;rfl
 ·cases c;rfl
theorem MB(o:c4 X)(f:bR pm H){v w:Value}{a b:List Nat}(eA:dP H v a)(y:dP H w b)(M:a.length<536870912)(M:b.length<536870912):
 Call X pm F.hM [v,w] H λr aa=>bh pm H aa/\∃al,dP aa r (strip al)/\c1 al/\ay al=ay a*ay b:=by
 have G:=eA.G;have I:=y.G;refine Call.has o.hM rfl ?_;simp;refine aq.of (gl o.cN eA) ?_;rintro _ _ ⟨rfl,p⟩;simp;refine aq.of (gl o.cN y) ?_;rintro _ H ⟨rfl,q⟩;obtain⟨J,z,rfl⟩:=p.form;obtain⟨t,u,rfl⟩:=q.form;obtain⟨n,A⟩:∃n,n=a.length:=⟨_,rfl⟩;obtain⟨m,B⟩:∃m,m=b.length:=⟨_,rfl⟩;rw[<-A]at p|-;rw[<-B]at q|-;obtain⟨N,_⟩:∃N,N=n+m:=⟨_,rfl⟩;have y:wr .i64 ((n:Int)+m)=(N:Int):=by rw[b8];omega
 simp[y];rw[lK f (by omega) (by omega)];simp
 refine ef.of (λs:Nat×List Nat=>[(7,.slice (some ⟨H.next,0,none⟩) N N),(6,.slice t m u),(23,.slice J n z),(25,.int .i64 (s.1:Int)),(24,.int .i64 (n:Int))])
  (λs aa=>Out pm H aa H.next s.2 N/\s.1<=n/\bf s.2 (s.1+m)=bf a s.1*ay b) (λs=>n-s.1) (0,List.replicate N 0) (by simp) ⟨Out.r5 f (bh.refl f) _,by simp,?_⟩ ?_
 ·simp[bf];have:∀k,bf (List.replicate N 0) k=0:=by
   intro k
   induction k with
   | zero=>rfl
   | succ k ih=>rw[bf,ih];simp[dg,uU];split<;>simp
  exact this m
 rintro⟨i,g⟩ aa ⟨c,y,x⟩;simp only at c y x;by_cases C:i<n
 ·obtain⟨K,L,_,_,rfl,y,J,M⟩:=(p.u f c.u).at A C;have p:=G.dg i;simp[C,y,J,M]
  refine ef.of (λs:Nat×List Nat×Nat=>[(10,.int .u64 (s.2.2:Int)),(9,.int .u32 (dg a i:Int)),(8,.int .i64 (i:Int)),(7,.slice (some ⟨H.next,0,none⟩) N N),(6,.slice t m u),(30,.slice t m u),(32,.int .i64 (s.1:Int)),(31,.int .i64 (m:Int)),(23,.slice (some ⟨K,L,none⟩) n z),(25,.int .i64 (i:Int)),(24,.int .i64 (n:Int))])
   (λs aa=>Out pm H aa H.next s.2.1 N/\s.1<=m/\s.2.2<4294967296/\bf s.2.1 (i+s.1)+s.2.2*4294967296^(i+s.1)=bf g (i+s.1)+dg a i*(4294967296^i*bf b s.1)/\∀j,i+s.1<=j->dg s.2.1 j=dg g j) (λs=>m-s.1) (0,g,0) (by simp) ⟨c,by simp,by simp,by simp[bf],by simp⟩ ?_
  rintro⟨k,d,h⟩ aa ⟨c,p,t,D,r⟩;simp only at c p t D r;by_cases E:k<m
  ·obtain⟨_,_,_,_,rfl,H,O,P⟩:=(q.u f c.u).at B E;have p:=I.dg k;have p:=c.G.dg (i+k);have Q:dg a i*dg b k<=4294967295*4294967295:=gK (by omega) (by omega);obtain⟨j,w⟩:∃j,j=dg a i*dg b k:=⟨_,rfl⟩;rw[<-w]at Q;obtain⟨s,R⟩:∃s,s=h+(j+dg d (i+k)):=⟨_,rfl⟩;obtain⟨e,_⟩:∃e,e=s%4294967296:=⟨_,rfl⟩;have p:wr .u64 ((dg a i:Nat):Int)=((dg a i:Nat):Int):=ej;have q:wr .u64 ((dg b k:Nat):Int)=((dg b k:Nat):Int):=ej;have t:wr .u64 ((dg d (i+k):Nat):Int)=((dg d (i+k):Nat):Int):=ej;have u:wr .u64 ((dg a i:Int)*(dg b k:Int))=(j:Int):=by
    have l:(dg a i:Int)*(dg b k:Int)=(j:Int):=by rw[w];simp
    rw[l];exact ej
   have y:wr .u64 ((h:Int)+wr .u64 ((j:Int)+(dg d (i+k):Int)))=(s:Int):=by
    rw[ej (n:=(j:Int)+(dg d (i+k):Int)),ej];omega
   have j:wr .u32 (s:Int)=(e:Int):=by rw[iE];omega
   have z:wr .i64 ((i:Int)+(k:Int))=((i+k:Nat):Int):=by rw[b8];omega
   have A:=LF (al:=d) (i:=i+k) (by rw[c.len];omega);have B:=setCells_one (cs:=bU d) (i:=i+k) (v:=.int .u32 (e:Int)) (by rw[np,c.len];omega);simp[E,H,O,P,p,q,u,y,j,z,c.get,A,t,show i+k<N by omega,B,f.may (bg _),nq];refine .of (k+1,d.set (i+k) e,s/4294967296) (by simp;omega) (by simp;rw[b8]) ⟨c.put (i+k) (by omega),by simp;omega,by simp;omega,?_,λl F=>?_⟩
   ·show bf (d.set (i+k) e) (i+k+1)+s/4294967296*4294967296^(i+k+1)=bf g (i+k+1)+dg a i*(4294967296^i*bf b (k+1));rw[mb (by rw[c.len];omega),bf,bf,<-r (i+k) (bg _),dH];have v:4294967296^i*(dg b k*4294967296^k)=dg b k*4294967296^(i+k):=by rw[fH];generalize 4294967296^i=n;generalize 4294967296^k=S;grind
    have T:s=e+4294967296*(s/4294967296):=by omega
    have j:e*4294967296^(i+k)+s/4294967296*(4294967296^(i+k)*4294967296)=s*4294967296^(i+k):=by
     generalize s/4294967296=S at*
     subst T;generalize 4294967296^(i+k)=n;grind
    have j:s*4294967296^(i+k)=h*4294967296^(i+k)+dg a i*(dg b k*4294967296^(i+k))+dg d (i+k)*4294967296^(i+k):=by
     subst R w;generalize 4294967296^(i+k)=n;grind
    rw[qO (4294967296^i),v,qO];omega
   ·show dg (d.set (i+k) e) l=dg g l;have F:i+(k+1)<=l:=F;rw[<-r l (by omega)];simp[dg,show ¬i+k=l by omega]
  ·obtain rfl:k=m:=by omega
   have e:wr .u32 (h:Int)=(h:Int):=by rw[iE];omega
   have j:wr .i64 ((i:Int)+(k:Int))=((i+k:Nat):Int):=by rw[b8];omega
   simp[e,j,show i+k<N by omega,c.get,c.len,f.may (bg _),nq];refine .of (i+1,d.set (i+k) h) (by simp;omega) (by simp;rw[b8]) ⟨c.put (i+k) (by omega),by simp;omega,?_⟩;show bf (d.set (i+k) h) (i+1+k)=bf a (i+1)*ay b;rw[show i+1+k=i+k+1 by omega,mb (by rw[c.len];omega),D,x,bf,gw (al:=b)];generalize 4294967296^i=p;grind
 ·obtain rfl:i=n:=by omega
  simp;have b:bf a i=ay a:=gw;have d:bf g (i+m)=ay g:=gw (h:=by rw[c.len];omega);refine aq.of (ka o.dp c.u.ok (pa c.get c.G c.len (f.new _ c.low)) (by rw[c.len];omega)) ?_;rintro r _ ⟨e,f⟩;simp;exact⟨c.u.trans e,g,f,c.G,by rw[<-d,x,b]⟩
theorem wb(d:c4 X)(a:bR pm H){x:Nat}(i:x<18446744073709551616):
 Call X pm F.ft [.int .u64 (x:Int)] H λr aa=>bh pm H aa/\dP aa r (strip [x%4294967296,x/4294967296]):=by
 refine Call.has d.ft rfl ?_;have e:wr .u32 (x:Int)=((x%4294967296:Nat):Int):=by rw[iE];omega
 have f:wr .u32 ((x/4294967296:Nat):Int)=((x/4294967296:Nat):Int):=by rw[iE];omega
 obtain⟨c,h⟩:∃c,c=x%4294967296:=⟨_,rfl⟩;obtain⟨b,g⟩:∃b,b=x/4294967296:=⟨_,rfl⟩;rw[<-h]at e|-;rw[<-g]at f|-;have h:((x:Int)).fdiv 4294967296=(b:Int):=by rw[g];exact xc x
 simp[e,f,h,a.make,a.pick];have e:c1 [c,b]:=by intro _ f;simp at f;omega
 refine aq.of (ka d.dp ((bh.refl a).new (.cells (bU [c,b]) (.n 1))).ok (pa (al:=[c,b]) b4 e rfl (a.new _ (bg _))) (by simp)) ?_;rintro r _ ⟨b,c⟩;simp;exact⟨((bh.refl a).new _).trans b,c⟩
end
theorem xD(x:Nat):ay (strip [x%4294967296,x/4294967296])=x:=by
 rw[j'];simp[ay];omega
section
variable[bq]
theorem tx(f:c4 X){v:Value}{a:List Nat}(eA:dP H v a) (w:a.length<=1073741824:=by omega):
 Call X pm F.kT [v] H λr aa=>aa=H/\r=if a.length<=2 then .tuple #[.int .u64 ((ay a:Nat):Int),.bool true] else .tuple #[.int .u64 0,.bool false]:=by
 have g:=eA.G;refine Call.has f.kT rfl ?_;simp;refine aq.of (gl f.cN eA) ?_;rintro _ H ⟨rfl,d⟩;obtain⟨p,q,rfl⟩:=d.form;obtain⟨n,h⟩:∃n,n=a.length:=⟨_,rfl⟩;rw[<-h]at d|-;by_cases j:n<=2
 ·simp[show ¬2<n by omega,j];refine ef.of (λi:Nat=>[(4,.int .u64 ((bf a i:Nat):Int)),(13,.slice p n q),(14,.int .i64 (n:Int)),(15,.int .i64 (i:Int))]) (λi aa=>aa=H/\i<=n) (λi=>n-i) 0 (by simp[bf]) ⟨rfl,by omega⟩ ?_;rintro i H ⟨rfl,_⟩;by_cases e:i<n
  ·obtain⟨_,r,_,s,rfl,k,l,c⟩:=d.at h e;have d:=g.dg i;have m:=jI g i;have o:wr .u64 ((dg a i:Nat):Int)=((dg a i:Nat):Int):=ej;rcases(by omega:i=0∨i=1) with rfl | rfl
   ·have f:wr .i64 0=0:=rfl;have g:(0:Nat) ||| dg a 0=dg a 0:=by simp
    have d:=sj (a:=0) (b:=dg a 0);rw[g]at d;have d:fi .or .u64 0 ((dg a 0:Nat):Int)=some (.int .u64 ((dg a 0:Nat):Int)):=d;have c:s[r]? = some (.int .u32 ((dg a 0:Nat):Int)):=c;simp[e,k,l,c,o,f,bf,d];refine .of 1 (by show n-1<n-0;omega) ?_ ⟨rfl,by omega⟩;simp[bf];rfl
   ·have u:wr .i64 32=32:=rfl;obtain⟨t,v⟩:∃t,t=dg a 1*4294967296:=⟨_,rfl⟩;have f:wr .u64 (((dg a 1:Nat):Int)*4294967296)=(t:Int):=by rw[ej];omega
    have d:=sj (eA:=by simp at m;omega) (a:=bf a 1) (b:=t);have g:bf a 1 ||| t=bf a 2:=by
     rw[Nat.or_comm,v];have:=si (a:=dg a 1) (i:=32) (b:=bf a 1) (by simpa using m);simp only[Nat.reducePow]at this;rw[this,bf.eq_2 a 1];simp;omega
    rw[g]at d;simp[e,k,l,c,o,u,f,d];refine .of 2 (by show n-2<n-1;omega) ?_ ⟨rfl,by omega⟩;simp;rfl
  ·obtain rfl:i=n:=by omega
   simp[gw (al:=a) (i:=i)]
 ·simp[show 2<n by omega,j]
def ai(x:Nat):Nat:=if x=0 then 0 else x.log2+1
end
theorem zI(x:Nat):x<2^ai x:=by
 unfold ai;split
 ·subst x;simp
 ·exact Nat.lt_log2_self
theorem wv{x:Nat}(h:x≠0):2^(ai x-1)<=x:=by
 unfold ai;rw[aC h];exact Nat.log2_self_le h
theorem zH{x n:Nat}(a:2^n<=x)(b:x<2^(n+1)):ai x=n+1:=by
 have c:x≠0:=by have:=hj n;omega
 have d:=zI x;have e:=wv c;have c:=(ov (by omega:1<2)).1 (cV a d);have d:=(ov (by omega:1<2)).1 (cV e b);omega
section
variable[bq]
def r2(k:Nat):Nat:=2^k/2
def lU(x n:Nat):Nat:=x/2^n
end
theorem zC(s:c4 X){x:Nat}(u:x<18446744073709551616):Call X pm F.lu [.int .u64 (x:Int)] H λr aa=>aa=H/\r=.int .i64 ((ai x:Nat):Int):=by
 refine Call.has s.lu rfl ?_;simp
 refine ef.of (λs:Nat×Nat=>[(0,.int .u64 ((lU x s.2:Nat):Int)),(3,.int .i64 (s.2:Int)),(4,.int .i64 ((r2 s.1:Nat):Int))])
  (λs aa=>aa=H/\s.1<=6/\s.2+2^s.1<=64/\lU x s.2<2^(2^s.1)/\(s.2=0∨lU x s.2≠0)) (λs=>s.1) (6,0) (by simp[r2,lU]) ⟨rfl,by simp,by simp,by simpa [lU]using u,.inl rfl⟩ ?_
 rintro⟨k,n⟩ H ⟨rfl,s,m,c,d⟩;simp only at s m c d
 cases k with
 | zero=>
   have b:r2 0=0:=rfl;rw[b];obtain⟨q,a⟩:∃q,q=lU x n:=⟨_,rfl⟩;rw[<-a]at c d|-;have b:wr .i64 (q:Int)=(q:Int):=b8 (h:=by simp at c;omega);unfold lU at a;have e:wr .i64 ((n:Int)+(q:Int))=((n+q:Nat):Int):=by rw[b8 (h:=by simp at c;omega)];simp
   simp[b,e];have f:q=0∨q=1:=by simp at c;omega
   rcases f with rfl | rfl
   ·have:n=0:=by rcases d with h | h;exact h;exact absurd rfl h
    subst this;simp at a;subst a;simp[ai]
   ·have b:2^n<=x:=by
     have:=Nat.div_mul_le_self x (2^n);rw[<-a]at this;omega
    have e:x<2^(n+1):=by
     have:=Nat.lt_mul_div_succ x (hj n);rw[<-a]at this;rw[dH];omega
    rw[zH b e];simp
 | succ k=>
   have s:r2 (k+1)=2^k:=by simp[r2,dH]
   have h:0<2^k:=hj k;have v:2^k<=32:=fX (n:=2) (i:=k) (j:=5) (by omega) (by omega);rw[s];have s:(0:Int)<((2^k:Nat):Int):=by omega
   obtain⟨a,b⟩:∃s,s=2^k:=⟨_,rfl⟩;have s:n+a*2<=64:=by rw[b];simpa [dH]using m
   rw[<-b]at h v|-;have o:r2 k=a/2:=by rw[b];rfl
   obtain⟨q,e⟩:∃q,q=lU x n:=⟨_,rfl⟩;rw[<-e]at c d|-;have r:min a 64=a:=by omega
   have l:((q:Int)).fdiv (2^a)=((q/2^a:Nat):Int):=by
    have:=AG q (2^a);simpa using this
   obtain⟨p,f⟩:∃p,p=q/2^a:=⟨_,rfl⟩;rw[<-f]at l;have w:wr .i64 ((n:Int)+(a:Int))=((n+a:Nat):Int):=by rw[b8];simp
   have t:wr .i64 ((a:Int)/2)=((a/2:Nat):Int):=by rw[b8];omega
   by_cases g:p=0
   ·simp[h,r,l,g,t];refine .of (k,n) (by simp) (by simp[<-e,o]) ⟨rfl,by simp;omega,?_,?_,by simpa [<-e]using d⟩
    ·simp;rw[<-b];omega
    ·simp only;rw[<-e,<-b];rw[g]at f;exact(Nat.div_eq_zero_iff_lt (hj _)).1 f.symm
   ·simp[h,r,l,g,w,t];have i:p=lU x (n+a):=by rw[f,e,lU,lU,uW,fH]
    refine .of (k,n+a) (by simp) (by simp[<-i,o]) ⟨rfl,by simp;omega,?_,?_,.inr (by simp only;rw[<-i];exact g)⟩
    ·simp;rw[<-b];omega
    ·simp only;rw[<-i,f,<-b];rw[Nat.div_lt_iff_lt_mul (hj _),<-fH];rw[show a+a=2^(k+1) by rw[dH,<-b];omega];exact c
theorem TI{x:Nat}(h:x≠0):∃z q,x=2^z*(2*q+1):=by
 induction x using Nat.strongRecOn with
 | ind x ih=>
   by_cases a:x%2=1
   ·exact⟨0,x/2,by simp;omega⟩
   ·obtain⟨z,q,e⟩:=ih (x/2) (by omega) (by omega);exact⟨z+1,q,by rw[dH];generalize 2^z=p at *;have:x=2*(x/2):=(by omega);rw[this,e];grind⟩
theorem Qm{x z q:Nat}(a:x=2^z*(2*q+1))(b:z<64)(b:x<18446744073709551616):x &&& (18446744073709551616-x)=2^z:=by
 have c:18446744073709551616=2^z*(2*2^(63-z)):=by
  rw[show 2*2^(63-z)=2^(64-z) by rw[<-Nat.pow_succ'];congr 1;omega,<-fH,show z+(64-z)=64 by omega]
 have f:=hj z;have d:q<2^(63-z):=by
  rw[a,c]at b;have:=Nat.lt_of_mul_lt_mul_left b;omega
 have b:18446744073709551616-x=2^z*(2*(2^(63-z)-(q+1))+1):=by
  rw[a,c,<-Nat.mul_sub];congr 1;omega
 rw[b,a];rw[dW (2^z),dW (2^z),<-Nat.shiftLeft_eq,<-Nat.shiftLeft_eq,<-Nat.shiftLeft_and_distrib];have e:(2*q+1) &&& (2*(2^(63-z)-(q+1))+1)=1:=by
  apply Nat.eq_of_testBit_eq;intro i;rw[Nat.testBit_and]
  cases i with
  | zero=>simp[Nat.testBit_zero]
  | succ i=>
    rw[Nat.testBit_succ,Nat.testBit_succ,Nat.testBit_succ];rw[show(2*q+1)/2=q by omega,show(2*(2^(63-z)-(q+1))+1)/2=2^(63-z)-(q+1) by omega];rw[Nat.testBit_two_pow_sub_succ d];simp;intro h _;simpa using h
 rw[e,Nat.shiftLeft_eq,Nat.one_mul]
theorem Na(z:Nat):ai (2^z)=z+1:=zH (bg _) (by rw[dH];have:=hj z;omega)
theorem MZ(g:c4 X){x z q:Nat}(c:x=2^z*(2*q+1))(d:x<18446744073709551616):Call X pm F.nI [.int .u64 (x:Int)] H λr aa=>aa=H/\r=.int .i64 (z:Int):=by
 have k:=hj z;have l:x≠0:=by
  rw[c];have:0<2^z*(2*q+1):=pC k (by omega);omega
 have h:z<64:=by
  have:2^z<=x:=by rw[c];exact sJ _ (by omega)
  exact(ov (by omega:1<2)).1 (cV this (by simpa using d))
 have i:=Qm c h d;refine Call.has g.nI rfl ?_;have j:wr .u64 (-(x:Int))=((18446744073709551616-x:Nat):Int):=by
  rw[oI];simp[IntKind.wrap,IntKind.bits,IntKind.signed];omega
 obtain⟨n,m⟩:∃n,n=18446744073709551616-x:=⟨_,rfl⟩;rw[<-m]at j i;have e:=MS (a:=x) (b:=n) d (by omega);rw[i]at e;obtain⟨p,f⟩:∃p,p=2^z:=⟨_,rfl⟩;rw[<-f]at e;simp[l,j,e];have o:ai p=z+1:=by rw[f];exact Na z
 refine aq.of (zC g (x:=p) ?_) ?_
 ·rw[f];have:=(ov (by omega:1<2)).2 h;simpa using this
 rintro _ H ⟨rfl,rfl⟩;rw[o];have c:wr .i64 (z:Int)=(z:Int):=b8;simp[c]
theorem xE(a b:List Nat):ay (a++b)=ay a+4294967296^a.length*ay b:=by
 induction a with
 | nil=>simp[ay]
 | cons _ a ih=>simp only[kl,ay,ih,gu,dH];generalize 4294967296^a.length=p;grind
section
variable[bq]
theorem LU(b:c4 X){v:Value}{a:List Nat}(eA:dP H v a)(g:strip a=a)(h:a.length<=1073741824):Call X pm F.n7 [v] H λr aa=>aa=H/\r=.int .i64 ((ai (ay a):Nat):Int):=by
 have f:=eA.G;refine Call.has b.n7 rfl ?_;simp;refine aq.of (gl b.cN eA) ?_;rintro _ H ⟨rfl,c⟩;obtain⟨_,_,rfl⟩:=c.form;obtain⟨n,d⟩:∃n,n=a.length:=⟨_,rfl⟩;rw[<-d]at c|-
 cases n with
 | zero=>
   obtain rfl:a=[]:=List.length_eq_zero_iff.1 d.symm;simp[ay,ai]
 | succ n=>
   obtain⟨_,_,_,_,rfl,h,j,k⟩:=c.at d (i:=n) (by omega);have c:=f.dg n;have c:wr .u64 ((dg a n:Nat):Int)=((dg a n:Nat):Int):=ej;have d:wr .i64 (n:Int)=(n:Int):=b8;have l:wr .i64 (32*(n:Int))=((32*n:Nat):Int):=by rw[b8];simp
   have m:¬((n:Int)+1=0):=by omega
   simp[m,d,l,h,j,k,c];refine aq.of (zC b (x:=dg a n) (by omega)) ?_;rintro _ H ⟨rfl,rfl⟩;have e:dg a n≠0:=by
    intro o;have p:strip a=strip (a.take n):=Dj λi _=>by
     by_cases q:i=n
     ·subst q;exact o
     ·simp[show a.length<=i by omega]
    have b:=Di (a.take n);rw[<-p,g]at b;simp at b;omega
   have g:ai (ay a)=32*n+ai (dg a n):=by
    have b:ay a=bf a n+dg a n*4294967296^n:=by rw[<-gw (al:=a) (i:=n+1),bf]
    have c:=jI f n;have d:(4294967296:Nat)^n=2^(32*n):=by rw[mY]
    rw[d]at b c;have d:=zI (dg a n);have c:=wv e;have f:ai (dg a n)≠0:=by unfold ai;rw[aC e];omega
    obtain⟨k,f⟩:∃k,ai (dg a n)=k+1:=⟨ai (dg a n)-1,by omega⟩;rw[f]at d c|-;rw[show 32*n+(k+1)=(32*n+k)+1 by omega];simp only[Nat.add_sub_cancel]at c;refine zH ?_ ?_
    ·rw[fH,b,dW];have:=e8 (2^(32*n)) c;omega
    ·rw[show 32*n+k+1=(k+1)+32*n by omega,fH,b];have:=e8 (2^(32*n)) (Nat.succ_le_of_lt d);rw[hS]at this;omega
   rw[g];have b:ai (dg a n)<=64:=by
    have:=wv e;have b:(2:Nat)^(ai (dg a n)-1)<2^32:=by omega
    have:=(ov (by omega:1<2)).1 b;omega
   have b:wr .i64 (32*(n:Int)+((ai (dg a n):Nat):Int))=((32*n+ai (dg a n):Nat):Int):=by rw[b8];simp
   simp[b]
end
theorem Dv{a:List Nat}{k:Nat}(h:∀i,i<k->dg a i=0):bf a k=0:=by
 induction k with
 | zero=>rfl
 | succ k ih=>rw[bf,ih λi _=>h i (by omega),h k (by omega)];simp
theorem sd(a:List Nat)(k:Nat):ay a=bf a k+4294967296^k*cw a k:=by
 induction k with
 | zero=>simp[bf,pj]
 | succ k ih=>
   rw[ih,bf,j1 a k,dH];generalize 4294967296^k=p;grind
section
variable[bq]
theorem tw(c:c4 X){v:Value}{a:List Nat}(eA:dP H v a) (x:a.length<=1073741824:=by omega):
 Call X pm F.j5 [v] H λr aa=>aa=H/\∃z:Nat,r=.int .i64 (z:Int)/\z<=34359738368/\(ay a=0/\z=0∨∃q,ay a=2^z*(2*q+1)):=by
 have o:=eA.G;refine Call.has c.j5 rfl ?_;simp;refine aq.of (gl c.cN eA) ?_;rintro _ H ⟨rfl,d⟩;obtain⟨p,s,rfl⟩:=d.form;obtain⟨n,h⟩:∃n,n=a.length:=⟨_,rfl⟩;rw[<-h]at d|-;simp;refine ef.of (λi:Nat=>[(6,.slice p n s),(7,.int .i64 (n:Int)),(8,.int .i64 (i:Int))]) (λi aa=>aa=H/\i<=n/\∀j,j<i->dg a j=0) (λi=>n-i) 0 (by simp) ⟨rfl,by omega,λj t=>by omega⟩ ?_;rintro i H ⟨rfl,_,e⟩;by_cases f:i<n
 ·obtain⟨_,_,_,_,rfl,k,l,m⟩:=d.at h f;have u:=o.dg i;have v:wr .u64 ((dg a i:Nat):Int)=((dg a i:Nat):Int):=ej;have d:wr .i64 ((i:Int)+1)=((i+1:Nat):Int):=by rw[b8];simp
  have w:wr .i64 (32*(i:Int))=((32*i:Nat):Int):=by rw[b8];simp
  by_cases b:dg a i=0
  ·simp[f,k,l,m,b,d];exact .of (i+1) (by show n-(i+1)<n-i;omega) (by simp) ⟨rfl,by omega,λj t=>by rcases(by omega:j<i∨j=i) with a | rfl;exact e j a;exact b⟩
  ·obtain⟨z,q,g⟩:=TI b;simp[f,k,l,m,b,v,w];refine aq.of (MZ c g (by omega)) ?_;rintro _ H ⟨rfl,rfl⟩;have b:z<32:=by
    have:2^z<=dg a i:=by rw[g];exact sJ _ (by omega)
    exact(ov (by omega:1<2)).1 (cV this (by simpa using u))
   have b:wr .i64 (32*(i:Int)+(z:Int))=((32*i+z:Nat):Int):=by rw[b8];simp
   simp[b];refine⟨32*i+z,by simp,by omega,.inr ⟨q+2^(31-z)*cw a (i+1),?_⟩⟩;rw[sd a i,Dv e,j1 a i,g,fH,show(4294967296:Nat)^i=2^(32*i) by rw[mY]];have:(4294967296:Nat)=2^z*(2*2^(31-z)):=by
    rw[show 2*2^(31-z)=2^(32-z) by rw[<-Nat.pow_succ'];congr 1;omega,<-fH,show z+(32-z)=32 by omega]
   rw[this];generalize 2^(32*i)=p;generalize 2^z=r;generalize 2^(31-z)=s;generalize cw a (i+1)=t;grind
 ·obtain rfl:i=n:=by omega
  simp;exact⟨0,by simp,by omega,.inl ⟨by rw[<-gw (al:=a) (i:=i),Dv e],rfl⟩⟩
theorem yS(u:c4 X)(m:bR pm H){v:Value}{a:List Nat}(eA:dP H v a)(la:a.length<536870912){k:Nat}(hk:k<8589934592):
 Call X pm F.kU [v,.int .i64 (k:Int)] H λr aa=>bh pm H aa/\∃al,dP aa r (strip al)/\c1 al/\ay al=ay a*2^k/\al.length=a.length+k/32+1:=by
 have G:=eA.G;refine Call.has u.kU rfl ?_;simp;refine aq.of (gl u.cN eA) ?_;rintro _ H ⟨rfl,w⟩;obtain⟨I,J,rfl⟩:=w.form;obtain⟨n,x⟩:∃n,n=a.length:=⟨_,rfl⟩;rw[<-x]at w|-;obtain⟨q,K⟩:∃q,q=k/32:=⟨_,rfl⟩;obtain⟨s,L⟩:∃s,s=k%32:=⟨_,rfl⟩;obtain⟨N,_⟩:∃N,N=n+q+1:=⟨_,rfl⟩;have y:((k:Int)).tdiv 32=(q:Int):=by rw[K];rfl
 have M:((k:Int)).tmod 32=(s:Int):=by rw[L];rfl
 have z:wr .i64 (q:Int)=(q:Int):=b8;have K:wr .i64 (wr .i64 ((n:Int)+(q:Int))+1)=(N:Int):=by rw[b8 (n:=(n:Int)+q),b8];omega
 have O:(2:Nat)^k=4294967296^q*2^s:=by rw[show(4294967296:Nat)=2^32 by rfl,<-mY,<-fH];congr 1;omega
 have P:2^s*2^(32-s)=4294967296:=by rw[<-fH,show s+(32-s)=32 by omega]
 have Q:=hj s;have L:2^s<=2147483648:=fX (n:=2) (i:=s) (j:=31) (by omega) (by omega);simp[y,z,K];rw[lK m (by omega) (by omega)];simp
 refine ef.of (λs:Nat×List Nat=>[(6,.slice (some ⟨H.next,0,none⟩) N N),(1,.int .i64 (k:Int)),(19,.slice I n J),(20,.int .i64 (n:Int)),(21,.int .i64 (s.1:Int))])
  (λt aa=>Out pm H aa H.next t.2 N/\t.1<=n/\bf t.2 (t.1+q+1)=bf a t.1*2^k/\dg t.2 (t.1+q)<2^s) (λs=>n-s.1) (0,List.replicate N 0) (by simp) ⟨Out.r5 m (bh.refl m) _,by simp,?_,?_⟩ ?_
 ·simp only[Nat.zero_add,bf,Nat.zero_mul];rw[Dv (λi A=>by simp[dg,uU];split<;>simp)];simp[dg,uU];split<;>simp
 ·simp[dg,uU];split<;>simp<;>omega
 rintro⟨i,d⟩ aa ⟨c,A,o,B⟩;simp only at c A o B;by_cases C:i<n
 ·obtain⟨_,_,_,_,rfl,F,H,R⟩:=(w.u m c.u).at x C;have S:=G.dg i;have r:=c.G.dg (i+q);obtain⟨e,p⟩:∃e,e=dg a i*2^s:=⟨_,rfl⟩;have T:e<4294967296*2^s:=by rw[p];exact x0 S Q
  obtain⟨l,U⟩:∃l,l=e%4294967296:=⟨_,rfl⟩;obtain⟨g,t⟩:∃h,h=e/4294967296:=⟨_,rfl⟩;have V:g<2^s:=by rw[t];exact ox T
  have W:wr .u64 ((dg a i:Nat):Int)=((dg a i:Nat):Int):=ej;have X:wr .i64 ((i:Int)+1)=((i+1:Nat):Int):=by rw[b8];simp
  have Y:wr .i64 ((i:Int)+(q:Int))=((i+q:Nat):Int):=by rw[b8];simp
  have Z:wr .i64 (((i:Int)+(q:Int))+1)=((i+q+1:Nat):Int):=by rw[b8];simp
  have aa:min s 64=s:=by omega
  have x5:wr .u64 (((dg a i:Nat):Int)*2^s)=(e:Int):=by
   have f:((dg a i:Nat):Int)*2^s=(e:Int):=by rw[p];simp
   rw[f];exact ej
  have x6:wr .u32 (e:Int)=(l:Int):=by rw[iE];omega
  have x7:((e:Int)).fdiv 4294967296=(g:Int):=by rw[t];exact xc e
  have x8:wr .u32 (g:Int)=(g:Int):=by rw[iE];omega
  obtain⟨j,D⟩:∃j,j=i+q+1:=⟨_,rfl⟩;have x9:wr .i64 ((i:Int)+(q:Int)+1)=(j:Int):=by rw[Z,D]
  have ab:=LF (al:=d) (i:=i+q) (by rw[c.len];omega);obtain⟨f,E⟩:∃f,f=dg d (i+q)+l:=⟨_,rfl⟩;have x:∃t,l=t*2^s:=by
   refine⟨dg a i%2^(32-s),?_⟩;rw[U,p,<-P,dW (dg a i),Nat.mul_mod_mul_left,dW]
  have w:dg d (i+q) ||| l=f:=by
   obtain⟨t,a⟩:=x;rw[Nat.or_comm,a,si B,E,a];omega
  have ad:f<4294967296:=by rw[<-w];exact Nat.or_lt_two_pow (n:=32) r (by omega)
  have t:=RL (a:=dg d (i+q)) (b:=l) r (by omega);rw[w]at t;have r:=setCells_one (cs:=bU d) (i:=i+q) (v:=.int .u32 (f:Int)) (by rw[np,c.len];omega);have w:=setCells_one (cs:=bU (d.set (i+q) f)) (i:=j) (v:=.int .u32 (g:Int)) (by rw[np,sB,c.len];omega);rw[nq]at r w;simp[C,F,H,R,W,X,Y,y,M,z,aa,x5,x6,c.get,ab,t,r,m.may (bg _),x7,x8,x9,w,show i+q<N by omega,show j<N by omega];subst D;refine .of (i+1,(d.set (i+q) f).set (i+q+1) g) (by show n-(i+1)<n-i;omega) (by simp) ⟨(c.put (i+q) ad).put (i+q+1) (by omega),by simp;omega,?_,?_⟩
  ·show bf ((d.set (i+q) f).set (i+q+1) g) (i+1+q+1)=bf a (i+1)*2^k;rw[show i+1+q+1=(i+q+1)+1 by omega,mb (by rw[sB,c.len];omega),mb (by rw[c.len];omega),bf];rw[bf]at o;rw[om,<-o,dH,O,E];have b:dg a i*4294967296^i*(4294967296^q*2^s)=e*4294967296^(i+q):=by
    rw[p,fH];generalize 4294967296^i=a;generalize 4294967296^q=a;generalize 2^s=a;grind
   rw[b];have a:e=l+4294967296*g:=by omega
   rw[a];generalize 4294967296^(i+q)=p;grind
  ·show dg ((d.set (i+q) f).set (i+q+1) g) (i+1+q)<2^s;rw[show i+1+q=i+q+1 by omega,ud (by rw[sB,c.len];omega)];exact V
 ·obtain rfl:i=n:=by omega
  simp;have b:bf d (i+q+1)=ay d:=gw (h:=by rw[c.len];omega);refine aq.of (ka u.dp c.u.ok (pa c.get c.G c.len (m.new _ c.low)) (by rw[c.len];omega)) ?_;rintro r _ ⟨e,f⟩;simp;exact⟨c.u.trans e,d,f,c.G,by rw[<-b,o,gw (al:=a)],by rw[c.len];omega⟩
theorem cE.drop{c off cap:Nat}{n:Nat}{a:List Nat}(h:cE H (.slice (some ⟨c,off,none⟩) n cap) a)(q:Nat)(j:q<=n):cE H (.slice (some ⟨c,off+q,none⟩) (n-q) (cap-q)) (a.drop q):=by
 have j:=h.len;obtain⟨d,⟨a,rfl⟩ | ⟨_,_,_,y,e,f,a,g,i,_,b⟩⟩:=h
 ·cases a
 ·cases f;refine⟨λf h=>d f (x8 h),.inr ⟨c,off+q,cap-q,y,e,by simp,a,g,?_,by simp;omega,by have:=b.1;simp;omega,b.2⟩⟩;have:=congrArg (List.drop q) i;rw[List.drop_take,List.drop_drop]at this;simp only[x6];rw[this];simp[bU,List.map_drop]
end
theorem ur(a:List Nat)(k:Nat)(g':c1 a):cw a k=ay a/4294967296^k:=by
 rw[sd a k,CI _ _ (qN (by omega)),qL (jI g' k)];omega
section
variable[bq]
theorem Hg(f:c4 X)(d:bR pm H){v:Value}{a:List Nat}(eA:dP H v a)(la:a.length<1073741824){k:Nat}(hk:k<137438953472):
 Call X pm F.j6 [v,.int .i64 (k:Int)] H λr aa=>bh pm H aa/\∃al,dP aa r (strip al)/\c1 al/\ay al=ay a/2^k/\al.length<=a.length:=by
 have C:=eA.G;refine Call.has f.j6 rfl ?_;simp;refine aq.of (gl f.cN eA) ?_;rintro _ H ⟨rfl,o⟩;obtain⟨_,x,rfl⟩:=o.form;obtain⟨n,D⟩:∃n,n=a.length:=⟨_,rfl⟩;rw[<-D]at o|-;obtain⟨q,R⟩:∃q,q=k/32:=⟨_,rfl⟩;obtain⟨s,S⟩:∃s,s=k%32:=⟨_,rfl⟩;have E:((k:Int)).tdiv 32=(q:Int):=by rw[R];rfl
 have T:((k:Int)).tmod 32=(s:Int):=by rw[S];rfl
 have G:wr .i64 (q:Int)=(q:Int):=b8;have I:(2:Nat)^k=4294967296^q*2^s:=by rw[show(4294967296:Nat)=2^32 by rfl,<-mY,<-fH];congr 1;omega
 have U:2^s*2^(32-s)=4294967296:=by rw[<-fH,show s+(32-s)=32 by omega]
 have V:=hj s;by_cases R:n<=q
 ·simp[E,G,show ¬q<n by omega];refine aq.of (ka f.dp d .nil (by simp)) ?_;rintro r _ ⟨b,c⟩;simp;refine⟨b,[],c,λ_ e=>(by cases e),?_,by simp⟩;rw[I,<-uW,<-ur a q C,qp];simp[ay]
 ·obtain⟨W,F,X,_,rfl,J,_,_⟩:=o.at D (i:=q) (by omega);have z:n<=x/\∃A,rq X A:=by
   obtain⟨_,⟨a,_⟩ | ⟨_,_,_,_,A,b,a,c,_,_,_⟩⟩:=id o
   ·cases a
   ·cases b;rw[J]at a;cases a;exact⟨by omega,A,c⟩
  obtain⟨z,_,A⟩:=z;have K:=A.iA (pm:=pm) (H:=H) (l:=q) (h:=n) (m:=x) (cap:=x) (off:=F) J (by omega) z (bg _);have y:=o.drop q (by omega);obtain⟨b,B⟩:∃b,b=a.drop q:=⟨_,rfl⟩;obtain⟨N,L⟩:∃N,N=n-q:=⟨_,rfl⟩;rw[<-B,<-L]at y;rw[<-L]at K;have M:c1 b:=y.1;have o:b.length=N:=by rw[B,x6];omega
  simp[E,G,show q<n by omega,K];rw[lK d (by omega) (by omega)];simp
  refine ef.of (λt:Nat×List Nat=>[(6,.slice (some ⟨H.next,0,none⟩) N N),(1,.int .i64 (k:Int)),(5,.slice (some ⟨W,F+q,none⟩) N (x-q)),(24,.int .i64 (N:Int)),(25,.int .i64 (t.1:Int))])
   (λt aa=>Out pm H aa H.next t.2 N/\t.1<=N/\bf t.2 t.1+4294967296^t.1*(cw b t.1/2^s)=ay b/2^s) (λs=>N-s.1) (0,List.replicate N 0) (by simp) ⟨Out.r5 d (bh.refl d) _,by simp,by simp[bf,pj]⟩ ?_
  rintro⟨i,g⟩ aa ⟨c,n,p⟩;simp only at c n p;by_cases O:i<N
  ·simp[O];refine aq.of (o6 f.fu (y.u d c.u) i) ?_;rintro _ aa ⟨rfl,rfl⟩;have h:wr .i64 ((i:Int)+1)=((i+1:Nat):Int):=by rw[b8];simp
   obtain⟨j,k⟩:∃j,j=i+1:=⟨_,rfl⟩;rw[<-k]at h;simp[h];refine aq.of (o6 f.fu (y.u d c.u) j) ?_;rintro _ aa ⟨rfl,rfl⟩;have l:=M.dg i;have n:=M.dg j;obtain⟨t,m⟩:∃t,t=dg b j*4294967296:=⟨_,rfl⟩;have Y:wr .u64 (((dg b j:Nat):Int)*4294967296)=(t:Int):=by rw[ej];omega
   obtain⟨u,H⟩:∃u,u=t+dg b i:=⟨_,rfl⟩;have P:=sj (a:=dg b i) (b:=t);have n:dg b i ||| t=u:=by
    rw[Nat.or_comm,m,H];have:=si (a:=dg b j) (i:=32) (b:=dg b i) (by simpa using l);simp only[Nat.reducePow]at this;omega
   rw[n]at P;have Z:min s 64=s:=by omega
   obtain⟨w,Q⟩:∃w,w=u/2^s:=⟨_,rfl⟩;have x4:((u:Int)).fdiv (2^s)=(w:Int):=by
    have:=AG u (2^s);rw[Q];simpa using this
   obtain⟨e,hd⟩:∃e,e=w%4294967296:=⟨_,rfl⟩;have o:wr .u32 (w:Int)=(e:Int):=by rw[iE];omega
   have n:=setCells_one (cs:=bU g) (i:=i) (v:=.int .u32 (e:Int)) (by rw[np,c.len];omega);rw[nq]at n;simp[Y,P,T,Z,x4,o,n,O,c.get,d.may (bg _),h];refine .of (j,g.set i e) (by show N-j<N-i;omega) (by simp) ⟨c.put i (by omega),by simp;omega,?_⟩;show bf (g.set i e) j+4294967296^j*(cw b j/2^s)=ay b/2^s;rw[<-p,k,mb (by rw[c.len];omega),dH];have ab:cw b i/2^s=e+4294967296*(cw b (i+1)/2^s):=by
    have a:(cw b i/2^s)/4294967296=cw b (i+1)/2^s:=by
     rw[uW,dW,<-uW,j1 b i,CI _ _ (by omega),qL l];simp
    have a:(cw b i/2^s)%4294967296=e:=by
     rw[hd,Q,H,m,j1 b i,j1 b (i+1),<-k];have:dg b i+4294967296*(dg b j+4294967296*cw b (j+1))=(dg b j*4294967296+dg b i)+2^s*(4294967296*(2^(32-s)*cw b (j+1))):=by
      have e:4294967296*(4294967296*cw b (j+1))=2^s*(4294967296*(2^(32-s)*cw b (j+1))):=by
       generalize cw b (j+1)=z;have:2^s*2^(32-s)*(4294967296*z)=4294967296*(4294967296*z):=by rw[U]
       generalize 2^s=x at*
       generalize 2^(32-s)=y at*
       grind
      omega
     rw[this,CI _ _ V,Nat.add_mul_mod_self_left]
    omega
   rw[ab];generalize 4294967296^i=e;generalize cw b (i+1)/2^s=r;grind
  ·obtain rfl:i=N:=by omega
   simp;have b:bf g i=ay g:=gw (h:=by rw[c.len];omega);refine aq.of (ka f.dp c.u.ok (pa c.get c.G c.len (d.new _ c.low)) (by rw[c.len];omega)) ?_;rintro r _ ⟨d,e⟩;simp;refine⟨c.u.trans d,g,e,c.G,?_,by rw[c.len];omega⟩;rw[qp,b]at p;simp at p;rw[p,I,<-uW,<-ur a q C,B,cw]
end
theorem H3{al:List Nat}{j k d:Nat}(h:j<k):cw (al.set j d) k=cw al k:=by
 unfold cw;rw[List.drop_set,aT h]
section
variable[bq]
theorem La(x:c4 X)(g:bR pm H){v:Value}{a:List Nat}(l:cE H v a)(p:a.length<=1073741824){y:Nat}(o:0<y)(p:y<4294967296):
 Call X pm F.mL [v,.int .u64 (y:Int)] H λr aa=>bh pm H aa/\∃s p,r=.tuple #[s,.int .u64 ((ay a%y:Nat):Int)]/\cE aa s p/\ay p=ay a/y/\p.length=a.length:=by
 have z:=l.1;refine Call.has x.mL rfl ?_;obtain⟨A,B,rfl⟩:=l.form;obtain⟨n,q⟩:∃n,n=a.length:=⟨_,rfl⟩;rw[<-q]at l|-;simp;rw[lK g (by omega) (by omega)];simp
 refine ef.of (λt:Nat×List Nat×Nat=>[(0,.slice A n B),(1,.int .u64 (y:Int)),(6,.slice (some ⟨H.next,0,none⟩) n n),(7,.int .u64 (t.2.2:Int)),(8,.int .i64 ((t.1:Int)-1))])
  (λt aa=>Out pm H aa H.next t.2.1 n/\t.1<=n/\t.2.2<y/\cw a t.1=cw t.2.1 t.1*y+t.2.2) (λt=>t.1) (n,List.replicate n 0,0) (by simp;rw[b8]) ⟨Out.r5 g (bh.refl g) _,by simp,o,?_⟩ ?_
 ·simp only;rw[qp,qp (h:=by simp)];simp
 rintro⟨k,e,r⟩ aa ⟨c,p,m,j⟩;simp only at c p m j
 cases k with
 | zero=>
   simp;rw[pj,pj]at j;have b:ay a/y=ay e:=by
    rw[j,dW,Nat.mul_add_div o,qL m];omega
   have d:ay a%y=r:=by
    rw[j,dW,Nat.mul_add_mod,k0 m]
   exact⟨c.u,_,⟨rfl,by omega⟩,e,pa c.get c.G c.len (g.new _ c.low),b.symm,by rw[c.len,q]⟩
 | succ k=>
   obtain⟨_,_,_,_,rfl,C,D,E⟩:=(l.u g c.u).at q (i:=k) (by omega);have F:=z.dg k;have G:wr .u64 ((dg a k:Nat):Int)=((dg a k:Nat):Int):=ej;obtain⟨t,H⟩:∃t,t=r*4294967296:=⟨_,rfl⟩;have I:wr .u64 ((r:Int)*4294967296)=(t:Int):=by rw[ej];omega
   obtain⟨u,J⟩:∃u,u=t+dg a k:=⟨_,rfl⟩;have w:=sj (a:=t) (b:=dg a k);have l:t ||| dg a k=u:=by
    rw[H,J];have:=si (a:=r) (i:=32) (b:=dg a k) (by simpa using F);simp only[Nat.reducePow]at this;omega
   rw[l]at w;obtain⟨d,h⟩:∃d,d=u/y:=⟨_,rfl⟩;have K:d<4294967296:=by
    rw[h];exact ox (by
     have:(r+1)*4294967296<=y*4294967296:=e8 _ m;omega)
   have L:((u:Int)).tdiv (y:Int)=(d:Int):=by rw[h];rfl
   obtain⟨f,s⟩:∃f,f=u%y:=⟨_,rfl⟩;have p:((u:Int)).tmod (y:Int)=(f:Int):=by rw[s];rfl
   have q:wr .u64 (d:Int)=(d:Int):=ej;have t:wr .u32 (d:Int)=(d:Int):=by rw[iE];omega
   have l:¬y=0:=by omega
   have l:=A4 .u64 (u:Int) (y:Int) (by omega);have m:=A5 .u64 (u:Int) (y:Int) (by omega);rw[L,q]at l;rw[p]at m;have q:wr .i64 ((k:Int)-1)=(k:Int)-1:=b8;have p:=setCells_one (cs:=bU e) (i:=k) (v:=.int .u32 (d:Int)) (by rw[np,c.len];omega);rw[nq]at p;simp[G,I,w,l,t,q,m,C,D,E,show k<n by omega,c.get,p,g.may (bg _)];have g:f<y:=by rw[s];exact kY _ o
   refine .of (k,e.set k d,f) (by simp) (by simp) ⟨c.put k K,by simp;omega,g,?_⟩;show cw a k=cw (e.set k d) k*y+f;rw[j1 a k,j,j1 (e.set k d) k,ud (by rw[c.len];omega),H3 (by omega)];have c:y*d+f=u:=by rw[h,s];exact qM u y
   have:u=r*4294967296+dg a k:=by omega
   generalize cw e (k+1)=z at*
   grind
end
theorem TG(w:List Nat)(m:Nat):bf w (m+3)=bf w m+4294967296^m*(dg w m+4294967296*(dg w (m+1)+4294967296*dg w (m+2))):=by
 simp only[bf,dH];generalize 4294967296^m=p;grind
theorem TH(w:List Nat)(m:Nat):bf w (m+2)=bf w m+4294967296^m*(dg w m+4294967296*dg w (m+1)):=by
 simp only[bf,dH];generalize 4294967296^m=p;grind
section
variable[bq]
structure iJ(A V:Nat)(two v1 v2 a0:Nat):Prop where
 ex:∃P Fu Gg,0<P/\A=Fu+P*(a0+4294967296*two)/\V=Gg+P*(v2+4294967296*v1)/\Fu<P/\Gg<P
 a0:a0<4294967296
 v2:v2<4294967296
 v1:0<v1
 lt:A<4294967296*V
end
theorem iJ.pos{A V a v1 b c:Nat}(g:iJ A V a v1 b c):0<V:=by have:=g.lt;omega
theorem iJ.low{A V b v1 a c:Nat}(g:iJ A V b v1 a c):A/V*(a+4294967296*v1)<=c+4294967296*b:=by
 obtain⟨P,_,_,_,_,_,_,_⟩:=g.ex;have h:=Nat.div_mul_le_self A V;generalize A/V=Q at*
 have e:Q*(P*(a+4294967296*v1))<=Q*V:=lX Q (by omega);have d:P*(Q*(a+4294967296*v1))<P*(c+4294967296*b+1):=by
  have:P*(Q*(a+4294967296*v1))=Q*(P*(a+4294967296*v1)):=by grind
  rw[this,qO P _ 1];omega
 have:=Nat.lt_of_mul_lt_mul_left d;omega
theorem iJ.top{A V b v1 a c:Nat}(g:iJ A V b v1 a c):A/V*v1<=b:=by
 have h:=g.low;have b:=g.a0;generalize A/V=Q at*
 have e:Q*(a+4294967296*v1)=Q*a+4294967296*(Q*v1):=by grind
 omega
theorem iJ.mask{A V a v1 b c:Nat}(g:iJ A V a v1 b c):A/V<=4294967295:=by
 have:=ox (k:=4294967296) (by rw[dW];exact g.lt:A<V*4294967296);omega
theorem iJ.start{A V a v1 b c:Nat}(g:iJ A V a v1 b c):A/V<=min (a/v1) 4294967295:=by
 have:=g.top;have a:=(Nat.le_div_iff_mul_le g.v1).2 this;have:=g.mask;omega
theorem iJ.dec{A V b v1 a c q r:Nat}(g:iJ A V b v1 a c)(h:A/V<=q)(f:r+q*v1=b)(b:r*4294967296+c<q*a):A/V<=q-1:=by
 have d:=g.low
 rcases sC (A/V) q with b | b
 ·omega
 ·obtain e:A/V=q:=by omega
  rw[e]at d;have b:q*(a+4294967296*v1)=q*a+4294967296*(q*v1):=by grind
  omega
theorem iJ.stop{A V c v1 a b q r:Nat}(g:iJ A V c v1 a b)(e:q<=4294967295)(f:r+q*v1=c)(d:4294967296<=r∨q*a<=r*4294967296+b):q<=A/V+1:=by
 have f:=g.v2;have f:=g.v1;have f:q*a<=r*4294967296+b:=by
  rcases d with h | h
  ·have:q*a<=4294967295*4294967295:=gK e (by omega);omega
  ·exact h
 obtain⟨P,_,d,_,_,f,_,_⟩:=g.ex;have h:q*(a+4294967296*v1)<=b+4294967296*c:=by
  have:q*(a+4294967296*v1)=q*a+4294967296*(q*v1):=by grind
  omega
 have i:q*V<A+V:=by
  have g:q*V=q*d+P*(q*(a+4294967296*v1)):=by rw[f];grind
  have f:P*(q*(a+4294967296*v1))<=P*(b+4294967296*c):=lX P h;have b:q*d<=4294967295*d:=e8 d e;have b:P*(4294967296*1)<=P*(a+4294967296*v1):=lX P (by omega);omega
 rcases sC (A/V+1) q with a | a
 ·exfalso;have b:(A/V+2)*V<=q*V:=e8 V a;have b:=Nat.lt_mul_div_succ A g.pos;rw[dW]at b;have:(A/V+2)*V=(A/V+1)*V+V:=by grind
  omega
 ·exact a
section
variable[bq]
def mj(dt:Nat)(H:ad)(v:Value)(al:List Nat):Prop:=
 c1 al/\∃a c y b,v=.slice (some ⟨dt,a,none⟩) al.length c/\H.get dt=some y/\rowOf y=some b/\∀i,i<al.length->b[a+i]? = some (.int .u32 ((dg al i:Nat):Int))
structure gd(pm:Perm)(c:Nat)(H aa:ad):Prop where
 ok:bR pm aa
 next:H.next<=aa.next
 get:∀x,x≠c->aa.get x=H.get x
theorem gd.refl(a:bR pm H)(c:Nat):gd pm c H H:=⟨a,bg _,λ_ _=>rfl⟩
theorem gd.trans{c:Nat}{a:ad}(h:gd pm c H aa)(g:gd pm c aa a):gd pm c H a:=⟨g.ok,aY h.next g.next,λx a=>(g.get x a).trans (h.get x a)⟩
theorem _root_.Go.Dam.bR.up(h:bR pm H)(n:Nat):bR pm (H.up n):=⟨h.num,aY h.ah (e9 _ _),λb a=>h.wf b (aY (e9 _ _) a),λb a=>h.new b (aY (e9 _ _) a)⟩
theorem gd.up{c:Nat}(h:gd pm c H aa)(n:Nat):gd pm c H (aa.up n):=⟨h.ok.up n,aY h.next (e9 _ _),h.get⟩
theorem gd.put{c:Nat}(h:gd pm c H aa){y:bk}(d:aa.get c=some y)(x:bk):gd pm c H (aa.put c x):=
 ⟨⟨h.ok.num,h.ok.ah,λb a=>by have a:aa.next<=b:=a;have:=h.ok.lt d;rw[a7];exact h.ok.wf b a,λb a=>h.ok.new b a⟩,h.next,λz a=>by rw[a7 (h:=a)];exact h.get z a⟩
theorem mj.only{dt c:Nat}{v:Value}{al:List Nat}(h:mj dt H v al)(a:dt≠c)(b:gd pm c H aa):mj dt aa v al:=by
 obtain⟨c,d,e,y,f,g,i,j⟩:=h;exact⟨c,d,e,y,f,g,(b.get dt a).trans i,j⟩
end
theorem c1.oH{al:List Nat}(h:c1 al)(i:Nat):wr .u64 ((C.dg al i:Nat):Int)=((C.dg al i:Nat):Int):=by
 have:=h.dg i;exact ej
theorem c1.DA{al:List Nat}(h:c1 al)(i:Nat):wr .i64 ((C.dg al i:Nat):Int)=((C.dg al i:Nat):Int):=by
 have:=h.dg i;exact b8
theorem qS{p w:List Nat}{j i:Nat}(a:p.length=j) (aJ:i<w.length:=by omega):(bU (p++w))[j+i]? = some (.int .u32 ((dg w i:Nat):Int)):=by
 subst a;simp[bU,dg,aJ]
theorem yB{p w:List Nat}{j i d:Nat}(a:p.length=j)(aJ:i<w.length):setCells (bU (p++w)) (j+i) [.int .u32 (d:Int)]=some (bU (p++w.set i d)):=by
 subst a;rw[setCells_one (by simp;omega),nq];rw[List.set_append_right _ _ (by omega)];simp
theorem rN{w:List Nat}{i t d:Nat} (h:i≠t:=by omega):dg (w.set i d) t=dg w t:=by simp[dg,h]
section
variable[bq]
def yF(pm:Perm)(c:Nat)(H:ad)(p w:List Nat)(n A V:Nat):b5:=λx l aa=>
 (x=dS.normal∨x=dS.ret)/\∃a,hU l aa [.slot 4]=some a/\(f' a=.int .u32 ((A/V:Nat):Int)/\gd pm c H aa/\∃a,aa.get c=some (.cells (bU (p++a)) (.n 1))/\c1 a/\a.length=w.length/\
  bf a (n+1)=A%V/\∀i,n<i->dg a i=dg w i)
theorem Lh{aj:ad}{c dt j n cap x mx:Nat}(ai:gd pm c aj H)(y:pm.may c=true)(N:dt≠c){p w b:List Nat}{A V q:Nat}{O:bk}{S:List Value}(m:p.length=j)(hc:H.get c=some (.cells (bU (p++w)) (.n 1)))
 (ak:c1 w) (z:c1 b) (T:aj.get dt=some O) (U:rowOf O=some S) (W:∀i,i<n->S[x+i]? = some (.int .u32 ((dg b i:Nat):Int))) (O:n<1073741824) (O:n+1<=w.length) (_:j<1073741824)
 (hA:A=bf w (n+1)) (K:V=bf b n) (al:0<V) (an:A/V<=q) (ao:q<=A/V+1) (aq:q<=4294967295) {l:bb}
 (S:aK 0 l=some (.slice (some ⟨c,j,none⟩) (n+1) cap)) (O:aK 1 l=some (.slice (some ⟨dt,x,none⟩) n mx)) (l5:aK 5 l=some (.int .i64 (n:Int))) (l7:aK 7 l=some (.int .u64 (q:Int))):
 wp X pm (.code mM) l H [] (yF pm c aj p w n A V):=by
 simp[O]
 refine ef.of (λs:Nat×List Nat×Nat×Int=>[(0,.slice (some ⟨c,j,none⟩) (n+1) cap),(1,.slice (some ⟨dt,x,none⟩) n mx),(5,.int .i64 (n:Int)),(7,.int .u64 (q:Int)),(9,.int .u64 (s.2.2.1:Int)),(10,.int .i64 s.2.2.2),(82,.slice (some ⟨dt,x,none⟩) n mx),(83,.int .i64 (n:Int)),(84,.int .i64 (s.1:Int))])
  (λs aa=>gd pm c aj aa/\aa.get c=some (.cells (bU (p++s.2.1)) (.n 1))/\c1 s.2.1/\s.2.1.length=w.length/\s.1<=n/\(∀d,s.1<=d->dg s.2.1 d=dg w d)/\s.2.2.1<4294967296/\-1<=s.2.2.2/\s.2.2.2<=0/\
   (bf s.2.1 s.1:Int)+s.2.2.2*((4294967296^s.1:Nat):Int)=bf w s.1-q*bf b s.1+s.2.2.1*((4294967296^s.1:Nat):Int)) (λs=>n-s.1) (0,w,0,0) (by simp[S,O,l5,l7]) ⟨ai,hc,ak,rfl,by simp,λ_ _=>rfl,by simp,by simp,by simp,by simp[bf]⟩ ?_
 rintro⟨i,a,g,o⟩ _ ⟨C,r,h,D,O,t,S,ai,ak,ar⟩;simp only at r h D O t S ai ak ar;have au:=(C.get dt N).trans T;by_cases Y:i<n
 ·have E:=W i Y;have F:=qS (p:=p) (w:=a) m (i:=i);have O:=z.dg i;have O:=h.dg i;obtain⟨c,B⟩:∃s,s=g+q*dg b i:=⟨_,rfl⟩;have G:q*dg b i<=4294967295*4294967295:=gK aq (by omega);obtain⟨u,v⟩:∃A,A=q*dg b i:=⟨_,rfl⟩;rw[<-v]at B G;have H:wr .u64 ((q:Int)*((dg b i:Nat):Int))=(u:Int):=by
   have e:(q:Int)*((dg b i:Nat):Int)=(u:Int):=by rw[v];simp
   rw[e];exact ej
  have I:wr .u64 ((g:Int)+(u:Int))=(c:Int):=by rw[ej];omega
  obtain⟨e,_⟩:∃d,d=c%4294967296:=⟨_,rfl⟩;have J:wr .u32 (c:Int)=(e:Int):=by rw[iE];omega
  have L:wr .i64 (e:Int)=(e:Int):=b8;obtain⟨f,M⟩:∃s:Int,s=o+((dg a i:Int)-e):=⟨_,rfl⟩;have Q:wr .i64 (o+wr .i64 (((dg a i:Nat):Int)-(e:Int)))=f:=by
   rw[b8 (n:=(dg a i:Int)-e),b8];omega
  obtain⟨j,_⟩:∃d:Nat,(d:Int)=f%4294967296:=⟨(f%4294967296).toNat,by omega⟩;have R:wr .u32 f=(j:Int):=by rw[iE];omega
  obtain⟨k,X⟩:∃u:Int,u=f/4294967296:=⟨_,rfl⟩;have Z:f.fdiv 4294967296=k:=by rw[CH _ (by omega)];exact X.symm
  obtain⟨l,aa⟩:∃A,A=c/4294967296:=⟨_,rfl⟩;have u:((c:Int)).fdiv 4294967296=(l:Int):=by rw[aa];exact xc c
  have A:wr .i64 ((i:Int)+1)=((i+1:Nat):Int):=by rw[b8];simp
  have G:=yB (p:=p) (w:=a) (d:=j) m (i:=i) (by omega);simp[Y,au,U,E,r,F,h.DA,z.oH,H,I,J,L,Q,R,Z,u,A,G,show i<n+1 by omega,y];refine .of (i+1,a.set i j,l,k) (by show n-(i+1)<n-i;omega) (by simp) ⟨C.put r _,by simp,h.set i (by omega),by simp[D],by simp;omega,λu A=>?_,by simp;omega,by simp;omega,by simp;omega,?_⟩
  ·have A:i+1<=u:=A;show dg (a.set i j) u=dg w u;rw[rN];exact t u (by omega)
  ·show((bf (a.set i j) (i+1):Nat):Int)+k*((4294967296^(i+1):Nat):Int)=(bf w (i+1):Int)-q*(bf b (i+1):Int)+l*((4294967296^(i+1):Nat):Int);rw[mb (by omega),bf,bf,<-t i (bg _),dH];have d:f=j+4294967296*k:=by omega
   have n:(c:Int)=e+4294967296*l:=by omega
   have p:(c:Int)=g+q*dg b i:=by rw[B,v];simp
   generalize 4294967296^i=P at*
   simp only[Int.natCast_add,u6,Int.cast_ofNat_Int];have u:(j:Int)*P+k*(P*4294967296)=f*P:=by rw[d];grind
   have d:f*P=o*P+(dg a i:Int)*P-e*P:=by rw[M];grind
   have d:(e:Int)*P+l*(P*4294967296)=c*P:=by rw[n];grind
   have d:(c:Int)*P=g*P+q*(dg b i*P):=by rw[p];grind
   have c:(q:Int)*((bf b i:Int)+dg b i*P)=q*bf b i+q*(dg b i*P):=by grind
   rw[c];omega
 ·obtain rfl:i=n:=by omega
  have X:=qS (p:=p) (w:=a) m (i:=i);have O:=h.dg i;have Z:wr .i64 (g:Int)=(g:Int):=b8;obtain⟨e,av⟩:∃s:Int,s=o+((dg a i:Int)-g):=⟨_,rfl⟩;have E:wr .i64 (o+wr .i64 (((dg a i:Nat):Int)-(g:Int)))=e:=by
   rw[b8 (n:=(dg a i:Int)-g),b8];omega
  obtain⟨l,ab⟩:∃d:Nat,(d:Int)=e%4294967296:=⟨(e%4294967296).toNat,by omega⟩;have F:wr .u32 e=(l:Int):=by rw[iE];omega
  have ad:=yB (p:=p) (w:=a) (d:=l) m (i:=i) (by omega);have O:0<4294967296^i:=qN (by omega);have O:=jI z i;rw[<-K]at O;have O:=jI h i;have O:A=bf w i+dg w i*4294967296^i:=by rw[hA,bf]
  have aw:=t i (bg _);have G:(bf a i:Int)+e*((4294967296^i:Nat):Int)=A-q*V:=by
   rw[O,K];generalize 4294967296^i=P at*
   rw[av,aw];simp only[Int.natCast_add,u6];have b:(o+((dg w i:Int)-g))*P=o*P+dg w i*P-g*P:=by grind
   rw[b];omega
  have ae:=qM A V;have hR:A%V<V:=kY _ al;obtain⟨Q,H⟩:∃Q,Q=A/V:=⟨_,rfl⟩;obtain⟨R,I⟩:∃R,R=A%V:=⟨_,rfl⟩;rw[<-H,<-I]at ae;rw[<-I]at hR;rw[<-H]at an ao;have J:(A:Int)=Q*V+R:=by rw[<-ae];simp;grind
  have af:q=Q∨q=Q+1:=by omega
  by_cases g:e<0
  ·have hq:q=Q+1:=by
    rcases af with rfl | b
    ·exfalso;rw[J]at G;have c:e*((4294967296^i:Nat):Int)<=-1*((4294967296^i:Nat):Int):=CE (by omega) (by omega);omega
    ·exact b
   have ax:(bf a i:Int)+e*((4294967296^i:Nat):Int)=R-V:=by
    rw[G,J,hq];simp;grind
   have ay:e=-1:=by
    rcases(by omega:e=-1∨e<=-2) with b | b
    ·exact b
    ·exfalso;have c:e*((4294967296^i:Nat):Int)<=-2*((4294967296^i:Nat):Int):=CE b (by omega);omega
   rw[ay]at ax ab E F;have az:l=4294967295:=by omega
   have g:¬((0:Int)<=e):=by omega
   simp[X,h.DA,r,Z,E,F,ad,y]
   refine ef.of (λs:Nat×List Nat×Nat=>[(0,.slice (some ⟨c,j,none⟩) (i+1) cap),(5,.int .i64 (i:Int)),(7,.int .u64 (q:Int)),(13,.int .u64 (s.2.2:Int)),(135,.slice (some ⟨dt,x,none⟩) i mx),(136,.int .i64 (i:Int)),(137,.int .i64 (s.1:Int))])
    (λs aa=>gd pm c aj aa/\aa.get c=some (.cells (bU (p++s.2.1)) (.n 1))/\c1 s.2.1/\s.2.1.length=w.length/\s.1<=i/\(∀d,s.1<=d->dg s.2.1 d=dg (a.set i l) d)/\s.2.2<=1/\
     bf s.2.1 s.1+s.2.2*4294967296^s.1=bf a s.1+bf b s.1) (λs=>i-s.1) (0,a.set i l,0) (by simp) ⟨C.put r _,by simp,h.set i (by omega),by simp[D],by simp,λ_ _=>rfl,by simp,by simp[bf]⟩ ?_
   rintro⟨k,f,u⟩ _ ⟨L,A,v,M,g,B,o,ag⟩;simp only at A v M g B o ag;have aA:=(L.get dt N).trans T;by_cases ah:k<i
   ·have q:=W k ah;have g1:=qS (p:=p) (w:=f) m (i:=k);have g:=z.dg k;have g:=v.dg k;obtain⟨c,aa⟩:∃s,s=u+(dg f k+dg b k):=⟨_,rfl⟩;have y1:wr .u64 ((u:Int)+wr .u64 (((dg f k:Nat):Int)+((dg b k:Nat):Int)))=(c:Int):=by
     rw[ej (n:=((dg f k:Nat):Int)+((dg b k:Nat):Int)),ej];omega
    obtain⟨j,_⟩:∃d,d=c%4294967296:=⟨_,rfl⟩;have y2:wr .u32 (c:Int)=(j:Int):=by rw[iE];omega
    obtain⟨n,aj⟩:∃g,g=c/4294967296:=⟨_,rfl⟩;have g:((c:Int)).fdiv 4294967296=(n:Int):=by rw[aj];exact xc c
    have o:wr .i64 ((k:Int)+1)=((k+1:Nat):Int):=by rw[b8];simp
    have s:=yB (p:=p) (w:=f) (d:=j) m (i:=k) (by omega);simp[ah,aA,U,q,A,g1,v.oH,z.oH,y1,y2,g,o,s,show k<i+1 by omega,y];refine .of (k+1,f.set k j,n) (by show i-(k+1)<i-k;omega) (by simp) ⟨L.put A _,by simp,v.set k (by omega),by simp[M],by simp;omega,λg o=>?_,by simp;omega,?_⟩
    ·have o:k+1<=g:=o;show dg (f.set k j) g=_;rw[rN];exact B g (by omega)
    ·show bf (f.set k j) (k+1)+n*4294967296^(k+1)=bf a (k+1)+bf b (k+1);have d:dg f k=dg a k:=by rw[B k (bg _),rN]
     rw[mb (by omega),bf,bf,<-d,dH];have i:c=j+4294967296*n:=by omega
     generalize 4294967296^k=P at*
     have d:j*P+n*(P*4294967296)=c*P:=by rw[i];grind
     have d:c*P=u*P+dg f k*P+dg b k*P:=by rw[aa];grind
     omega
   ·obtain rfl:k=i:=by omega
    have c:=qS (p:=p) (w:=f) m (i:=k);have b:dg f k=4294967295:=by rw[B k (bg _),ud (by omega),az]
    rw[b]at c;have b:=jI v k;have n:u=1/\bf f k=R:=by
     rw[<-K]at ag;rcases(by omega:u=0∨u=1) with rfl | rfl
     ·exfalso;omega
     ·exact⟨rfl,by omega⟩
    obtain⟨rfl,P⟩:=n;have g:wr .u32 (4294967295+wr .u32 1)=0:=by decide
    have b:=yB (p:=p) (w:=f) (d:=0) m (i:=k) (by omega);have m:wr .u64 ((q:Int)-1)=(Q:Int):=by rw[ej];omega
    have n:wr .u32 (Q:Int)=(Q:Int):=by rw[iE];omega
    have b:setCells (bU (p++f)) (j+k) [.int .u32 0]=some (bU (p++f.set k 0)):=b;simp[c,A,g,m,n,b,y,yF];refine⟨by rw[H];simp,L.put A _,f.set k 0,rfl,v.set k (by omega),by simp[M],?_,λb _=>?_⟩
    ·rw[mb (by omega),P,I];simp
    ·rw[rN,B b (by omega),rN,t b (by omega)]
  ·have c:q=Q:=by
    rcases af with b | b
    ·exact b
    ·exfalso;have d:(bf a i:Int)+e*((4294967296^i:Nat):Int)=R-V:=by
      rw[G,J,b];simp;grind
     have b:0<=e*((4294967296^i:Nat):Int):=Int.mul_nonneg (by omega) (by omega);omega
   have d:(bf a i:Int)+e*((4294967296^i:Nat):Int)=R:=by rw[G,J,c];grind
   have f:e=0:=by
    rcases(by omega:e=0∨1<=e) with b | b
    ·exact b
    ·exfalso;have g:1*((4294967296^i:Nat):Int)<=e*((4294967296^i:Nat):Int):=CE b (by omega);omega
   rw[f]at d ab E F;have b:wr .u32 (q:Int)=(q:Int):=by rw[iE];omega
   simp[X,h.DA,r,Z,E,F,b,ad,y,yF];refine⟨by rw[c,H];simp,C.put r _,a.set i l,rfl,h.set i (by omega),by simp[D],?_,λa _=>?_⟩
   ·rw[mb (by omega)];have:l=0:=by omega
    rw[this,<-I];omega
   ·rw[rN,t a (by omega)]
theorem S2(hX:c4 X)(M:bR pm H){c dt j n cap:Nat}(N:pm.may c=true)(E:dt≠c){p w b:List Nat}(u:p.length=j)(O:H.get c=some (.cells (bU (p++w)) (.n 1)))
 (e:c1 w) {cn:Value} (s:mj dt H cn b) (hn:n=b.length) (ae:2<=n) (ae:n<1073741824) (ae:n+1<=w.length) (P:j<1073741824) (Q:dg b (n-1)≠0) (hA:bf w (n+1)<4294967296*ay b):
 Call X pm F.oa [.slice (some ⟨c,j,none⟩) (n+1) cap,cn] H λr aa=>r=.int .u32 ((bf w (n+1)/ay b:Nat):Int)/\gd pm c H aa/\∃ao,aa.get c=some (.cells (bU (p++ao)) (.n 1))/\c1 ao/\ao.length=w.length/\
  bf ao (n+1)=bf w (n+1)%ay b/\∀i,n<i->dg ao i=dg w i:=by
 obtain⟨m,rfl⟩:∃m,n=m+2:=⟨n-2,by omega⟩;have f:=s.1;have G:ay b=bf b (m+2):=(gw).symm;have ae:=jI e m;have af:=jI f m
 have g:iJ (bf w (m+2+1)) (ay b) (dg w (m+1)+4294967296*dg w (m+2)) (dg b (m+1)) (dg b m) (dg w m):=
  ⟨⟨4294967296^m,bf w m,bf b m,qN (by omega),TG w m,by rw[G];exact TH b m,ae,af⟩,e.dg m,f.dg m,m' (by simpa using Q),hA⟩
 obtain⟨A,I⟩:∃A,A=bf w (m+2+1):=⟨_,rfl⟩;obtain⟨V,J⟩:∃V,V=ay b:=⟨_,rfl⟩;rw[<-I,<-J]at g|-;obtain⟨ag,mx,_,_,rfl,y,z,B⟩:=s.2;rw[<-hn];have ah:=e.dg m;have ai:=e.dg (m+1);have s:=e.dg (m+2);have s:=f.dg m;have s:=f.dg (m+1);obtain⟨d,ak⟩:∃t,t=dg w (m+1)+4294967296*dg w (m+2):=⟨_,rfl⟩;rw[<-ak]at g;have g1:=qS (p:=p) (w:=w) u (i:=m+1);have g2:=qS (p:=p) (w:=w) u (i:=m+2);have g0:=qS (p:=p) (w:=w) u (i:=m);have R:=B (m+1) (by omega);have e0:=B m (by omega);have S:wr .i64 ((m:Int)+2-1)=((m+1:Nat):Int):=by rw[b8];omega
 have x2:wr .i64 (m:Int)=(m:Int):=b8;refine Call.has hX.oa rfl ?_;show wp X pm _ _ _ _ (yF pm c H p w (m+2) A V);simp[-mM];refine cy.tP M rfl rfl rfl ?_;obtain⟨t,ht⟩:∃t,t=dg w (m+2)*4294967296:=⟨_,rfl⟩;have x3:wr .u64 (((dg w (m+2):Nat):Int)*4294967296)=(t:Int):=by rw[ej];omega
 have T:=sj (a:=t) (b:=dg w (m+1));have s:t ||| dg w (m+1)=d:=by
  have:=si (a:=dg w (m+2)) (i:=32) (b:=dg w (m+1)) (by simpa using ai);simp only[Nat.reducePow]at this;rw[ht];omega
 rw[s]at T;have s:dg b (m+1)≠0:=by simpa using Q
 have U:=A4 .u64 (d:Int) ((dg b (m+1):Nat):Int) (by omega);obtain⟨h,C⟩:∃q,q=d/dg b (m+1):=⟨_,rfl⟩;have s:((d:Int)).tdiv ((dg b (m+1):Nat):Int)=(h:Int):=by rw[C];rfl
 have Q:h<=d:=by rw[C];exact kk _ _
 rw[s,ej]at U;obtain⟨k,W⟩:∃q,q=min h 4294967295:=⟨_,rfl⟩;have x7:(if 4294967295<h then(4294967295:Int) else(h:Int))=(k:Int):=by rw[W];split<;>omega
 have s:k*dg b (m+1)<=d:=by
  have a:k*dg b (m+1)<=h*dg b (m+1):=e8 _ (by omega);have a:h*dg b (m+1)<=d:=by rw[C];exact Nat.div_mul_le_self _ _
  omega
 obtain⟨l,al⟩:∃l,l=k*dg b (m+1):=⟨_,rfl⟩;have x8:wr .u64 ((k:Int)*((dg b (m+1):Nat):Int))=(l:Int):=by
  have a:(k:Int)*((dg b (m+1):Nat):Int)=(l:Int):=by rw[al];simp
  rw[a];exact ej
 obtain⟨Y,_⟩:∃r,r=d-l:=⟨_,rfl⟩;have h:wr .u64 ((d:Int)-(l:Int))=(Y:Int):=by rw[ej];omega
 simp[-mM,O,g1,g2,e.oH,S,x3,T,R,y,z,f.oH,U,x7,x8,h];have an:∀q:Nat,q<=4294967295->q*dg b m<=4294967295*4294967295:=λq h=>gK h (by omega)
 refine ef.of (λs:Nat×Nat=>[(0,.slice (some ⟨c,j,none⟩) (m+2+1) cap),(1,.slice (some ⟨dt,ag,none⟩) (m+2) mx),(5,.int .i64 ((m:Int)+2)),(7,.int .u64 (s.1:Int)),(8,.int .u64 (s.2:Int))])
  (λs aa=>gd pm c H aa/\aa.get c=H.get c/\A/V<=s.1/\s.1<=4294967295/\s.2+s.1*dg b (m+1)=d) (λs=>s.1) (k,Y) (by simp) ⟨(gd.refl M c).up _,rfl,by have:=g.start;simp only;rw[<-C,<-W]at this;exact this,by simp;omega,by simp only;omega⟩ ?_
 rintro⟨q,r⟩ _ ⟨v,Z,D,o,x⟩;simp only at D o x;simp[-mM];refine cy.tP v.ok rfl rfl rfl ?_;have aq:=(v.get dt E).trans y;have K:=Z.trans O;by_cases L:¬4294967295<r
 ·have F:wr .u64 ((r:Int)*4294967296)=((r*4294967296:Nat):Int):=by rw[ej];omega
  obtain⟨c,X⟩:∃t,t=r*4294967296:=⟨_,rfl⟩;rw[<-X]at F;have aa:=sj (a:=c) (b:=dg w m);have ao:c ||| dg w m=c+dg w m:=by
   have:=si (a:=r) (i:=32) (b:=dg w m) (by simpa using ah);simp only[Nat.reducePow]at this;rw[X];omega
  obtain⟨u2,ar⟩:∃h,h=c+dg w m:=⟨_,rfl⟩;rw[ao,<-ar]at aa;obtain⟨p,j⟩:∃c,c=q*dg b m:=⟨_,rfl⟩;have c:=an q o;have c:wr .u64 ((q:Int)*((dg b m:Nat):Int))=(p:Int):=by
   have a:(q:Int)*((dg b m:Nat):Int)=(p:Int):=by rw[j];simp
   rw[a];exact ej
  simp[-mM,show m<m+2+1 by omega,L,aq,z,K,g0,e0,R,S,x2,F,aa,c,e.oH,f.oH];by_cases ab:u2<p
  ·have w:=g.dec D x (by rw[<-j];omega);have c:0<q:=by rcases uZ q with i | i;subst i;simp at j;omega;exact i
   have H:wr .u64 ((q:Int)-1)=((q-1:Nat):Int):=by rw[ej];omega
   have ad:wr .u64 ((r:Int)+((dg b (m+1):Nat):Int))=((r+dg b (m+1):Nat):Int):=by rw[ej];omega
   obtain⟨a,aj⟩:∃a,a=q-1:=⟨_,rfl⟩;rw[<-aj]at H w;obtain⟨n,au⟩:∃n,n=r+dg b (m+1):=⟨_,rfl⟩;rw[<-au]at ad;simp[-mM,ab,H,ad];refine⟨.of (a,n) (by simp;omega) (by simp) ⟨v.up _,Z,w,by simp;omega,?_⟩,λi=>by omega⟩;show n+a*dg b (m+1)=d;have:q=a+1:=by omega
   subst this;rw[om]at x;omega
  ·simp[-mM,ab];intro _;exact Lh (aj:=H) (b:=b) (cap:=cap) (mx:=mx) (v.up _) N E u K e f y z (λi _=>B i (by omega)) (by omega) (by omega) P I (by rw[J,G]) g.pos D (g.stop o x (.inr (by rw[<-j];omega))) o (by simp) (by simp) (by simp) (by simp)
 ·have L:4294967295<r:=by omega
  simp[-mM,L];exact Lh (aj:=H) (b:=b) (cap:=cap) (mx:=mx) (v.up _) N E u K e f y z (λi _=>B i (by omega)) (by omega) (by omega) P I (by rw[J,G]) g.pos D (g.stop o x (.inl (by omega))) o (by simp) (by simp) (by simp) (by simp)
theorem dP.nat{v:Value}{al:List Nat}(h:dP H v (strip al)):bV H v (ay al):=⟨⟨_,h,sY al,j' al⟩⟩
theorem dP.block{v:Value}{al:List Nat}(h:dP H v al)(ez:al≠[]):∃b x s,v=.pointer (some ⟨b,0,none⟩)/\H.get b=some x/\rowOf x=some [s]/\cE H s al:=by
 rcases h with⟨_,h⟩ | h
 ·exact absurd h ez
 ·obtain⟨b,x,s,a,c,d,e⟩:=h;exact⟨b,x,s,a,c,d.1,e⟩
def nP(pm:Perm)(H:ad)(a b:List Nat):b5:=λx l aa=>(x=dS.normal∨x=dS.ret)/\∃c,hU l aa [.slot 4,.slot 5,.slot 6]=some c/\
 (bh pm H aa/\(ay b=0/\f' c=.tuple #[.pointer none,.pointer none,.bool false]∨ay b≠0/\∃q m,f' c=.tuple #[q,m,.bool true]/\bV aa q (ay a/ay b)/\bV aa m (ay a%ay b)))
end
theorem xF{b:List Nat}(a:strip b=b):ay b=0↔b=[]:=by
 constructor
 ·intro h;have:=pk a (k:=0) (by rw[h];simp);exact List.length_eq_zero_iff.1 (by omega)
 ·rintro rfl;rfl
section
variable[bq]
theorem _root_.Go.Dam.bR.perm{dC:Perm}(h:bR dC H)(a:pm.num=none)(g':pm.ah<=H.next):bR pm H:=⟨a,g',h.wf,h.new⟩
theorem _root_.Go.Dam.bh.perm{dC:Perm}(h:bh dC H aa)(a:pm.num=none)(g':pm.ah<=H.next):bh pm H aa:=⟨h.ok.perm a (aY g' h.next),h.next,h.get⟩
theorem _root_.Go.Dam.bh.RY{c:Nat}(d:bR pm H){n:Nat}(e:H.next<=c)(f:c<H.next+n)(x:bk):bh pm H ((H.up n).put c x) where
 ok:=⟨d.num,aY d.ah (e9 _ _),λb a=>by
  have a:H.next+n<=b:=a;rw[a7,qX];exact d.wf b (by omega),λb a=>d.new b (aY (e9 _ _) a)⟩
 next:=e9 _ _
 get:=λb a=>by rw[a7,qX]
theorem cE.ei{v:Value}{al:List Nat}(h:cE H v al){k:List Value->Nat->aQ}:(ei 1 v k).run pm H=(k (bU al) al.length).run pm H:=by
 obtain⟨_,⟨rfl,rfl⟩ | ⟨_,_,_,_,_,rfl,a,b,c,d,_⟩⟩:=h
 ·rfl
 ·simp only[Dam.ei,aQ.run,a,b.row,Nat.mul_one,bx,cg];rw[ix d];simp only[cond_true,c]
theorem cE.parts{v:Value}{al:List Nat}(h:cE H v al)(ez:al≠[]):∃c off cap y row,v=.slice (some ⟨c,off,none⟩) al.length cap/\H.get c=some y/\rowOf y=some row/\bx row off al.length=some (bU al):=by
 obtain⟨_,⟨rfl,rfl⟩ | ⟨c,off,cap,y,row,rfl,a,b,d,e,_⟩⟩:=h
 ·exact absurd rfl ez
 ·refine⟨c,off,cap,y,row,rfl,a,b.row,?_⟩;simp only[bx,cg];rw[ix e];simp only[cond_true,d]
end
theorem TJ(al:List Nat):(bU al).all c6=true:=by simp[bU]
theorem MU{pm:Perm}{c off len cap bytes n:Nat}{cs:List Value}{new:List Value}{z:cz}(h:H.get c=some (.cells cs z))(a:pm.may c=true)(b:new.length=n)(ez:n≠0)(d:len+n<=cap)(g':off+len+n<=cs.length)(e:new.all c6=true):
 (eN 1 bytes (.slice (some ⟨c,off,none⟩) len cap) new n).run pm H=some (.slice (some ⟨c,off,none⟩) (len+n) cap,H.put c (.cells (cs.take (off+len)++(new++cs.drop (off+len+n))) z)):=by
 subst b;simp only[eN,cC,cg,ez,d,decide_false,decide_true,cond_false,cond_true,putRow,aQ.run,h,e,setCells,Nat.mul_one];rw[ix g'];simp only[cond_true,aQ.run,a]
theorem MV{pm:Perm}{c off len cap bytes n:Nat}{cs:List Value}{new:List Value}{z:cz}(h:H.get c=some (.cells cs z))(a:pm.may c=true)(b:new.length=n)(ez:n≠0)(d:len+n<=cap)(g':off+len+n<=cs.length)(e:new.all c6=true):
 (eN 1 bytes (.slice (some ⟨c,off,none⟩) len cap) new n).runT pm H=some (.slice (some ⟨c,off,none⟩) (len+n) cap,H.put c (.cells (cs.take (off+len)++(new++cs.drop (off+len+n))) z),[c],[c]):=by
 subst b;simp only[eN,cC,cg,ez,d,decide_false,decide_true,cond_false,cond_true,putRow,aQ.runT,h,e,setCells,Nat.mul_one];rw[ix g'];simp only[cond_true,aQ.runT,a]
theorem M'{x:Nat}(h:x≠0):0<ai x:=by unfold ai;rw[aC h];omega
theorem M9{x k:Nat}(h:x<2^k):ai x<=k:=by
 by_cases a:x=0
 ·subst a;simp[ai]
 ·have b:=wv a;have:=(ov (by omega:1<2)).1 (cV b h);omega
section
variable[bq]
structure gO(pm:Perm)(c:Nat)(H aa:ad):Prop where
 ok:bR pm aa
 next:H.next<=aa.next
 get:∀x,x<H.next->x≠c->aa.get x=H.get x
theorem gO.refl(a:bR pm H)(c:Nat):gO pm c H H:=⟨a,bg _,λ_ _ _=>rfl⟩
theorem gO.u{c:Nat}{a:ad}(h:gO pm c H aa)(g:bh pm aa a):gO pm c H a:=⟨g.ok,aY h.next g.next,λx a b=>(g.get x (eC a h.next)).trans (h.get x a b)⟩
theorem gO.only{c:Nat}{a:ad}(h:gO pm c H aa)(g:gd pm c aa a):gO pm c H a:=⟨g.ok,aY h.next g.next,λx b a=>(g.get x a).trans (h.get x b a)⟩
theorem gO.put{c d:Nat}(h:gO pm c H aa){y:bk}(e:aa.get d=some y)(f:d=c∨H.next<=d)(x:bk):gO pm c H (aa.put d x) where
 ok:=⟨h.ok.num,h.ok.ah,λb a=>by have a:aa.next<=b:=a;have:=h.ok.lt e;rw[a7];exact h.ok.wf b a,λb a=>h.ok.new b a⟩
 next:=h.next
 get:=λz c d=>by rw[a7];exact h.get z c d
theorem gO.to{c:Nat}{aj:ad}(h:gO pm c H aa)(k:bh pm aj H)(a:aj.next<=c):bh pm aj aa:=⟨h.ok,aY k.next h.next,λb a=>(h.get b (eC a k.next) (by omega)).trans (k.get b a)⟩
theorem mj.Ic{dt c:Nat}{v:Value}{al:List Nat}(h:mj dt H v al)(b:bR pm H)(d:dt≠c)(k:gO pm c H aa):mj dt aa v al:=by
 obtain⟨c,e,f,y,g,i,a,j⟩:=h;exact⟨c,e,f,y,g,i,(k.get dt (b.lt a) d).trans a,j⟩
end
theorem fa{W:List Nat}{L:Nat}(a:L<W.length)(h:dg W L=0):bU W=(bU W).take L++([.int .u32 0]++(bU W).drop (L+1)):=by
 have:W.set L 0=W:=by
  apply nb;intro i;by_cases b:L=i
  ·subst b;simp[dg,a]at h;simp[a,h]
  ·simp[b]
 have b:=setCells_one (cs:=bU W) (i:=L) (v:=.int .u32 ((0:Nat):Int)) (by simpa using a);rw[nq,this]at b;have a:setCells (bU W) L [.int .u32 0]=some (bU W):=b;simp only[setCells,cg,List.length_singleton]at a;rw[ix (by rw[np];omega)]at a;simp only[cond_true,ax]at a;exact a.symm
theorem QN{w:List Nat}{k:Nat}(h:k<=w.length):ay (w.take k)=bf w k:=by
 have a:=xE (w.take k) (w.drop k);rw[uY]at a;have b:=sd w k;rw[k4,pB h]at a;unfold cw at b;omega
theorem OR(p w:List Nat):cw (p++w) p.length=ay w:=by simp[cw]
section
variable[bq]
theorem Mc(z:c4 X){aj:ad}(U:bh pm aj H){c dt n m Bh cc:Nat}(ak:aj.next<=c)(an:bq.s c){W a b b6:List Nat}{cn:Value}(Y:H.get c=some (.cells (bU W) (.n 1)))(ao:W.length=n+2)(aJ:Bh=n+2)(Z:c1 W)(ar:pm.may c=true)
 (A:mj dt H cn b6) (ab:dt≠c) (s:b6.length=m+2) (au:strip b6=b6) (G:ay W=ay a*2^cc) (B:ay b6=ay b*2^cc) (aJ:m+2<=n) (hn:n<268435456) (ad:ay b≠0) (av:4294967296^(m+1)<=ay b)
 (aJ:cc<32) (aw:ay a<4294967296^n) {l:bb} {v0:Value} (_:aK 0 l=some v0) (I:aK 7 l=some cn) (ax:aK 10 l=some (.int .i64 (cc:Int))) (ae:aK 11 l=some (.slice (some ⟨c,0,none⟩) (n+1) Bh)):wp X pm (.code r') l H [] (nP pm aj a b):=by
 have f:=U.ok;obtain⟨af,ag,_,_,rfl,_,_,_⟩:=A.2;rw[s]at I A;have az:c<H.next:=f.lt Y;obtain⟨K,_⟩:∃K,K=n+1-(m+2):=⟨_,rfl⟩;have x1:wr .i64 ((n:Int)+1-((m:Int)+2))=(K:Int):=by rw[b8];omega
 obtain⟨V,d⟩:∃V,V=ay b6:=⟨_,rfl⟩;have ah:0<V:=by rw[d,B];exact pC (m' ad) (hj _)
 have t:=A.1;have J:=hj cc;have ai:V<4294967296^(m+2):=by rw[d,<-s];exact lO t
 have aJ:4294967296^(m+1)<=V:=by
  have:=sc au (by rintro rfl;simp at s);rwa [s,show m+2-1=m+1 by omega,<-d]at this
 have aA:dg b6 (m+2-1)≠0:=by
  intro h;have a:ay b6=bf b6 (m+1):=by rw[<-gw (al:=b6) (i:=m+1+1),bf];simp at h;simp[h]
  have:=jI t (m+1);omega
 simp[-sa,I,ae,x1];rw[lK f (by omega) (by omega)];simp[-sa];have kq:gO pm c H (H.new (.cells (times [.int .u32 0] K) (.n 1))):=(gO.refl f c).u ((bh.refl f).new _);have au:wr .i64 ((K:Int)-1)=(K:Int)-1:=b8
 refine ef.of (λt:Nat×List Nat×List Nat=>[(7,.slice (some ⟨dt,af,none⟩) (m+2) ag),(10,.int .i64 (cc:Int)),(11,.slice (some ⟨c,0,none⟩) (n+1) Bh),(12,.slice (some ⟨H.next,0,none⟩) K K),(13,.int .i64 ((t.1:Int)-1))])
  (λt aa=>gO pm c H aa/\aa.get c=some (.cells (bU t.2.1) (.n 1))/\aa.get H.next=some (.cells (bU t.2.2) (.n 1))/\c1 t.2.1/\t.2.1.length=n+2/\c1 t.2.2/\t.2.2.length=K/\t.1<=K/\
   cw t.2.1 t.1<V/\ay W=ay t.2.1+cw t.2.2 t.1*(4294967296^t.1*V)) (λt=>t.1) (K,W,List.replicate K 0) (by simp[I,ax,ae,au]) ⟨kq,by rw[qk az];exact Y,by rw[s6];simp,Z,ao,IS K,by simp,by simp,?_,?_⟩ ?_
 ·show cw W K<V;rw[ur W K Z,G];refine ox ?_;refine eC (x0 aw J) ?_;have a:4294967296^n=4294967296^K*4294967296^(m+1):=by rw[<-fH];congr 1;omega
  rw[a,jC];refine lX _ ?_;rw[d,B];exact e8 _ av
 ·show ay W=ay W+cw (List.replicate K 0) K*_;rw[qp (h:=by simp)];simp
 rintro⟨k,w,e⟩ L ⟨o,C,M,q,g,N,D,t,x,r⟩;simp only at C M q g N D t x r
 cases k with
 | zero=>
   simp;rw[pj]at x;rw[pj]at r;simp only[Nat.pow_zero,Nat.one_mul]at r;have l:ay e=ay a/ay b:=by
    have:ay W/V=ay e:=by
     rw[r,Nat.add_mul_div_right _ _ ah,qL x];omega
    rw[<-this,G,d,B,Nat.mul_div_mul_right _ _ J]
   have p:ay w=ay a%ay b*2^cc:=by
    have:ay W%V=ay w:=by rw[r,Nat.add_mul_mod_self_right,k0 x]
    rw[<-this,G,d,B,Nat.mul_mod_mul_right]
   have u:ay (w.take (n+1))=ay w:=by
    rw[QN (by omega)];have a:=sd w (n+1);have b:cw w (n+1)=0:=by
     rw[ur w _ q];refine qL ?_;have:4294967296^(m+2)<=4294967296^(n+1):=fX (by omega) (by omega);exact eC (Nat.lt_trans x ai) this
    rw[b,Nat.mul_zero,Nat.add_zero]at a;exact a.symm
   have v:cE L (.slice (some ⟨c,0,none⟩) (n+1) Bh) (w.take (n+1)):=⟨λt x=>q t (sH x),.inr ⟨c,0,Bh,_,_,by simp[g],C,.inl rfl,by simp[bU,List.map_take,g],by simp[g],by simp[g];omega,an⟩⟩;refine aq.of (ka z.dp o.ok (pa M N D (f.new _ (bg _))) (by omega)) ?_;rintro t _ ⟨h,y⟩;simp;refine aq.of (ka z.dp h.ok (v.u o.ok h) (by simp;omega)) ?_;rintro _ _ ⟨i,v⟩;simp;refine aq.of (Hg z i.ok v (cV (Di _) (by simp;omega)) (k:=cc) (by omega)) ?_;rintro v _ ⟨j,E,F,_,H,_⟩;simp[nP,ad];refine⟨(o.to U ak).trans (h.trans (i.trans j)),t,v,⟨rfl,rfl⟩,?_,?_⟩
   ·rw[<-l];exact(y.u h.ok (i.trans j)).nat
   ·have:ay a%ay b=ay E:=by rw[H,j',u,p,Nat.mul_div_cancel _ J]
    rw[this];exact F.nat
 | succ k=>
   obtain⟨h,_⟩:∃h,h=k+(m+2)+1:=⟨_,rfl⟩;have y1:wr .i64 (wr .i64 ((k:Int)+((m:Int)+2))+1)=(h:Int):=by rw[b8 (n:=(k:Int)+((m:Int)+2)),b8];omega
   have O:=Ld (pm:=pm) (H:=L) (bZ:=1) (l:=k) (h:=h) (m:=Bh) (cap:=Bh) (off:=0) C (.inl rfl) (by omega) (by omega) (bg _);simp only[Nat.zero_add,Nat.mul_one]at O;have t:h-k=m+2+1:=by omega
   rw[t]at O;simp[-sa,y1,O];obtain⟨u,E⟩:∃u,u=w.drop k:=⟨_,rfl⟩;have X:w.take k++u=w:=by rw[E];exact uY k w
   have y:(w.take k).length=k:=by simp[g];omega
   have t:c1 u:=by rw[E];exact λF P=>q F (x8 P)
   have al:u.length=n+2-k:=by rw[E,x6,g]
   have g:ay u=dg w k+4294967296*cw w (k+1):=by rw[E];exact j1 w k
   have g:=q.dg k;have R:ay u<4294967296*V:=by omega
   have S:cw u (m+2+1)=0:=by
    rw[ur u _ t];refine qL (eC R ?_);rw[dH,dW];exact e8 _ (CD ai)
   have g:bf u (m+2+1)=ay u:=by
    have:=sd u (m+2+1);rw[S,Nat.mul_zero,Nat.add_zero]at this;exact this.symm
   have aB:H.next≠c:=by omega
   have x:=S2 z (pm:=pm) (H:=L) o.ok (c:=c) (dt:=dt) (j:=k) (n:=m+2) (cap:=Bh-k) ar ab (p:=w.take k) (w:=u) (b:=b6) (cn:=.slice (some ⟨dt,af,none⟩) (m+2) ag) y (by rw[X];exact C) t (A.Ic f ab o) s.symm (by omega) (by omega) (by omega) (by omega) aA (by rw[g,<-d];exact R);rw[g,<-d]at x;refine aq.of x ?_;rintro _ H2 ⟨rfl,hO,a,aC,aD,aE,aF,aG⟩;obtain⟨Q,T⟩:∃Q,Q=ay u/V:=⟨_,rfl⟩;have aH:Q<4294967296:=by rw[T];exact ox (by rw[dW];exact R)
   rw[<-T];have aa:H2.get H.next=some (.cells (bU e) (.n 1)):=(hO.get _ aB).trans M;have d:=setCells_one (cs:=bU e) (i:=k) (v:=.int .u32 (Q:Int)) (by rw[np,D];omega);rw[nq]at d;have g:pm.may H.next=true:=f.may (bg _);simp[-sa,show k<K by omega,aa,d,g];have aI:cw a (m+2+1)=0:=by
    have:a.drop (m+2+1)=u.drop (m+2+1):=by
     apply nb;intro i;have b:=aG (m+2+1+i) (by omega);simp only[ki];unfold dg at b
     rcases sC (m+2+1+i) u.length with c | c
     ·have d:m+2+1+i<a.length:=by omega
      simp only[eu c,eu d,jf]at b|-;rw[b]
     ·rw[gr c,gr (by omega)]
    unfold cw at S|-;rw[this];exact S
   have aj:ay a=ay u%V:=by
    have:=sd a (m+2+1);rw[aI,Nat.mul_zero,Nat.add_zero,aF]at this;exact this
   have d:k<K:=by omega
   refine .of (k,w.take k++a,e.set k Q) (by simp) (by simp;rw[b8]) ⟨(o.only hO).put aa (.inr (bg _)) _,?_,by simp,?_,?_,N.set k aH,by simp[D],by simp;omega,?_,?_⟩
   ·show(H2.put H.next _).get c=_;rw[a7];exact aC
   ·intro F P
    rcases l2.1 P with h | h
    ·exact q F (sH h)
    ·exact aD F h
   ·show(w.take k++a).length=n+2;rw[ot,y,aE,al];omega
   ·show cw (w.take k++a) k<V;have:=OR (w.take k) a;rw[y]at this;rw[this,aj];exact kY _ ah
   ·show ay W=ay (w.take k++a)+cw (e.set k Q) k*(4294967296^k*V);rw[r,xE,y,aj,j1 (e.set k Q) k,ud (by omega),H3 (by omega),dH];have a:ay w=ay (w.take k)+4294967296^k*ay u:=by
     have:=xE (w.take k) u;rw[X,y]at this;exact this
    have b:V*Q+ay u%V=ay u:=by rw[T];exact qM _ _
    rw[a];generalize ay u%V=R at*
    rw[<-b];generalize 4294967296^k=P;generalize cw e (k+1)=Z;generalize ay (w.take k)=T;grind
theorem Me(x:c4 X){aj:ad}(j:bh pm aj H){c dt gf n m Bh cc f:Nat}(k:aj.next<=c)(y:bq.s c){W a b b6:List Nat}{cn:Value}{p8:bk}{A:Option Addr}{B:Nat}(o:H.get c=some (.cells (bU W) (.n 1)))(C:W.length=n+2)(D:Bh=n+2)(E:c1 W)
 (p:H.get gf=some p8) (q:rowOf p8=some [.slice A n B]) (F:gf≠c) (r:mj dt H cn b6) (s:dt≠c) (h:b6.length=m+2) (G:strip b6=b6) (I:ay W=ay a*2^cc) (J:ay b6=ay b*2^cc) (K:m+2<=n) (M:n<268435456) (N:ay b≠0) (O:4294967296^(m+1)<=ay b)
 (P:f<=n+1) (Q:∀i,f<=i->dg W i=0) (t:pm.may c=true) (R:cc<32) (S:ay a<4294967296^n)
 {l:bb} (T:aK 0 l=some (.pointer (some ⟨gf,0,none⟩))) (u:aK 7 l=some cn) (U:aK 10 l=some (.int .i64 (cc:Int))) (V:aK 11 l=some (.slice (some ⟨c,0,none⟩) f Bh)):wp X pm (.code n8) l H [] (nP pm aj a b):=by
 have e:=j.ok;obtain⟨Y,Z,_,_,rfl,_,_,_⟩:=r.2;rw[h]at u;have A:c<H.next:=e.lt o;simp[-r']
 refine ef.of (λL:Nat=>[(0,.pointer (some ⟨gf,0,none⟩)),(7,.slice (some ⟨dt,Y,none⟩) (m+2) Z),(10,.int .i64 (cc:Int)),(11,.slice (some ⟨c,0,none⟩) L Bh)])
  (λL aa=>gO pm c H aa/\aa.get c=some (.cells (bU W) (.n 1))/\f<=L/\L<=n+1) (λL=>n+1-L) f (by simp[T,u,U,V]) ⟨gO.refl e c,o,bg _,P⟩ ?_
 rintro L f ⟨d,g,ab,_⟩;have v:=(d.get gf (e.lt p) F).trans p;by_cases w:L<=n
 ·have i:f.get f.next=none:=d.ok.wf _ (bg _);have a:c<f.next:=d.ok.lt g;have b:=MU (H:=f.new (.cells [.int .u32 0] (.n 1))) (bytes:=4) (off:=0) (len:=L) (cap:=Bh) (n:=1) (c:=c) (pm:=pm) (cs:=bU W) (new:=[.int .u32 0]) (z:=.n 1) (by rw[qk a];exact g) t rfl (by omega) (by omega) (by rw[np];omega) rfl;rw[Nat.zero_add,<-fa (by omega) (Q L ab)]at b;have f:((L:Int)<=(n:Int))=True:=by simp;exact w
  simp[-r',v,q,w,e.make,e.pick,bx,b];refine⟨.of (L+1) (by simp;omega) (by simp) ⟨?_,by simp,by omega,by omega⟩,λ_=>by omega⟩;exact(d.u ((bh.refl d.ok).new _)).put (by rw[qk a];exact g) (.inl rfl) _
 ·obtain rfl:L=n+1:=by omega
  simp[-r',v,q];refine⟨λ_=>by omega,λ_=>?_⟩;exact Mc x (d.to j k) k y g C D E t (r.Ic e s d) s h G I J K M N O R S (v0:=.pointer (some ⟨gf,0,none⟩)) (by simp) (by simp[h]) (by simp) (by simp)
theorem cE.e3{v:Value}{al:List Nat}(h:cE H v al)(ez:al≠[]):∃dt,mj dt H v al:=by
 obtain⟨a,⟨rfl,rfl⟩ | ⟨c,b,d,y,e,rfl,f,g,i,_,_⟩⟩:=h
 ·exact absurd rfl ez
 ·exact⟨c,a,b,d,y,e,rfl,f,g.row,λ_ a=>by rw[cE.cell i a];simp[dg,a]⟩
end
theorem Jo{al:List Nat}(h:∀d∈al,d=0):ay al=0:=by
 induction al with
 | nil=>rfl
 | cons d al ih=>simp[ay,h d (.head _),ih λe a=>h e (.tail _ a)]
section
variable[bq]
theorem Mf(G:c4 X)(V:bR pm H){v w:Value}{a b:List Nat}(eA:dP H v a)(hb:dP H w b)(ak:strip a=a)(A:strip b=b)(la:a.length<268435456)(lb:b.length<268435456)(ak:2<=b.length)(aO:ay b<=ay a)
 {l:bb} {ak:Option Addr} {bc:Nat} (an:cE H (.slice ak b.length bc) b) (Y:aK 0 l=some v) (l1:aK 1 l=some w) (l7:aK 7 l=some (.slice ak b.length bc)):wp X pm (.code mI) l H [] (nP pm H a b):=by
 obtain⟨o,q,aP⟩:=pm;obtain rfl:aP=none:=V.num;have Z:=eA.G;have aa:=hb.G;obtain⟨m,t⟩:∃m,b.length=m+2:=⟨b.length-2,by omega⟩;obtain⟨n,y⟩:∃n,n=a.length:=⟨_,rfl⟩;rw[<-y]at la;obtain⟨dt,_,_,_,rfl,f1,f2,f3⟩:=an.at rfl (i:=m+1) (by omega);rw[t]at l7 an;have aQ:ay b≠0:=λh=>by have:=(xF A).1 h;rw[this]at t;simp at t
 have ak:b.length<=n:=by rw[y];exact pk A (cV aO (lO Z))
 have d0:=aa.dg (m+1);have ao:ay b=bf b (m+1)+dg b (m+1)*4294967296^(m+1):=by rw[<-gw (al:=b) (i:=m+1+1),bf]
 have ak:=jI aa (m+1);have aR:dg b (m+1)≠0:=by
  intro a;rw[a,Nat.zero_mul,Nat.add_zero]at ao;have:=pk A (k:=m+1) (by omega);omega
 obtain⟨L,I⟩:∃L,L=ai (dg b (m+1)):=⟨_,rfl⟩;have ak:L<=32:=by rw[I];exact M9 (by simpa using d0)
 have ak:0<L:=by rw[I];exact M' aR
 have aS:dg b (m+1)<2^L:=by rw[I];exact zI _
 have x1:wr .i64 ((m:Int)+2-1)=((m+1:Nat):Int):=by rw[b8];omega
 have ak:wr .i64 ((m:Int)+1)=((m+1:Nat):Int):=by rw[b8];omega
 simp[-n8,l7,x1,f1,f2,f3,aa.oH];refine aq.of (zC G (x:=dg b (m+1)) (by omega)) ?_;rintro _ H ⟨rfl,rfl⟩;rw[<-I];obtain⟨f,_⟩:∃I,I=32-L:=⟨_,rfl⟩;have I:wr .i64 (32-(L:Int))=(f:Int):=by rw[b8];omega
 simp[-n8,l1,I];refine aq.of (yS G V hb (by omega) (k:=f) (by omega)) ?_;rintro _ d ⟨g,I,ar,aT,aU,_⟩;obtain⟨b6,J⟩:∃z,z=strip I:=⟨_,rfl⟩;rw[<-J]at ar;have au:strip b6=b6:=by rw[J];exact sY _
 have aV:c1 b6:=by rw[J];exact IT aT
 have av:ay b6=ay b*2^f:=by rw[J,j',aU]
 have I:2^L*2^f=4294967296:=by rw[<-fH,show L+f=32 by omega]
 have B:=hj f;have K:b6.length=m+2:=by
  apply Nat.le_antisymm
  ·refine pk au ?_;have a:4294967296^(m+2)=4294967296^(m+1)*2^L*2^f:=by rw[dH,jC,I]
   rw[av,a];refine x0 ?_ B;rw[ao,dW (4294967296^(m+1))];have:(dg b (m+1)+1)*4294967296^(m+1)<=2^L*4294967296^(m+1):=e8 _ aS;rw[om]at this;omega
  ·rcases sC b6.length (m+2) with h | h
   ·exfalso;have c:=lO aV;have c:4294967296^b6.length<=4294967296^(m+1):=fX (by omega) (by omega);have a:=sc A (by rintro rfl;simp at t);rw[t,show m+2-1=m+1 by omega]at a;have a:ay b*1<=ay b*2^f:=lX _ B;omega
   ·exact h
 obtain⟨_,_,aw,rfl,aW,aX,aY⟩:=ar.block (by intro h;rw[h]at K;simp at K);have ax:=eA.u V g;have az:a≠[]:=by rintro rfl;simp at y;omega
 obtain⟨gf,p8,_,rfl,C,M,aA⟩:=ax.block az;obtain⟨_,_,_,_,_,rfl,_,_,_⟩:=aA.parts az;rw[<-y]at aA M;simp[-n8,aW,aX];have aB:∀k,d.get (d.next+k)=none:=λk=>g.ok.wf _ (by omega);have aZ:d.get d.next=none:=g.ok.wf _ (by omega);have ab:gf<d.next:=g.ok.lt C;have aC:wr .i64 ((n:Int)+2)=((n+2:Nat):Int):=by rw[b8];omega
 obtain⟨p,aD⟩:∃p,p=n+2:=⟨_,rfl⟩;rw[<-aD]at aC;have a1:=QD (H:=d.up 15) (z:=[.int .u32 0]) (bytes:=4) (l:=0) (c:=p) (ah:=o) (b:=d.next+6) (fx:=q) (by omega) (by omega) (by omega);obtain⟨c,_⟩:∃c,c=d.next+6:=⟨_,rfl⟩;refine cy.of g.ok.ah rfl ?_;have r:bh ⟨o,q,none⟩ d ((d.up 15).put (d.next+6) (.cells (times [.int .u32 0] p) (.n 1))):=bh.RY g.ok (by omega) (by omega) _;simp[-n8,b7,Y,C,M,aB,aZ,aC,a1,ad.O];obtain⟨s,N⟩:∃s,s=(d.up 15).put (d.next+6) (.cells (times [.int .u32 0] p) (.n 1)):=⟨_,rfl⟩;have I:s.next=d.next+15:=by rw[N];rfl
 have a6:s.get (d.next+6)=some (.cells (times [.int .u32 0] p) (.n 1)):=by rw[N];simp
 rw[<-N]at r|-;have aE:∀k,k≠6->s.get (d.next+k)=none:=λk hk=>by rw[N,a7];exact aB k
 have a8:=ax.u g.ok r;refine fL.of (aE 9 (by omega)) (by simp) (by simp) rfl (yS G (pm:=⟨s.next,_,none⟩) ⟨rfl,bg _,r.ok.wf,r.ok.new⟩ a8 (by omega) (k:=f) (by omega)) ?_;rintro _ u ⟨D,I,aF,a_,ba,_⟩;obtain⟨e,O⟩:∃z,z=strip I:=⟨_,rfl⟩;rw[<-O]at aF;have I:strip e=e:=by rw[O];exact sY _
 have bd:c1 e:=by rw[O];exact IT a_
 have P:ay e=ay a*2^f:=by rw[O,j',ba]
 have bj:e.length<=n+1:=by
  refine pk I ?_;rw[P,dH];have a:=lO Z;rw[<-y]at a;have b:2^f<=4294967296:=fX (n:=2) (i:=f) (j:=32) (by omega) (by omega);exact eC (x0 a B) (lX _ b)
 have ae:e≠[]:=by
  intro b;rw[b]at P;have b:=pC (show 0<ay a by omega) B;simp[ay]at P;omega
 obtain⟨rb,rx,_,rfl,Q,E,bk⟩:=aF.block ae;obtain⟨dc,_,_,dy,_,rfl,R,af,aG⟩:=bk.parts ae;have bl:bh ⟨o,q,none⟩ s u:=D.perm rfl r.ok.ah;have aH:∀k,k≠6->k<15->u.get (d.next+k)=none:=λk hk _=>(D.get _ (by omega)).trans (aE k hk);have S:u.get (d.next+6)=some (.cells (times [.int .u32 0] p) (.n 1)):=(D.get _ (by omega)).trans a6;have aI:u.get gf=some p8:=(D.get _ (by omega)).trans ((r.get gf ab).trans C);have bm:s.get gf=some p8:=(r.get gf ab).trans C;have s:Perm.may ⟨o,q,some (d.next+13)⟩ (d.next+6)=true:=by
  unfold Perm.may;have:=g.ok.ah;have a:o<=d.next+6:=by simp at this;omega
  simp[a]
 have I:0<e.length:=qQ.2 ae;have ag:=MV (bytes:=4) (off:=0) (len:=0) (cap:=p) (pm:=⟨o,q,some (d.next+13)⟩) S s (np e) (by omega) (by omega) (by rw[s6,np];simp;omega) (TJ e);simp only[Nat.zero_add,List.take_zero,u4]at ag;obtain⟨W,F⟩:∃W,W=e++List.replicate (p-e.length) 0:=⟨_,rfl⟩;have s:bU e++List.drop e.length (times [.int .u32 0] p)=bU W:=by
  rw[F,s6];simp[bU]
 rw[s]at ag;have aJ:rb≠d.next+6:=by rintro rfl;rw[S]at Q;cases Q;rw[Kz]at E;rw[s6]at E;cases p with | zero=>simp[bU]at E | succ _=>simp[bU,List.replicate_succ]at E
 have T:ed ⟨o,q,some (d.next+9)⟩ [.pointer (some ⟨gf,0,none⟩),.int .i64 (f:Int)]=[]∨ed ⟨o,q,some (d.next+9)⟩ [.pointer (some ⟨gf,0,none⟩),.int .i64 (f:Int)]=[gf]:=by
  simp only[ed];cases Perm.may ⟨o,q,some (d.next+9)⟩ gf<;>simp
 have aj:gf≠d.next+6:=by omega
 have bn:∀x,du x []=true:=λx=>by simp[du]
 have bo:∀x,du [] x=true:=λx=>rfl;have bp:du [d.next+6] [gf]=true:=by simp[du];omega
 have bq:du [d.next+6] [rb]=true:=by simp[du];exact λh=>aJ h.symm
 have aL:∀x s,u.get x=some s->x≠d.next+6->(x<d.next∨d.next+15<=x):=by
  intro x s b _
  rcases sC x d.next with h | h
  ·exact .inl h
  ·rcases sC x (d.next+15) with a | a
   ·exfalso;have:=aH (x-d.next) (by omega) (by omega);rw[show d.next+(x-d.next)=x by omega,b]at this;cases this
   ·exact .inr a
 have br:=aL rb rx Q aJ;have bs:dc≠d.next+6:=by
  rintro rfl;rw[S]at R;cases R;rw[Kz,s6]at af;cases af;obtain⟨_,h⟩:=um aG;have:∀b∈e,b=0:=by
   intro b a;have c:Value.int .u32 (b:Int)∈bU e:=k1.2 ⟨b,a,rfl⟩;rw[h]at c;have b:=x8 (sH c);obtain⟨_,h,a⟩:=k1.1 b;rw[x3 h]at a;simp only[Value.int.injEq,true_and]at a;omega
  have b:=Jo this;have c:=pC (show 0<ay a by omega) B;omega
 have bt:=aL dc dy R bs;obtain⟨U,aM⟩:=aY.e3 (by rintro rfl;simp at K);have bu:U<d.next:=by obtain⟨_,_,_,_,_,_,h,_⟩:=aM;exact g.ok.lt h
 have s:bh ⟨o,q,none⟩ H (u.put (d.next+6) (.cells (bU W) (.n 1))):=((g.trans r).trans bl).put (by have:=g.next;omega) S _;have B:ay W=ay e:=by
  rw[F,xE,Jo (al:=List.replicate _ 0) λ_ a=>x3 a];simp
 have aN:∀l:bb,aK 0 l=some (.pointer (some ⟨gf,0,none⟩))->aK 7 l=some aw->aK 10 l=some (.int .i64 (f:Int))->aK 11 l=some (.slice (some ⟨d.next+6,0,none⟩) e.length p)->
  wp X ⟨o,q,none⟩ (.code n8) l (u.put (d.next+6) (.cells (bU W) (.n 1))) [] (nP ⟨o,q,none⟩ H a b):=by
  intro _ e f j k;refine Me G s (c:=d.next+6) (dt:=U) (gf:=gf) (n:=n) (m:=m) (W:=W) (b6:=b6) (cn:=aw) (by have:=g.next;omega) (g.ok.new _ (by omega)) (by simp) (by rw[F];simp;omega) aD ?_ (p8:=p8) (by rw[a7 (h:=aj)];exact aI) M aj ?_ (by omega) K au (by rw[B,P]) av (by omega) la aQ ?_ bj ?_ ?_ (by omega) ?_ e f j k
  ·intro b a;rw[F]at a
   rcases l2.1 a with h | h
   ·exact bd b h
   ·rw[x3 h];omega
  ·obtain⟨a,b,c,e,f,h,i,j⟩:=aM;exact⟨a,b,c,e,f,h,by rw[a7,D.get U (by omega),r.get U bu];exact i,j⟩
  ·have:=sc A (by rintro rfl;simp at t);rwa [t,show m+2-1=m+1 by omega]at this
  ·intro i a;rw[F];simp only[dg];rw[hR a,uU];split<;>rfl
  ·have:=g.ok.ah;have a:o<=d.next+6:=by simp at this;omega
   unfold Perm.may;simp[a]
  ·rw[y];exact lO Z
 rcases T with T | T<;>simp[-n8,aH,Q,E,R,af,aG,ag,cj,cd,T,bn,bo,bp,bq,ad.O,yD,pK,p5,dG,C,M,bm,aI,aj,ku,tS,ab,br,bt]
 ·refine aN _ ?_ ?_ ?_ ?_<;>simp[Y]
 ·refine aN _ ?_ ?_ ?_ ?_<;>simp[Y]
theorem FG(c:c4 X)(d:bR pm H){v w:Value}{a b:List Nat}(eA:dP H v a)(g:dP H w b)(G:strip a=a)(z:strip b=b)(I:a.length<268435456)(J:b.length<268435456):
 Call X pm F.j4 [v,w] H λr aa=>bh pm H aa/\(ay b=0/\r=.tuple #[.pointer none,.pointer none,.bool false]∨ay b≠0/\∃q m,r=.tuple #[q,m,.bool true]/\bV aa q (ay a/ay b)/\bV aa m (ay a%ay b)):=by
 obtain⟨_,_,K⟩:=pm;obtain rfl:K=none:=d.num;have K:=eA.G;have A:=g.G;refine Call.has c.j4 rfl ?_;show wp X _ _ _ _ _ (nP _ H a b);simp[-mI];refine aq.of (gl c.cN g) ?_;rintro _ H ⟨rfl,n⟩;obtain⟨_,_,rfl⟩:=n.form;simp[-mI];by_cases h:b=[]
 ·subst h;simp[nP,ay];exact bh.refl d
 have o:0<b.length:=qQ.2 h;have B:ay b≠0:=λj=>h ((xF z).1 j);simp[-mI,h];refine aq.of (vP c eA g (by omega) (by omega)) ?_;rintro _ H ⟨rfl,rfl⟩;simp[-mI];by_cases f:ay a<ay b
 ·have:e1 (ay a) (ay b)=-1:=by simp[e1,f]
  simp[this];refine aq.of (ka c.dp d .nil (by simp)) ?_;rintro e h ⟨a,i⟩;simp;refine aq.of (gl c.cN (eA.u d a)) ?_;rintro _ h ⟨rfl,h⟩;simp;refine aq.of (ka c.dp a.ok h (by omega)) ?_;rintro h _ ⟨b,m⟩;simp[nP,B];refine⟨a.trans b,e,h,⟨rfl,rfl⟩,?_,?_⟩
  ·rw[qL f];exact(i.u a.ok b).nat
  ·rw[k0 f];exact m.nat
 have L:(e1 (ay a) (ay b)<0)=False:=by
  unfold e1;rw[aC f];split<;>simp
 simp[-mI,L];intro _;have l:∀k,H.get (H.next+k)=none:=λk=>d.wf _ (by omega);have M:H.get H.next=none:=d.wf _ (by omega);have N:a≠[]:=by
  rintro rfl;simp[ay]at f;omega
 refine⟨λC=>?_,λC=>?_⟩
 ·obtain⟨p,_,_,rfl,F,O,P⟩:=eA.block N;obtain⟨r,Q,_,_,rfl,m,s,e⟩:=n.at rfl (i:=0) (by omega);have R:p≠r:=by
   rintro rfl;rw[F]at m;cases m;rw[O]at s;cases s;rw[Nat.add_zero]at e
   cases Q with
   | zero=>simp at e;subst e;rcases P with⟨_,⟨j,_⟩ | ⟨_,_,_,_,_,j,_⟩⟩<;>cases j
   | succ _=>simp at e
  have f:=A.dg 0;rw[Nat.add_zero]at e;have S:=A.oH 0;refine cy.of d.ah rfl ?_;simp[-mI,b7,C,m,s,e,S,l,M];refine fL.of (by simp[l]) (by simp) (by simp) rfl (gl c.cN (H:=H.up 12) eA) ?_;rintro _ _ ⟨rfl,T⟩;simp;have o:ay b=dg b 0:=by rw[<-gw (al:=b) (i:=1)];simp[bf]
  refine fL.fixed (by simp[l]) (by simp) (by simp) rfl (La c (d.up 12) T (by omega) (y:=dg b 0) (by omega) (by omega)) ?_;rintro _ U ⟨t,q,_,rfl,V,W,_⟩;have e:ay a%dg b 0<dg b 0:=kY _ (by omega);generalize X:ay a%dg b 0=D at*
  simp;have Y:∀k,k<12->U.get (H.next+k)=none:=λk _=>(t.get _ (by simp;omega)).trans (l k);have Z:r<H.next:=d.lt m;have aa:∀u v,du (ed ⟨u,v,some (H.next+5)⟩ [.pointer (some ⟨p,0,none⟩)]) [r]=true:=by
   intro u v;simp only[ed];cases Perm.may ⟨u,v,some (H.next+5)⟩ p<;>simp[du,R]
  have e:∀l,du l []=true:=λl=>by simp[du]
  simp[-mI,Y,cj,cd,aa,e,Z];refine aq.of (ka c.dp t.ok V (by omega)) ?_;rintro e _ ⟨w,ab⟩;simp;refine aq.of (wb c w.ok (x:=D) (by omega)) ?_;rintro f _ ⟨E,ad⟩;simp[nP,B];refine⟨(((bh.refl d).up 12).trans t).trans (w.trans E),e,f,⟨rfl,rfl⟩,?_,?_⟩
  ·rw[o,<-W];exact(ab.u w.ok E).nat
  ·rw[o,X,<-xD D,j'];exact ad.nat
 ·exact Mf c d eA g G z I J (by omega) (by omega) n (by simp) (by simp) (by simp)
theorem G3(i:c4 X)(j:bR pm H){x y:Nat}(k:x<18446744073709551616)(l:y<18446744073709551616):
 Call X pm F.mK [.int .u64 (x:Int),.int .u64 (y:Int)] H λr aa=>bh pm H aa/\r=.int .u64 ((Nat.gcd x y:Nat):Int):=by
 refine Call.has i.mK rfl ?_;simp;refine ef.of (λs:Nat×Nat=>[(0,.int .u64 (s.1:Int)),(1,.int .u64 (s.2:Int))]) (λs aa=>bh pm H aa/\s.1<18446744073709551616/\s.2<18446744073709551616/\Nat.gcd x y=Nat.gcd s.1 s.2) (λs=>s.2) (x,y) (by simp) ⟨bh.refl j,k,l,rfl⟩ ?_;rintro⟨a,b⟩ _ ⟨c,i,f,d⟩;simp only at i f d;by_cases g:b=0
 ·subst g;simp;exact⟨c,by rw[d,Nat.gcd_zero_right]⟩
 ·have h:=A5 .u64 (a:Int) (b:Int) (by omega);have m:((a:Int)).tmod (b:Int)=((a%b:Nat):Int):=rfl;obtain⟨r,e⟩:∃r,r=a%b:=⟨_,rfl⟩;rw[m,<-e]at h;simp[g];refine cy.tP c.ok rfl rfl rfl ?_;simp[h];have g:r<b:=by rw[e];exact kY _ (by omega)
  refine .of (b,r) (by simpa using g) (by simp) ⟨c.up _,f,by show r<_;omega,?_⟩;show Nat.gcd x y=Nat.gcd b r;rw[d,e,mX a b,Nat.gcd_rec b a,mX]
end
theorem QS{q:Nat}(z:Nat):Nat.Coprime (2^z) (2*q+1):=by
 apply Nat.Coprime.pow_left;show Nat.gcd 2 (2*q+1)=1;rw[Nat.gcd_rec];have:(2*q+1)%2=1:=by omega
 rw[this];rfl
theorem AR{z p q:Nat}:Nat.gcd (2^z*(2*p+1)) (2*q+1)=Nat.gcd (2*p+1) (2*q+1):=Nat.Coprime.gcd_mul_left_cancel _ (QS z)
theorem gcd_both{a rZ p q:Nat}:Nat.gcd (2^a*(2*p+1)) (2^rZ*(2*q+1))=2^min a rZ*Nat.gcd (2*p+1) (2*q+1):=by
 rcases Nat.le_total a rZ with h | h
 ·rw[pB h];have e:2^rZ*(2*q+1)=2^a*(2^(rZ-a)*(2*q+1)):=by rw[<-jC,<-fH,show a+(rZ-a)=rZ by omega]
  rw[e,Nat.gcd_mul_left,mX (2*p+1),AR,mX]
 ·rw[Nat.min_eq_right h];have e:2^a*(2*p+1)=2^rZ*(2^(a-rZ)*(2*p+1)):=by rw[<-jC,<-fH,show rZ+(a-rZ)=a by omega]
  rw[e,Nat.gcd_mul_left,AR]
section
variable[bq]
theorem bV.out{v:Value}{n:Nat}(h:bV H v n):∃al,dP H v al/\strip al=al/\ay al=n:=h.ex
end
theorem fv{n k:Nat}{al:List Nat}(a:strip al=al)(b:ay al=n)(h:n<4294967296^k):al.length<=k:=pk a (by rw[b];exact h)
theorem QR{n z q:Nat}(h:n=2^z*(2*q+1)):n/2^z=2*q+1:=by rw[h,Nat.mul_div_cancel_left _ (hj z)]
section
variable[bq]
theorem BQ(b:c4 X)(c:bR pm H){v:Value}{n z q:Nat}{k:Nat}(h:bV H v n)(d:n<4294967296^k)(a:k<1073741824)(e:n=2^z*(2*q+1))(a:z<=34359738368):
 Call X pm F.j6 [v,.int .i64 (z:Int)] H λr aa=>bh pm H aa/\bV aa r (2*q+1):=by
 obtain⟨_,f,g,a⟩:=h.out;refine(Hg b c f (by have:=fv g a d;omega) (k:=z) (by omega)).mono ?_;rintro r aa ⟨b,c,d,_,f,_⟩;refine⟨b,?_⟩;have:ay c=2*q+1:=by rw[f,a,QR e]
 rw[<-this];exact d.nat
end
theorem Lz{z y p q:Nat}(h:2^z*(2*p+1)=2^y*(2*q+1)):¬z<y:=by
 intro _;rw[show y=z+(y-z-1+1) by omega,fH,jC]at h;have:=Nat.eq_of_mul_eq_mul_left (hj z) h;rw[dH,dW (2^_) 2,jC]at this;omega
theorem LA{z y p q:Nat}(h:2^z*(2*p+1)=2^y*(2*q+1)):z=y/\p=q:=by
 have a:=Lz h;have a:=Lz h.symm;obtain rfl:z=y:=by omega
 have:=Nat.eq_of_mul_eq_mul_left (hj z) h;exact⟨rfl,by omega⟩
theorem RV(k:Nat):(4294967296:Nat)^k=2^(32*k):=by rw[show(4294967296:Nat)=2^32 by rfl,<-mY]
section
variable[bq]
def ob(pm:Perm)(H:ad)(t n:Nat):b5:=λx l aa=>(x=dS.normal∨x=dS.ret)/\∃a,hU l aa [.slot t]=some a/\(bh pm H aa/\bV aa (f' a) n)
theorem SL(a:c4 X)(W:bR pm H){v w:Value}{n m k:Nat}(hv:bV H v n)(hw:bV H w m)(O:n<4294967296^k)(hm:m<4294967296^k)(hk:k<268435456)(ah:n≠0)(ai:m≠0):
 Call X pm F.n' [v,w] H λr aa=>bh pm H aa/\bV aa r (Nat.gcd n m):=by
 obtain⟨_,ha,aG,D⟩:=hv.out;obtain⟨_,hb,aH,E⟩:=hw.out;have la:=fv aG D O;have lb:=fv aH E hm;refine Call.has a.n' rfl ?_;show wp X pm _ _ _ _ (ob pm H 4 (Nat.gcd n m));simp[-j7];refine aq.of (tw a ha) ?_;rintro _ H ⟨rfl,G,rfl,_,P⟩;simp[-j7];refine aq.of (tw a hb) ?_;rintro _ H ⟨rfl,Q,rfl,_,aj⟩;obtain⟨u,R⟩:∃u,n=2^G*(2*u+1):=by
  rcases P with⟨h,_⟩ | ⟨q,h⟩
  ·exact absurd (D.symm.trans h) ah
  ·exact⟨q,by rw[<-D];exact h⟩
 obtain⟨q,Y⟩:∃q,m=2^Q*(2*q+1):=by
  rcases aj with⟨h,_⟩ | ⟨q,h⟩
  ·exact absurd (E.symm.trans h) ai
  ·exact⟨q,by rw[<-E];exact h⟩
 obtain⟨b,ak⟩:∃z,z=min G Q:=⟨_,rfl⟩;have x1:(if Q<G then(Q:Int) else(G:Int))=(b:Int):=by rw[ak];split<;>omega
 simp[-j7,x1];refine aq.of (tw a ha) ?_;rintro _ H ⟨rfl,aI,rfl,aJ,al⟩;obtain⟨_,an⟩:∃u,n=2^aI*(2*u+1):=by
  rcases al with⟨h,_⟩ | ⟨q,h⟩
  ·exact absurd (D.symm.trans h) ah
  ·exact⟨q,by rw[<-D];exact h⟩
 simp[-j7];refine aq.of (BQ a W hv O (by omega) an aJ) ?_;rintro v1 D ⟨I,aL⟩;simp[-j7];refine aq.of (tw a (hb.u W I)) ?_;rintro _ D ⟨rfl,aM,rfl,aN,ao⟩;obtain⟨i,j⟩:∃q,m=2^aM*(2*q+1):=by
  rcases ao with⟨h,_⟩ | ⟨q,h⟩
  ·exact absurd (E.symm.trans h) ai
  ·exact⟨q,by rw[<-E];exact h⟩
 simp[-j7];refine aq.of (BQ a I.ok (hw.u W I) hm (by omega) j aN) ?_;rintro w1 _ ⟨k2,aO⟩;obtain⟨rfl,rfl⟩:=LA (R.symm.trans an);obtain⟨rfl,rfl⟩:=LA (Y.symm.trans j);clear P aj al ao;have D:2*u+1<=n:=by rw[R];exact sK _ (hj _)
 have D:b<8589934592:=by
  have d:2^G<=n:=by rw[R];exact sJ _ (by omega)
  rw[RV]at O;have:=(ov (by omega:1<2)).1 (cV d O);omega
 have D:2*q+1<=m:=by rw[Y];exact sK _ (hj _)
 simp[-j7]
 refine ef.of (λs:Value×Value×Nat×Nat=>[(0,s.1),(1,s.2.1),(5,.int .i64 (b:Int))])
  (λs aa=>bh pm H aa/\bV aa s.1 (2*s.2.2.1+1)/\bV aa s.2.1 (2*s.2.2.2+1)/\Nat.gcd n m=2^b*Nat.gcd (2*s.2.2.1+1) (2*s.2.2.2+1)/\2*s.2.2.1+1<4294967296^k/\2*s.2.2.2+1<4294967296^k) (λs=>s.2.2.1+s.2.2.2) (v1,w1,u,q) (by simp)
  ⟨I.trans k2,aL.u I.ok k2,aO,by simp only;rw[R,Y,gcd_both,ak],by simp only;omega,by simp only;omega⟩ ?_
 rintro⟨v,w,x,y⟩ S ⟨J,l,e,c,o,f⟩;simp only at l e c o f;obtain⟨xs,K,T,p⟩:=l.out;obtain⟨ys,U,L,A⟩:=e.out;have lx:=fv T p o;have ly:=fv L A f;simp[-j7];refine aq.of (vP a K U (by omega) (by omega)) ?_;rintro _ S ⟨rfl,rfl⟩;rw[p,A]
 have ar:∀(v w:Value) (x y:Nat) (M:bb) (N:Value×Value×Nat×Nat),bV S v (2*x+1)->bV S w (2*y+1)->y<x->Nat.gcd n m=2^b*Nat.gcd (2*x+1) (2*y+1)->2*x+1<4294967296^k->2*y+1<4294967296^k->x+y<=N.2.2.1+N.2.2.2->
  aK 0 M=some v->aK 1 M=some w->aK 5 M=some (.int .i64 (b:Int))->wp X pm (.code j7) M S [.aW 1] λZ g aa=>match Z with
   | .normal=>jk (λs:Value×Value×Nat×Nat=>[(0,s.1),(1,s.2.1),(5,.int .i64 (b:Int))])
    (λs aa=>bh pm H aa/\bV aa s.1 (2*s.2.2.1+1)/\bV aa s.2.1 (2*s.2.2.2+1)/\Nat.gcd n m=2^b*Nat.gcd (2*s.2.2.1+1) (2*s.2.2.2+1)/\2*s.2.2.1+1<4294967296^k/\2*s.2.2.2+1<4294967296^k) (λs=>s.2.2.1+s.2.2.2) N g aa
   | Z=>wp X pm (.res Z) g aa [.aW 0] (ob pm H 4 (Nat.gcd n m)):=by
  clear l e c o f K T p U L A lx ly;intro v w x y M N l e _ c o f _ u B l5;obtain⟨xs,K,T,p⟩:=l.out;obtain⟨ys,U,L,A⟩:=e.out;have lx:=fv T p o;have ly:=fv L A f;simp[u,B];refine aq.of (FV a J.ok K U (by omega) (by omega) L) ?_;rintro _ H4 ⟨F,⟨h,_⟩ | ⟨_,r,_,rfl,u,_,D⟩⟩
  ·exact absurd h (by omega)
  have V:=u.nat;rw[D,p,A]at V;obtain⟨C,hd⟩:∃C,C=2*x+1-(2*y+1):=⟨_,rfl⟩;rw[<-hd]at V;have aP:C≠0:=by omega
  obtain⟨_,u,A,ab⟩:=V.out;have au:C<4294967296^k:=by omega
  have le:=fv A ab au;simp;refine aq.of (tw a u) ?_;rintro _ H4 ⟨rfl,z,rfl,hz,P⟩;obtain⟨i,j⟩:∃q,C=2^z*(2*q+1):=by
   rcases P with⟨h,_⟩ | ⟨q,h⟩
   ·exact absurd (ab.symm.trans h) aP
   ·exact⟨q,by rw[<-ab];exact h⟩
  have u:z≠0:=by
   rintro rfl;simp at j;omega
  have u:2*(2*i+1)<=C:=by
   rw[j,show z=1+(z-1) by omega,fH,jC];have:=sK (2*i+1) (hj (z-1));omega
  simp;refine aq.of (BQ a F.ok V au (by omega) j hz) ?_;rintro _ H5 ⟨k5,av⟩;have aw:=(e.u J.ok F).u F.ok k5;have u:Nat.gcd (2*x+1) (2*y+1)=Nat.gcd (2*i+1) (2*y+1):=by
   rw[<-Nat.gcd_sub_self_left (by omega:2*y+1<=2*x+1),<-hd,j,AR]
  rw[u]at c;obtain⟨d,ax,j,ad⟩:=av.out;obtain⟨t,az,u,ae⟩:=aw.out;have z:=fv j ad (k:=k) (by omega);have j:=fv u ae (k:=k) (by omega);obtain⟨fb,_,_,rfl,af,ag,aA⟩:=ax.block (by rintro rfl;simp[ay]at ad);obtain⟨gb,_,_,rfl,aB,aC,aD⟩:=az.block (by rintro rfl;simp[ay]at ae);obtain⟨_,_,rfl⟩:=aA.form;obtain⟨_,_,rfl⟩:=aD.form;have kk:=(J.trans F).trans k5
  have aE:∀g:bb,aK 0 g=some (.pointer (some ⟨fb,0,none⟩))->aK 1 g=some (.pointer (some ⟨gb,0,none⟩))->aK 5 g=some (.int .i64 (b:Int))->jk (λs:Value×Value×Nat×Nat=>[(0,s.1),(1,s.2.1),(5,.int .i64 (b:Int))])
   (λs aa=>bh pm H aa/\bV aa s.1 (2*s.2.2.1+1)/\bV aa s.2.1 (2*s.2.2.2+1)/\Nat.gcd n m=2^b*Nat.gcd (2*s.2.2.1+1) (2*s.2.2.2+1)/\2*s.2.2.1+1<4294967296^k/\2*s.2.2.2+1<4294967296^k) (λs=>s.2.2.1+s.2.2.2) N g H5:=by
   intro g g h j;refine .of (.pointer (some ⟨fb,0,none⟩),.pointer (some ⟨gb,0,none⟩),i,y) (by show i+y<_;omega) (by simp[g,h,j]) ⟨kk,av,aw,c,by show 2*i+1<_;omega,f⟩
  by_cases aF:d.length<=2
  ·by_cases q:t.length<=2
   ·have i:¬2<d.length:=by omega
    have j:¬2<t.length:=by omega
    have s:=lO aA.1;have u:=lO aD.1;have g:(4294967296:Nat)^2=18446744073709551616:=rfl;have w:ay d<18446744073709551616:=by rw[<-g];exact eC s (fX (by omega) aF)
    have H:ay t<18446744073709551616:=by rw[<-g];exact eC u (fX (by omega) q)
    simp[af,ag,aB,aC,i,j,B];refine aq.of (tx a ax) ?_;rintro _ H5 ⟨rfl,rfl⟩;simp only[aF,if_true];simp[B];refine aq.of (tx a az) ?_;rintro _ H5 ⟨rfl,rfl⟩;simp only[q,if_true];simp;refine aq.of (G3 a k5.ok (x:=ay d) (y:=ay t) w H) ?_;rintro _ _ ⟨r,rfl⟩;have X:Nat.gcd (ay d) (ay t)<=ay d:=Nat.gcd_le_left _ (by omega);obtain⟨h,v⟩:∃h,h=Nat.gcd (ay d) (ay t):=⟨_,rfl⟩;rw[<-v]at X|-;simp;refine aq.of (wb a r.ok (x:=h) (by omega)) ?_;rintro _ _ ⟨g,h⟩;simp[l5];refine aq.of (yS a g.ok h (cV (Di _) (by simp)) (k:=b) (by omega)) ?_;rintro _ _ ⟨h,i,j,_,q,_⟩;simp[ob];refine⟨kk.trans (r.trans (g.trans h)),?_⟩;have:Nat.gcd n m=ay i:=by rw[q,xD,v,ad,ae,c,dW]
    rw[this];exact j.nat
   ·have g:¬2<d.length:=by omega
    have h:2<t.length:=by omega
    simp[af,ag,aB,aC,g,h,B];refine aE _ ?_ ?_ ?_<;>simp[B,l5]
  ·have g:2<d.length:=by omega
   simp[af,ag,g];refine aE _ ?_ ?_ ?_<;>simp[B,l5]
 by_cases d:2*x+1=2*y+1
 ·have g:e1 (2*x+1) (2*y+1)=0:=by simp[e1,d]
  simp[g];refine aq.of (yS a J.ok K (by omega) (k:=b) (by omega)) ?_;rintro _ _ ⟨a,b,g,_,h,_⟩;simp[ob];refine⟨J.trans a,?_⟩;have:Nat.gcd n m=ay b:=by rw[h,p,c,<-d,Nat.gcd_self,dW]
  rw[this];exact g.nat
 ·by_cases a:2*x+1<2*y+1
  ·have b:e1 (2*x+1) (2*y+1)=-1:=by simp[e1,a]
   simp[-j7,b];refine ar w v y x _ (v,w,x,y) e l (by omega) (by rw[c,mX (2*y+1)]) f o (by simp;omega) ?_ ?_ ?_<;>simp
  ·have b:e1 (2*x+1) (2*y+1)=1:=by unfold e1;rw[aC a,aC d]
   simp[-j7,b];refine ar v w x y _ (v,w,x,y) l e (by omega) c o f (by simp) ?_ ?_ ?_<;>simp
theorem Mn(a:c4 X)(L:bR pm H){v w:Value}{n m k:Nat}(M:bV H v n)(N:bV H w m)(O:n<4294967296^k)(P:m<4294967296^k)(Q:k<268435456):
 Call X pm F.n9 [v,w] H λr aa=>bh pm H aa/\bV aa r (Nat.gcd n m):=by
 refine Call.has a.n9 rfl ?_;show wp X pm _ _ _ _ (ob pm H 4 (Nat.gcd n m));simp[-kR];refine ef.of (λs:Value×Value×Nat×Nat=>[(5,s.1),(6,s.2.1)]) (λs aa=>bh pm H aa/\bV aa s.1 s.2.2.1/\bV aa s.2.1 s.2.2.2/\Nat.gcd n m=Nat.gcd s.2.2.1 s.2.2.2/\s.2.2.1<4294967296^k/\s.2.2.2<4294967296^k) (λs=>s.2.2.2) (v,w,n,m) (by simp) ⟨bh.refl L,M,N,rfl,O,P⟩ ?_;rintro⟨v,w,x,y⟩ e ⟨c,A,p,i,B,q⟩;simp only at A p i B q;obtain⟨d,j,C,l⟩:=A.out;obtain⟨b,g,D,f⟩:=p.out;have L:=fv C l B;have L:=fv D f q;simp[-kR];refine aq.of (tx a j) ?_;rintro _ e ⟨rfl,rfl⟩
 have E:∀t:bb,aK 5 t=some v->aK 6 t=some w->wp X pm (.code kR) t e [.aW 1] λI K aa=>match I with
  | .normal=>jk (λs:Value×Value×Nat×Nat=>[(5,s.1),(6,s.2.1)]) (λs aa=>bh pm H aa/\bV aa s.1 s.2.2.1/\bV aa s.2.1 s.2.2.2/\Nat.gcd n m=Nat.gcd s.2.2.1 s.2.2.2/\s.2.2.1<4294967296^k/\s.2.2.2<4294967296^k) (λs=>s.2.2.2) (v,w,x,y) K aa
  | I=>wp X pm (.res I) K aa [.aW 0] (ob pm H 4 (Nat.gcd n m)):=by
  intro t u o;simp[o];refine aq.of (gl a.cN g) ?_;rintro R e ⟨rfl,F⟩;obtain⟨S,T,rfl⟩:=F.form;by_cases z:b=[]
  ·subst z;simp[u];refine aq.of (gl a.cN j) ?_;rintro _ e ⟨rfl,h⟩;simp;refine aq.of (ka a.dp c.ok h (by omega)) ?_;rintro _ _ ⟨h,k⟩;simp[ob];refine⟨c.trans h,?_⟩;simp[ay]at f;rw[i,<-f,Nat.gcd_zero_right,<-l];exact k.nat
  ·have s:0<b.length:=qQ.2 z;have v:y≠0:=λh=>z ((xF D).1 (by rw[f,h]));simp[z,u];refine aq.of (gl a.cN j) ?_;rintro _ e ⟨rfl,k⟩;obtain⟨_,_,rfl⟩:=k.form;simp[o];refine aq.of (gl a.cN g) ?_;rintro R e ⟨rfl,F⟩;obtain⟨S,T,rfl⟩:=F.form;by_cases k:d.length=b.length
   ·simp[k,u,o];have m:x≠0:=λh=>by
     have:d=[]:=(xF C).1 (by rw[l,h]);rw[this]at k;simp at k;omega
    refine aq.of (SL a c.ok A p B q Q m v) ?_;rintro _ _ ⟨k,m⟩;simp[ob];exact⟨c.trans k,by rw[i];exact m⟩
   ·have k:¬((d.length:Int)=(b.length:Int)):=by omega
    simp[u,o];refine⟨λ_=>?_,λh=>absurd h k⟩;refine aq.of (FG a c.ok j g C D (by omega) (by omega)) ?_;rintro _ _ ⟨G,⟨h,_⟩ | ⟨_,_,r,rfl,_,k⟩⟩
    ·exact absurd (f.symm.trans h) v
    rw[l,f]at k;have h:x%y<y:=kY _ (by omega);simp[o];refine .of (w,r,y,x%y) (by simpa using h) (by simp) ⟨c.trans G,p.u c.ok G,k,?_,q,by show x%y<_;omega⟩;show Nat.gcd n m=Nat.gcd y (x%y);rw[i,mX x y,Nat.gcd_rec y x,mX]
 by_cases J:d.length<=2
 ·simp only[J,if_true];simp[-kR];refine aq.of (tx a g) ?_;rintro _ e ⟨rfl,rfl⟩;by_cases h:b.length<=2
  ·simp only[h,if_true];simp[-kR];have k:(4294967296:Nat)^2=18446744073709551616:=rfl;have o:ay d<18446744073709551616:=by rw[<-k];exact eC (lO j.G) (fX (by omega) J)
   have r:ay b<18446744073709551616:=by rw[<-k];exact eC (lO g.G) (fX (by omega) h)
   refine aq.of (G3 a c.ok (x:=ay d) (y:=ay b) o r) ?_;rintro _ _ ⟨u,rfl⟩;have w:Nat.gcd (ay d) (ay b)<18446744073709551616:=by
    rcases uZ (ay d) with j | j
    ·rw[j,Nat.gcd_zero_left];exact r
    ·exact cV (Nat.gcd_le_left _ j) o
   obtain⟨G,v⟩:∃G,G=Nat.gcd (ay d) (ay b):=⟨_,rfl⟩;rw[<-v]at w|-;simp[-kR];refine aq.of (wb a u.ok (x:=G) (by omega)) ?_;rintro _ _ ⟨d,j⟩;simp[ob];refine⟨c.trans (u.trans d),?_⟩;have:Nat.gcd n m=ay [G%4294967296,G/4294967296]:=by rw[<-j',xD,v,l,f,i]
   rw[this];exact j.nat
  ·simp only[h,if_false];simp[-kR];refine E _ ?_ ?_<;>simp
 ·simp only[J,if_false];simp[-kR];refine aq.of (tx a g) ?_;rintro _ e ⟨rfl,rfl⟩;by_cases a:b.length<=2
  ·simp only[a,if_true];simp[-kR];refine E _ ?_ ?_<;>simp
  ·simp only[a,if_false];simp[-kR];refine E _ ?_ ?_<;>simp
end
end Go.Dam.C
