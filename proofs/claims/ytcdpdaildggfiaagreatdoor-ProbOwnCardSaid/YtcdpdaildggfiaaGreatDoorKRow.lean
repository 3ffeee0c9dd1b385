/- ProbOwn returns true, for every input: the tied card. -/
import Derived.Test.YtcdpdaildggfiaaGreatDoorOwn
import Derived.Test.YtcdpdaildggfiaaGreatDoorKFacts
import Derived.Test.YtcdpdaildggfiaaGreatDoorCards
import Derived.Test.YtcdpdaildggfiaaGreatDoorTie
import Derived.ProofKit
import Derived.OpenShut
import Derived.Lay
import Derived.Stop.LaidErr
import Derived.Lib.LaidTab
import Derived.LaidOnce
import Derived.SevenTiedAt
import Derived.Carry
namespace Go.Proofs.YtcdpdaildggfiaaGreatDoor
open Go Go.RowKit Go.ChangeShapes Go.WideShapes Go.ChangeAt Go.Dam.C
open Go.ChangeMaps (open_string shut_string)
theorem HI:Tryz.prog.funcNamed "victualler/victuallerlaw14.ProbOwn"=some 3:=by kernel_rfl
theorem own:ownKnob Tryz.prog.godebug=none:=by kernel_rfl
theorem laidOut:laidOutB Tryz.prog=true:=Ia
section
variable{H:Type}{enc:TypeId×Value->H}{W:World}{base:Nat}{held:Bool}
theorem ZU{a:Nat}{v:Value}{x:DataW H×List MemPlace}(h:DataW.trod enc Tryz.prog W base (λ_=>true) held a 26 [v]=some x):tr W v:=
 Du (w:=1) Tryz.underlying26 (by kernel_rfl) h λ_ _ _ h=>lI Tryz.underlying9 h
set_option maxRecDepth 100000 in
theorem YP{r:Reach}{aE:Nat}{v:Value}{d:DataW H}{p:List MemPlace}(a:Value.okWide Tryz.prog W r aE 26 v)(h:DataW.Trod enc Tryz.prog W base (λ_=>true) held 26 v d p):tr W v:=by
 obtain⟨b,h⟩:=h;obtain⟨c,n,e,rfl⟩:=okWide_slice Tryz.underlying26 a;have h:DataW.trod enc Tryz.prog W base (λ_=>true) held b 26 [.slice c n e]=some (d,p):=h;exact ZU h
theorem G0{a:Nat}{v:Value}{x:DataW H×List MemPlace}(h:DataW.trod enc Tryz.prog W base (λ_=>true) held a 62 [v]=some x):tf W v:=
 Du (w:=2) Tryz.underlying62 (by kernel_rfl) h λ_ _ _ h=>by
  obtain⟨_,_,b⟩:=gX Tryz.underlying67 h (i:=0) rfl (by kernel_rfl) rfl;obtain⟨_,_,c⟩:=gX Tryz.underlying67 h (i:=1) rfl (by kernel_rfl) rfl;exact⟨A6 Tryz.underlying3 b,lI Tryz.underlying9 c⟩
theorem NA{a:Nat}{v:Value}{x:DataW H×List MemPlace}(h:DataW.trod enc Tryz.prog W base (λ_=>true) held a 22 [v]=some x):vQ W v:=
 Du (w:=5) Tryz.underlying22 (by kernel_rfl) h λ_ _ _ h=>by
  obtain⟨_,_,b⟩:=gX Tryz.underlying48 h (i:=0) rfl (by kernel_rfl) rfl;obtain⟨_,_,c⟩:=gX Tryz.underlying48 h (i:=1) rfl (by kernel_rfl) rfl;obtain⟨_,_,d⟩:=gX Tryz.underlying48 h (i:=2) rfl (by kernel_rfl) rfl;obtain⟨_,_,e⟩:=gX Tryz.underlying48 h (i:=3) rfl (by kernel_rfl) rfl;obtain⟨_,_,f⟩:=gX Tryz.underlying48 h (i:=4) rfl (by kernel_rfl) rfl;exact⟨lI Tryz.underlying9 b,lI Tryz.underlying9 c,lI Tryz.underlying9 d,lI Tryz.underlying9 e,OX Tryz.underlying4 f⟩
theorem Sv{a:Nat}{v:Value}{x:DataW H×List MemPlace}(h:DataW.trod enc Tryz.prog W base (λ_=>true) held a 23 [v]=some x):Dam.C.RowsIn W v:=
 Du (w:=5) Tryz.underlying23 (by kernel_rfl) h λ_ _ _ h=>by
  obtain⟨_,_,b⟩:=gX Tryz.underlying64 h (i:=0) rfl (by kernel_rfl) rfl;obtain⟨_,_,c⟩:=gX Tryz.underlying64 h (i:=1) rfl (by kernel_rfl) rfl;obtain⟨_,_,d⟩:=gX Tryz.underlying64 h (i:=2) rfl (by kernel_rfl) rfl;obtain⟨_,_,e⟩:=gX Tryz.underlying64 h (i:=3) rfl (by kernel_rfl) rfl;obtain⟨_,_,f⟩:=gX Tryz.underlying64 h (i:=4) rfl (by kernel_rfl) rfl;exact⟨lI Tryz.underlying9 b,A6 Tryz.underlying3 c,G0 d,lI Tryz.underlying9 e,lI Tryz.underlying9 f⟩
set_option maxRecDepth 100000 in
theorem Qn{r:Reach}{aE:Nat}{v:Value}{d:DataW H}{p:List MemPlace}(e:Value.okWide Tryz.prog W r aE 25 v)(h:DataW.Trod enc Tryz.prog W base (λ_=>true) held 25 v d p):v7 W v:=by
 obtain⟨⟨l⟩,rfl,a⟩:=okWide_struct Tryz.underlying25 e;have a:l.length=2:=a.trans (by kernel_rfl);obtain⟨f,h⟩:=h
 match l,a with
 | [b,c],_=>
   have h:DataW.trod enc Tryz.prog W base (λ_=>true) held f 25 [b,c]=some (d,p):=h;obtain⟨_,_,g⟩:=gX Tryz.underlying25 h (i:=0) rfl (by kernel_rfl) rfl;obtain⟨_,_,j⟩:=gX Tryz.underlying25 h (i:=1) rfl (by kernel_rfl) rfl;exact⟨b,c,rfl,NA g,Sv j⟩
end
set_option maxRecDepth 100000 in
theorem lifted(os:Os)(j:os.Started)(H:Type)(enc:TypeId×Value->H):
 ReturnsInHanded {} Tryz.checked os 3 .any (λw args=>(Rows.probOwnSpec.pre enc Tryz.prog Tryz.f3 Rows.probOwnRow.domain false w args/\laidMetH Tryz.prog Rows.probOwnRow.laid w)/\sizedMet enc Tryz.prog Tryz.f3 (OpenSpec.ofChange Rows.probOwnSpec) false w args)
  (Rows.probOwnSpec.post enc Tryz.prog Tryz.f3 false true false false):=by
 refine returnsInHanded_of_change_and (C:=Tryz.checked) (X:=λw _=>laidMetH Tryz.prog Rows.probOwnRow.laid w) (λ_ _ _ m h=>h.of_heap m) own j (by kernel_rfl) Tryz.func3
  (ChangeSpec.witness_shaped (enc:=enc) (C:=Tryz.checked) (os:=os) (X:=λw _=>laidMetH Tryz.prog Rows.probOwnRow.laid w) false (World.laidAll Tryz.prog os Rows.probOwnRow.laid) #[.agg #[.slice none 0 0,.slice none 0 0],.slice none 0 0,.slice none 0 0] 8 (World.laidAll_os _ _ _)
   (World.shaped_of_ZipB (by kernel_rfl) (by kernel_rfl)) (by kernel_rfl) (by kernel_rfl) (by kernel_rfl)
   (by rw[MakeChecks.laidMetH_plain _ _ _ (by kernel_rfl)];exact laidMet_laidAll _ (by kernel_rfl) (by kernel_rfl))) ?_
 intro W m args o _ _ p d _ _ f _;have a:∀(j:Nat) t v,Tryz.f3.params[j]? = some t->args[j]? = some v->Value.okWide Tryz.prog W .any m t v:=p;have b:=d;obtain⟨q,_,r,s,rfl,_,_⟩:=d;have g:DataW.TrodAll enc Tryz.prog W 0 (λ_=>true) true Tryz.f3.params.toList args.toList o q:=r;rw[Tryz.params3]at g a;obtain⟨u,x,y,_,_,_,_,_,_,rfl,rfl,rfl,i,k,l⟩:=trodAll_three g;obtain⟨rfl,rfl⟩:=trodVars_none s;rw[MakeChecks.laidMetH_plain _ _ _ (by kernel_rfl)]at f
 have d:Lib.TabIs Tryz.prog W "internal/strconv.uint64pow10" .u64 Dam.Tab.q4:=
  Lib.tabIs_of_head (n:=20) Dam.Tab.xj (t:=397) (e:=108) (by kernel_rfl) Tryz.underlying397 Tryz.underlying108 (by kernel_rfl) (by kernel_rfl) (laidMet.tail (laidMet.tail f))
 refine(Dam.C.No d (Qn (a 0 25 u rfl rfl) i) (YP (a 1 26 x rfl rfl) k) (YP (a 2 26 y rfl rfl) l)).mono λe _ ⟨z,c⟩=>?_;subst z
 exact⟨_,rfl,_,_,_,[],_,[],b,trodAll_mk1 (shut_bool Tryz.underlying4 _),trodAll_mk3
  (Below.trod laidOut (by kernel_rfl) (of_decide_eq_true (by kernel_rfl)) i c λx a=>b.lt x (by simp[a]))
  (Below.trod laidOut (by kernel_rfl) (of_decide_eq_true (by kernel_rfl)) k c λx a=>b.lt x (by simp[a]))
  (Below.trod laidOut (by kernel_rfl) (of_decide_eq_true (by kernel_rfl)) l c λx a=>b.lt x (by simp[a])),rfl,c.frame _,λh=>by cases h⟩
theorem said:Rows.ProbOwnSaid:=
 OpenClaim.holds_of_wide 3 Tryz.f3 rfl rfl rfl rfl rfl rfl rfl ⟨rfl,rfl,rfl,rfl,rfl⟩ rfl rfl rfl rfl rfl HI Tryz.func3 facts
  (of_decide_eq_true (by kernel_rfl)) (by unfold Func.isWrapper;first | (rw[if_pos (by decide +kernel)];kernel_rfl) | (rw[if_neg (by decide +kernel)];exact⟨rfl,rfl⟩))
  (λa b H c _=>lifted a b H c)
theorem card:Rows.ProbOwnCardSaid:=
 Claim7.holds_tied_plain_at .later [] _ _ _ _ said (λ_ h=>by cases h) (by kernel_rfl) (λ_ h=>by cases h) probOwn_row_tie rfl ⟨rfl,rfl⟩ (by kernel_rfl) rfl
  (λf b c d=>by
   obtain rfl:f=3:=Option.some.inj (HI.symm.trans c) |>.symm
   obtain rfl:b=Tryz.f3:=(Option.some.inj (Tryz.func3.symm.trans d)).symm;refine⟨by kernel_rfl,λj t a=>?_⟩;rw[Tryz.params3]at a
   rcases j with _ | _ | _ | j
   ·obtain rfl:25=t:=by simpa using a
    kernel_rfl
   ·obtain rfl:26=t:=by simpa using a
    kernel_rfl
   ·obtain rfl:26=t:=by simpa using a
    kernel_rfl
   ·simp at a) goesBy
#print axioms card
end Go.Proofs.YtcdpdaildggfiaaGreatDoor
