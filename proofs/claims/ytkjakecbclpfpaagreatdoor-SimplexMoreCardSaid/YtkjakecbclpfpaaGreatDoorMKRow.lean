/- SimplexMore returns true, for every input: the tied card. -/
import Derived.Test.YtkjakecbclpfpaaGreatDoorMOwn
import Derived.Test.YtkjakecbclpfpaaGreatDoorMKFacts
import Derived.Test.YtkjakecbclpfpaaGreatDoorCards
import Derived.Test.YtkjakecbclpfpaaGreatDoorTie
import Derived.ProofKit
import Derived.OpenShut
import Derived.Lay
import Derived.Stop.LaidErr
import Derived.Lib.LaidTab
import Derived.LaidOnce
import Derived.SevenTiedAt
import Derived.Carry
namespace Go.Proofs.YtkjakecbclpfpaaGreatDoor
open Go Go.RowKit Go.ChangeShapes Go.WideShapes Go.ChangeAt Go.Dam.C
open Go.ChangeMaps (open_string shut_string)
theorem O1:Tryz.prog.funcNamed "victualler/victuallerlaw14.SimplexMore"=some 3:=by kernel_rfl
theorem own:ownKnob Tryz.prog.godebug=none:=by kernel_rfl
theorem laidOut:laidOutB Tryz.prog=true:=PC
section
variable{H:Type}{enc:TypeId×Value->H}{W:World}{base:Nat}{held:Bool}
theorem VI{a:Nat}{v:Value}{x:DataW H×List MemPlace}(h:DataW.trod enc Tryz.prog W base (λ_=>true) held a 26 [v]=some x):AW W v:=
 Av (w:=2) Tryz.underlying26 (by kernel_rfl) h λ_ _ _ h=>by
  obtain⟨_,_,b⟩:=hD Tryz.underlying43 h (i:=0) rfl (by kernel_rfl) rfl;obtain⟨_,_,c⟩:=hD Tryz.underlying43 h (i:=1) rfl (by kernel_rfl) rfl;exact⟨wx Tryz.underlying3 b,oO Tryz.underlying9 c⟩
theorem VK{a:Nat}{v:Value}{x:DataW H×List MemPlace}(h:DataW.trod enc Tryz.prog W base (λ_=>true) held a 22 [v]=some x):AX W v:=
 Av (w:=5) Tryz.underlying22 (by kernel_rfl) h λ_ _ _ h=>by
  obtain⟨_,_,b⟩:=hD Tryz.underlying38 h (i:=0) rfl (by kernel_rfl) rfl;obtain⟨_,_,c⟩:=hD Tryz.underlying38 h (i:=1) rfl (by kernel_rfl) rfl;obtain⟨_,_,d⟩:=hD Tryz.underlying38 h (i:=2) rfl (by kernel_rfl) rfl;obtain⟨_,_,e⟩:=hD Tryz.underlying38 h (i:=3) rfl (by kernel_rfl) rfl;obtain⟨_,_,f⟩:=hD Tryz.underlying38 h (i:=4) rfl (by kernel_rfl) rfl;exact⟨oO Tryz.underlying9 b,oO Tryz.underlying9 c,oO Tryz.underlying9 d,oO Tryz.underlying9 e,W' Tryz.underlying4 f⟩
theorem aaS{a:Nat}{v:Value}{x:DataW H×List MemPlace}(h:DataW.trod enc Tryz.prog W base (λ_=>true) held a 23 [v]=some x):Dam.C.RowsIn W v:=
 Av (w:=5) Tryz.underlying23 (by kernel_rfl) h λ_ _ _ h=>by
  obtain⟨_,_,b⟩:=hD Tryz.underlying28 h (i:=0) rfl (by kernel_rfl) rfl;obtain⟨_,_,c⟩:=hD Tryz.underlying28 h (i:=1) rfl (by kernel_rfl) rfl;obtain⟨_,_,d⟩:=hD Tryz.underlying28 h (i:=2) rfl (by kernel_rfl) rfl;obtain⟨_,_,e⟩:=hD Tryz.underlying28 h (i:=3) rfl (by kernel_rfl) rfl;obtain⟨_,_,f⟩:=hD Tryz.underlying28 h (i:=4) rfl (by kernel_rfl) rfl;exact⟨oO Tryz.underlying9 b,wx Tryz.underlying3 c,VI d,oO Tryz.underlying9 e,oO Tryz.underlying9 f⟩
set_option maxRecDepth 100000 in
theorem Hh{r:Reach}{aK:Nat}{v:Value}{d:DataW H}{p:List MemPlace}(j:Value.okWide Tryz.prog W r aK 28 v)(h:DataW.Trod enc Tryz.prog W base (λ_=>true) held 28 v d p):ug W v:=by
 obtain⟨⟨l⟩,rfl,a⟩:=okWide_struct Tryz.underlying28 j;have a:l.length=5:=a.trans (by kernel_rfl);obtain⟨k,h⟩:=h
 match l,a with
 | [b,c,e,f,g],_=>
   have h:DataW.trod enc Tryz.prog W base (λ_=>true) held k 28 [b,c,e,f,g]=some (d,p):=h;obtain⟨_,_,m⟩:=hD Tryz.underlying28 h (i:=0) rfl (by kernel_rfl) rfl;obtain⟨_,_,n⟩:=hD Tryz.underlying28 h (i:=1) rfl (by kernel_rfl) rfl;obtain⟨_,_,o⟩:=hD Tryz.underlying28 h (i:=2) rfl (by kernel_rfl) rfl;obtain⟨_,_,q⟩:=hD Tryz.underlying28 h (i:=3) rfl (by kernel_rfl) rfl;obtain⟨_,_,r⟩:=hD Tryz.underlying28 h (i:=4) rfl (by kernel_rfl) rfl;exact⟨b,c,e,f,g,rfl,oO Tryz.underlying9 m,wx Tryz.underlying3 n,VI o,oO Tryz.underlying9 q,oO Tryz.underlying9 r⟩
set_option maxRecDepth 100000 in
theorem YI{r:Reach}{aK:Nat}{v:Value}{d:DataW H}{p:List MemPlace}(e:Value.okWide Tryz.prog W r aK 25 v)(h:DataW.Trod enc Tryz.prog W base (λ_=>true) held 25 v d p):A4 W v:=by
 obtain⟨⟨l⟩,rfl,a⟩:=okWide_struct Tryz.underlying25 e;have a:l.length=2:=a.trans (by kernel_rfl);obtain⟨f,h⟩:=h
 match l,a with
 | [b,c],_=>
   have h:DataW.trod enc Tryz.prog W base (λ_=>true) held f 25 [b,c]=some (d,p):=h;obtain⟨_,_,g⟩:=hD Tryz.underlying25 h (i:=0) rfl (by kernel_rfl) rfl;obtain⟨_,_,j⟩:=hD Tryz.underlying25 h (i:=1) rfl (by kernel_rfl) rfl;exact⟨b,c,rfl,VK g,aaS j⟩
end
set_option maxRecDepth 100000 in
theorem lifted(os:Os)(j:os.Started)(H:Type)(enc:TypeId×Value->H):
 ReturnsInHanded {} Tryz.checked os 3 .any (λw args=>(Rows.simplexMoreSpec.pre enc Tryz.prog Tryz.f3 Rows.simplexMoreRow.domain false w args/\laidMetH Tryz.prog Rows.simplexMoreRow.laid w)/\sizedMet enc Tryz.prog Tryz.f3 (OpenSpec.ofChange Rows.simplexMoreSpec) false w args)
  (Rows.simplexMoreSpec.post enc Tryz.prog Tryz.f3 false true false false):=by
 refine returnsInHanded_of_change_and (C:=Tryz.checked) (X:=λw _=>laidMetH Tryz.prog Rows.simplexMoreRow.laid w) (λ_ _ _ m h=>h.of_heap m) own j (by kernel_rfl) Tryz.func3
  (ChangeSpec.witness_shaped (enc:=enc) (C:=Tryz.checked) (os:=os) (X:=λw _=>laidMetH Tryz.prog Rows.simplexMoreRow.laid w) false (World.laidAll Tryz.prog os Rows.simplexMoreRow.laid) #[.agg #[.slice none 0 0,.slice none 0 0],.agg #[.string ⟨#[]⟩,.int .i64 0,.slice none 0 0,.string ⟨#[]⟩,.string ⟨#[]⟩],.int .i64 0] 8 (World.laidAll_os _ _ _)
   (World.shaped_of_ZipB (by kernel_rfl) (by kernel_rfl)) (by kernel_rfl) (by kernel_rfl) (by kernel_rfl)
   (by rw[MakeChecks.laidMetH_plain _ _ _ (by kernel_rfl)];exact laidMet_laidAll _ (by kernel_rfl) (by kernel_rfl))) ?_
 intro W m args o _ _ p d _ _ f _;have a:∀(j:Nat) t v,Tryz.f3.params[j]? = some t->args[j]? = some v->Value.okWide Tryz.prog W .any m t v:=p;have b:=d;obtain⟨q,_,r,s,rfl,_,_⟩:=d;have g:DataW.TrodAll enc Tryz.prog W 0 (λ_=>true) true Tryz.f3.params.toList args.toList o q:=r;rw[Tryz.params3]at g a;obtain⟨u,x,y,_,_,_,_,_,_,rfl,rfl,rfl,i,k,z⟩:=trodAll_three g;obtain⟨gg,rfl,rfl,rfl,l⟩:=open_int Tryz.underlying3 (a 2 3 y rfl rfl) z;obtain⟨rfl,rfl⟩:=trodVars_none s;rw[MakeChecks.laidMetH_plain _ _ _ (by kernel_rfl)]at f
 have d:Lib.TabIs Tryz.prog W "internal/strconv.uint64pow10" .u64 Dam.Tab.vr:=
  Lib.tabIs_of_head (n:=20) Dam.Tab.Ci (t:=425) (e:=116) (by kernel_rfl) Tryz.underlying425 Tryz.underlying116 (by kernel_rfl) (by kernel_rfl) (laidMet.tail (laidMet.tail f))
 have f:=l;simp[Lit.wf,IntKind.min,IntKind.max,IntKind.signed,IntKind.bits]at f;refine(Dam.C.Vz d (YI (a 0 25 u rfl rfl) i) (Hh (a 1 28 x rfl rfl) k) (gg:=gg) (by omega) (by omega)).mono λe _ ⟨A,c⟩=>?_;subst A
 exact⟨_,rfl,_,_,_,[],_,[],b,trodAll_mk1 (shut_bool Tryz.underlying4 _),trodAll_mk3
  (Below.trod laidOut (by kernel_rfl) (of_decide_eq_true (by kernel_rfl)) i c λx a=>b.lt x (by simp[a]))
  (Below.trod laidOut (by kernel_rfl) (of_decide_eq_true (by kernel_rfl)) k c λx a=>b.lt x (by simp[a]))
  (shut_int Tryz.underlying3 l),rfl,c.frame _,λh=>by cases h⟩
theorem said:Rows.SimplexMoreSaid:=
 OpenClaim.holds_of_wide 3 Tryz.f3 rfl rfl rfl rfl rfl rfl rfl ⟨rfl,rfl,rfl,rfl,rfl⟩ rfl rfl rfl rfl rfl O1 Tryz.func3 facts
  (of_decide_eq_true (by kernel_rfl)) (by unfold Func.isWrapper;first | (rw[if_pos (by decide +kernel)];kernel_rfl) | (rw[if_neg (by decide +kernel)];exact⟨rfl,rfl⟩))
  (λa b H c _=>lifted a b H c)
theorem card:Rows.SimplexMoreCardSaid:=
 Claim7.holds_tied_plain_at .later [] _ _ _ _ said (λ_ h=>by cases h) (by kernel_rfl) (λ_ h=>by cases h) simplexMore_row_tie rfl ⟨rfl,rfl⟩ (by kernel_rfl) rfl
  (λf b c d=>by
   obtain rfl:f=3:=Option.some.inj (O1.symm.trans c) |>.symm
   obtain rfl:b=Tryz.f3:=(Option.some.inj (Tryz.func3.symm.trans d)).symm;refine⟨by kernel_rfl,λj t a=>?_⟩;rw[Tryz.params3]at a
   rcases j with _ | _ | _ | j
   ·obtain rfl:25=t:=by simpa using a
    kernel_rfl
   ·obtain rfl:28=t:=by simpa using a
    kernel_rfl
   ·obtain rfl:3=t:=by simpa using a
    kernel_rfl
   ·simp at a) goesBy
#print axioms card
end Go.Proofs.YtkjakecbclpfpaaGreatDoor
