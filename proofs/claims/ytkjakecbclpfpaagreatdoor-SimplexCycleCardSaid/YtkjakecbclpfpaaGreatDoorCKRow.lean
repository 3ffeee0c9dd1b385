/- SimplexCycle returns true, for every input: the tied card. -/
import Derived.Test.YtkjakecbclpfpaaGreatDoorCOwn
import Derived.Test.YtkjakecbclpfpaaGreatDoorCKFacts
import Derived.Test.YtkjakecbclpfpaaGreatDoorCards
import Derived.Test.YtkjakecbclpfpaaGreatDoorTie
import Derived.ProofKit
import Derived.OpenShut
import Derived.Lay
import Derived.Stop.LaidErr
import Derived.Lib.LaidTab
import Derived.LaidOnce
import Derived.SevenTiedAt
import Derived.Carry
namespace Go.Proofs.YtkjakecbclpfpaaGreatDoor
open Go Go.RowKit Go.ChangeShapes Go.WideShapes Go.ChangeAt Go.Dam.C
open Go.ChangeMaps (open_string shut_string)
theorem O1:Tryz.prog.funcNamed "victualler/victuallerlaw14.SimplexCycle"=some 4:=by kernel_rfl
theorem own:ownKnob Tryz.prog.godebug=none:=by kernel_rfl
theorem laidOut:laidOutB Tryz.prog=true:=PC
section
variable{H:Type}{enc:TypeId×Value->H}{W:World}{base:Nat}{held:Bool}
set_option maxRecDepth 100000 in
theorem Hp{r:Reach}{aK:Nat}{v:Value}{d:DataW H}{p:List MemPlace}(a:Value.okWide Tryz.prog W r aK 40 v)(h:DataW.Trod enc Tryz.prog W base (λ_=>true) held 40 v d p):uo W v:=by
 obtain⟨b,h⟩:=h;obtain⟨c,n,e,rfl⟩:=okWide_slice Tryz.underlying40 a;have h:DataW.trod enc Tryz.prog W base (λ_=>true) held b 40 [.slice c n e]=some (d,p):=h;exact Av (w:=1) Tryz.underlying40 (by kernel_rfl) h λ_ n _ h=>wx Tryz.underlying3 h
end
set_option maxRecDepth 100000 in
theorem lifted(os:Os)(j:os.Started)(H:Type)(enc:TypeId×Value->H):
 ReturnsInHanded {} Tryz.checked os 4 .any (λw args=>(Rows.simplexCycleSpec.pre enc Tryz.prog Tryz.f4 Rows.simplexCycleRow.domain false w args/\laidMetH Tryz.prog Rows.simplexCycleRow.laid w)/\sizedMet enc Tryz.prog Tryz.f4 (OpenSpec.ofChange Rows.simplexCycleSpec) false w args)
  (Rows.simplexCycleSpec.post enc Tryz.prog Tryz.f4 false true false false):=by
 refine returnsInHanded_of_change_and (C:=Tryz.checked) (X:=λw _=>laidMetH Tryz.prog Rows.simplexCycleRow.laid w) (λ_ _ _ l h=>h.of_heap l) own j (by kernel_rfl) Tryz.func4
  (ChangeSpec.witness_shaped (enc:=enc) (C:=Tryz.checked) (os:=os) (X:=λw _=>laidMetH Tryz.prog Rows.simplexCycleRow.laid w) false (World.laidAll Tryz.prog os Rows.simplexCycleRow.laid) #[.int .i64 0,.slice none 0 0] 8 (World.laidAll_os _ _ _)
   (World.shaped_of_ZipB (by kernel_rfl) (by kernel_rfl)) (by kernel_rfl) (by kernel_rfl) (by kernel_rfl)
   (by rw[MakeChecks.laidMetH_plain _ _ _ (by kernel_rfl)];exact laidMet_laidAll _ (by kernel_rfl) (by kernel_rfl))) ?_
 intro W l args m _ _ o b _ _ c _;have a:∀(j:Nat) t v,Tryz.f4.params[j]? = some t->args[j]? = some v->Value.okWide Tryz.prog W .any l t v:=o;have d:=b;obtain⟨p,_,q,r,rfl,_,_⟩:=b;have f:DataW.TrodAll enc Tryz.prog W 0 (λ_=>true) true Tryz.f4.params.toList args.toList m p:=q;rw[Tryz.params4]at f a;obtain⟨s,u,_,_,_,_,rfl,rfl,rfl,x,g⟩:=trodAll_two f;obtain⟨aW,rfl,rfl,rfl,i⟩:=open_int Tryz.underlying3 (a 0 3 s rfl rfl) x;obtain⟨rfl,rfl⟩:=trodVars_none r;rw[MakeChecks.laidMetH_plain _ _ _ (by kernel_rfl)]at c
 have b:Lib.TabIs Tryz.prog W "internal/strconv.uint64pow10" .u64 Dam.Tab.vr:=
  Lib.tabIs_of_head (n:=20) Dam.Tab.Ci (t:=425) (e:=116) (by kernel_rfl) Tryz.underlying425 Tryz.underlying116 (by kernel_rfl) (by kernel_rfl) (laidMet.tail (laidMet.tail c))
 have c:=i;simp[Lit.wf,IntKind.min,IntKind.max,IntKind.signed,IntKind.bits]at c;refine(Dam.C.Vz b (aW:=aW) (by omega) (by omega) (Hp (a 1 40 u rfl rfl) g)).mono λe _ ⟨y,k⟩=>?_;subst y
 exact⟨_,rfl,_,_,_,[],_,[],d,trodAll_mk1 (shut_bool Tryz.underlying4 _),trodAll_mk2
  (shut_int Tryz.underlying3 i)
  (Below.trod laidOut (by kernel_rfl) (of_decide_eq_true (by kernel_rfl)) g k λx a=>d.lt x (by simp[a])),rfl,k.frame _,λh=>by cases h⟩
set_option maxRecDepth 1000000 in
theorem said:Rows.SimplexCycleSaid:=
 OpenClaim.holds_of_wide 4 Tryz.f4 rfl rfl rfl rfl rfl rfl rfl ⟨rfl,rfl,rfl,rfl,rfl⟩ rfl rfl rfl rfl rfl O1 Tryz.func4 facts
  (of_decide_eq_true (by kernel_rfl)) (by unfold Func.isWrapper;first | (rw[if_pos (by decide +kernel)];kernel_rfl) | (rw[if_neg (by decide +kernel)];exact⟨rfl,rfl⟩))
  (λa b H c _=>lifted a b H c)
theorem card:Rows.SimplexCycleCardSaid:=
 Claim7.holds_tied_plain_at .later [] _ _ _ _ said (λ_ h=>by cases h) (by kernel_rfl) (λ_ h=>by cases h) simplexCycle_row_tie rfl ⟨rfl,rfl⟩ (by kernel_rfl) rfl
  (λf b c d=>by
   obtain rfl:f=4:=Option.some.inj (O1.symm.trans c) |>.symm
   obtain rfl:b=Tryz.f4:=(Option.some.inj (Tryz.func4.symm.trans d)).symm;refine⟨by kernel_rfl,λj t a=>?_⟩;rw[Tryz.params4]at a
   rcases j with _ | _ | j
   ·obtain rfl:3=t:=by simpa using a
    kernel_rfl
   ·obtain rfl:40=t:=by simpa using a
    kernel_rfl
   ·simp at a) goesBy
#print axioms card
end Go.Proofs.YtkjakecbclpfpaaGreatDoor
