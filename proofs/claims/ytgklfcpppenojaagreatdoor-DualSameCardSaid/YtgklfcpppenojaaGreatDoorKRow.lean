/- DualSame returns true, for every input: the tied card. -/
import Derived.Test.YtgklfcpppenojaaGreatDoorOwn
import Derived.Test.YtgklfcpppenojaaGreatDoorKFacts
import Derived.Test.YtgklfcpppenojaaGreatDoorCards
import Derived.Test.YtgklfcpppenojaaGreatDoorTie
import Derived.ProofKit
import Derived.OpenShut
import Derived.Lay
import Derived.Stop.LaidErr
import Derived.Lib.LaidTab
import Derived.LaidOnce
import Derived.SevenTiedAt
import Derived.Carry
namespace Go.Proofs.YtgklfcpppenojaaGreatDoor
open Go Go.RowKit Go.ChangeShapes Go.WideShapes Go.ChangeAt Go.Dam.C
open Go.ChangeMaps (open_string shut_string)
theorem XV:Tryz.prog.funcNamed "victualler/victuallerlaw14.DualSame"=some 3:=by kernel_rfl
theorem own:ownKnob Tryz.prog.godebug=none:=by kernel_rfl
theorem laidOut:laidOutB Tryz.prog=true:=tU
section
variable{H:Type}{enc:TypeId×Value->H}{W:World}{base:Nat}{held:Bool}
theorem aw3{fuel:Nat}{v:Value}{x:DataW H×List MemPlace}(h:DataW.trod enc Tryz.prog W base (λ_=>true) held fuel 37 [v]=some x):I3 W v:=
 I2 (w:=2) Tryz.underlying37 (by kernel_rfl) h λV n y h=>by
  obtain⟨_,_,aD⟩:=lY Tryz.underlying64 h (i:=0) rfl (by kernel_rfl) rfl;obtain⟨_,_,U⟩:=lY Tryz.underlying64 h (i:=1) rfl (by kernel_rfl) rfl;exact⟨N4 Tryz.underlying3 aD,tV Tryz.underlying9 U⟩
theorem aw4{fuel:Nat}{v:Value}{x:DataW H×List MemPlace}(h:DataW.trod enc Tryz.prog W base (λ_=>true) held fuel 22 [v]=some x):I4 W v:=
 I2 (w:=5) Tryz.underlying22 (by kernel_rfl) h λV n y h=>by
  obtain⟨_,_,aD⟩:=lY Tryz.underlying66 h (i:=0) rfl (by kernel_rfl) rfl;obtain⟨_,_,U⟩:=lY Tryz.underlying66 h (i:=1) rfl (by kernel_rfl) rfl;obtain⟨_,_,aa⟩:=lY Tryz.underlying66 h (i:=2) rfl (by kernel_rfl) rfl;obtain⟨_,_,aq⟩:=lY Tryz.underlying66 h (i:=3) rfl (by kernel_rfl) rfl;obtain⟨_,_,a8⟩:=lY Tryz.underlying66 h (i:=4) rfl (by kernel_rfl) rfl;exact⟨tV Tryz.underlying9 aD,tV Tryz.underlying9 U,tV Tryz.underlying9 aa,tV Tryz.underlying9 aq,aw5 Tryz.underlying4 a8⟩
theorem aw6{fuel:Nat}{v:Value}{x:DataW H×List MemPlace}(h:DataW.trod enc Tryz.prog W base (λ_=>true) held fuel 23 [v]=some x):Dam.C.RowsIn W v:=
 I2 (w:=5) Tryz.underlying23 (by kernel_rfl) h λV n y h=>by
  obtain⟨_,_,aD⟩:=lY Tryz.underlying39 h (i:=0) rfl (by kernel_rfl) rfl;obtain⟨_,_,U⟩:=lY Tryz.underlying39 h (i:=1) rfl (by kernel_rfl) rfl;obtain⟨_,_,aa⟩:=lY Tryz.underlying39 h (i:=2) rfl (by kernel_rfl) rfl;obtain⟨_,_,aq⟩:=lY Tryz.underlying39 h (i:=3) rfl (by kernel_rfl) rfl;obtain⟨_,_,a8⟩:=lY Tryz.underlying39 h (i:=4) rfl (by kernel_rfl) rfl;exact⟨tV Tryz.underlying9 aD,N4 Tryz.underlying3 U,aw3 aa,tV Tryz.underlying9 aq,tV Tryz.underlying9 a8⟩
set_option maxRecDepth 100000 in
theorem aw7{r:Reach}{b0:Nat}{v:Value}{d:DataW H}{p:List MemPlace}(aw:Value.okWide Tryz.prog W r b0 25 v)(h:DataW.Trod enc Tryz.prog W base (λ_=>true) held 25 v d p):I5 W v:=by
 obtain⟨⟨l⟩,rfl,gb⟩:=okWide_struct Tryz.underlying25 aw;have gb:l.length=2:=gb.trans (by kernel_rfl);obtain⟨fuel,h⟩:=h
 match l,gb with
 | [kH,cy],_=>
   have h:DataW.trod enc Tryz.prog W base (λ_=>true) held fuel 25 [kH,cy]=some (d,p):=h;obtain⟨_,_,aD⟩:=lY Tryz.underlying25 h (i:=0) rfl (by kernel_rfl) rfl;obtain⟨_,_,U⟩:=lY Tryz.underlying25 h (i:=1) rfl (by kernel_rfl) rfl;exact⟨kH,cy,rfl,aw4 aD,aw6 U⟩
end
set_option maxRecDepth 100000 in
theorem lifted(os:Os)(started:os.Started)(H:Type)(enc:TypeId×Value->H):
 ReturnsInHanded {} Tryz.checked os 3 .any (λw args=>(Rows.dualSameSpec.pre enc Tryz.prog Tryz.f3 Rows.dualSameRow.domain false w args/\laidMetH Tryz.prog Rows.dualSameRow.laid w)/\sizedMet enc Tryz.prog Tryz.f3 (OpenSpec.ofChange Rows.dualSameSpec) false w args)
  (Rows.dualSameSpec.post enc Tryz.prog Tryz.f3 false true false false):=by
 refine returnsInHanded_of_change_and (C:=Tryz.checked) (X:=λw _=>laidMetH Tryz.prog Rows.dualSameRow.laid w) (λ_ _ _ c9 h=>h.of_heap c9) own started (by kernel_rfl) Tryz.func3
  (ChangeSpec.witness_shaped (enc:=enc) (C:=Tryz.checked) (os:=os) (X:=λw _=>laidMetH Tryz.prog Rows.dualSameRow.laid w) false (World.laidAll Tryz.prog os Rows.dualSameRow.laid) #[.agg #[.slice none 0 0,.slice none 0 0]] 8 (World.laidAll_os _ _ _)
   (World.shaped_of_ZipB (by kernel_rfl) (by kernel_rfl)) (by kernel_rfl) (by kernel_rfl) (by kernel_rfl)
   (by rw[MakeChecks.laidMetH_plain _ _ _ (by kernel_rfl)];exact laidMet_laidAll _ (by kernel_rfl) (by kernel_rfl))) ?_
 intro W base args ds gs before aw8 kg _ _ bC _;have mq:∀(j:Nat) t v,Tryz.f3.params[j]? = some t->args[j]? = some v->Value.okWide Tryz.prog W .any base t v:=aw8;have XX:=kg;obtain⟨p,q,N5,eI,rfl,_,_⟩:=kg;have nd:DataW.TrodAll enc Tryz.prog W 0 (λ_=>true) true Tryz.f3.params.toList args.toList ds p:=N5;rw[Tryz.params3]at nd mq;obtain⟨v0,d0,rfl,rfl,ea⟩:=trodAll_one nd;obtain⟨rfl,rfl⟩:=trodVars_none eI;rw[MakeChecks.laidMetH_plain _ _ _ (by kernel_rfl)]at bC
 have bK:Lib.TabIs Tryz.prog W "internal/strconv.uint64pow10" .u64 Dam.Tab.zv:=
  Lib.tabIs_of_head (n:=20) Dam.Tab.I1 (t:=396) (e:=101) (by kernel_rfl) Tryz.underlying396 Tryz.underlying101 (by kernel_rfl) (by kernel_rfl) (laidMet.tail (laidMet.tail bC))
 refine(Dam.C.aw9 bK (aw7 (mq 0 25 v0 rfl rfl) ea)).mono λe aGe ⟨he,ai⟩=>?_;subst he
 exact⟨_,rfl,_,_,_,[],_,[],XX,trodAll_mk1 (shut_bool Tryz.underlying4 _),trodAll_mk1
  (Below.trod laidOut (by kernel_rfl) (of_decide_eq_true (by kernel_rfl)) ea ai λx az=>XX.lt x (by simp[az])),rfl,ai.frame _,λh=>by cases h⟩
theorem said:Rows.DualSameSaid:=
 OpenClaim.holds_of_wide 3 Tryz.f3 rfl rfl rfl rfl rfl rfl rfl ⟨rfl,rfl,rfl,rfl,rfl⟩ rfl rfl rfl rfl rfl XV Tryz.func3 facts
  (of_decide_eq_true (by kernel_rfl)) (by unfold Func.isWrapper;first | (rw[if_pos (by decide +kernel)];kernel_rfl) | (rw[if_neg (by decide +kernel)];exact⟨rfl,rfl⟩))
  (λos started H enc _=>lifted os started H enc)
theorem card:Rows.DualSameCardSaid:=
 Claim7.holds_tied_plain_at .later [] _ _ _ _ said (λ_ h=>by cases h) (by kernel_rfl) (λ_ h=>by cases h) dualSame_row_tie rfl ⟨rfl,rfl⟩ (by kernel_rfl) rfl
  (λf fn bc axa=>by
   obtain rfl:f=3:=Option.some.inj (XV.symm.trans bc) |>.symm
   obtain rfl:fn=Tryz.f3:=(Option.some.inj (Tryz.func3.symm.trans axa)).symm;refine⟨by kernel_rfl,λj t aS=>?_⟩;rw[Tryz.params3]at aS
   rcases j with _ | j
   ·obtain rfl:25=t:=by simpa using aS
    kernel_rfl
   ·simp at aS) goesBy
#print axioms card
end Go.Proofs.YtgklfcpppenojaaGreatDoor
