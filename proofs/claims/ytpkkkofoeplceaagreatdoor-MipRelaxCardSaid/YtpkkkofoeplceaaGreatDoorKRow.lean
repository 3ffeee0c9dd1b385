/- MipRelax returns true, for every input: the tied card. -/
import Derived.Test.YtpkkkofoeplceaaGreatDoorOwn
import Derived.Test.YtpkkkofoeplceaaGreatDoorKFacts
import Derived.Test.YtpkkkofoeplceaaGreatDoorCards
import Derived.Test.YtpkkkofoeplceaaGreatDoorTie
import Derived.ProofKit
import Derived.OpenShut
import Derived.Lay
import Derived.Stop.LaidErr
import Derived.Lib.LaidTab
import Derived.LaidOnce
import Derived.SevenTiedAt
import Derived.Carry
namespace Go.Proofs.YtpkkkofoeplceaaGreatDoor
open Go Go.RowKit Go.ChangeShapes Go.WideShapes Go.ChangeAt Go.Dam.C
open Go.ChangeMaps (open_string shut_string)
theorem O1:Tryz.prog.funcNamed "victualler/victuallerlaw14.MipRelax"=some 3:=by kernel_rfl
theorem own:ownKnob Tryz.prog.godebug=none:=by kernel_rfl
theorem laidOut:laidOutB Tryz.prog=true:=PC
section
variable{H:Type}{enc:TypeId×Value->H}{W:World}{base:Nat}{held:Bool}
theorem VI{a:Nat}{v:Value}{x:DataW H×List MemPlace}(h:DataW.trod enc Tryz.prog W base (λ_=>true) held a 58 [v]=some x):AW W v:=
 Av (w:=2) Tryz.underlying58 (by kernel_rfl) h λ_ _ _ h=>by
  obtain⟨_,_,b⟩:=hD Tryz.underlying63 h (i:=0) rfl (by kernel_rfl) rfl;obtain⟨_,_,c⟩:=hD Tryz.underlying63 h (i:=1) rfl (by kernel_rfl) rfl;exact⟨wx Tryz.underlying3 b,oO Tryz.underlying9 c⟩
theorem VK{a:Nat}{v:Value}{x:DataW H×List MemPlace}(h:DataW.trod enc Tryz.prog W base (λ_=>true) held a 22 [v]=some x):AX W v:=
 Av (w:=5) Tryz.underlying22 (by kernel_rfl) h λ_ _ _ h=>by
  obtain⟨_,_,b⟩:=hD Tryz.underlying65 h (i:=0) rfl (by kernel_rfl) rfl;obtain⟨_,_,c⟩:=hD Tryz.underlying65 h (i:=1) rfl (by kernel_rfl) rfl;obtain⟨_,_,d⟩:=hD Tryz.underlying65 h (i:=2) rfl (by kernel_rfl) rfl;obtain⟨_,_,e⟩:=hD Tryz.underlying65 h (i:=3) rfl (by kernel_rfl) rfl;obtain⟨_,_,f⟩:=hD Tryz.underlying65 h (i:=4) rfl (by kernel_rfl) rfl;exact⟨oO Tryz.underlying9 b,oO Tryz.underlying9 c,oO Tryz.underlying9 d,oO Tryz.underlying9 e,W' Tryz.underlying4 f⟩
theorem aaS{a:Nat}{v:Value}{x:DataW H×List MemPlace}(h:DataW.trod enc Tryz.prog W base (λ_=>true) held a 23 [v]=some x):Dam.C.RowsIn W v:=
 Av (w:=5) Tryz.underlying23 (by kernel_rfl) h λ_ _ _ h=>by
  obtain⟨_,_,b⟩:=hD Tryz.underlying60 h (i:=0) rfl (by kernel_rfl) rfl;obtain⟨_,_,c⟩:=hD Tryz.underlying60 h (i:=1) rfl (by kernel_rfl) rfl;obtain⟨_,_,d⟩:=hD Tryz.underlying60 h (i:=2) rfl (by kernel_rfl) rfl;obtain⟨_,_,e⟩:=hD Tryz.underlying60 h (i:=3) rfl (by kernel_rfl) rfl;obtain⟨_,_,f⟩:=hD Tryz.underlying60 h (i:=4) rfl (by kernel_rfl) rfl;exact⟨oO Tryz.underlying9 b,wx Tryz.underlying3 c,VI d,oO Tryz.underlying9 e,oO Tryz.underlying9 f⟩
set_option maxRecDepth 100000 in
theorem YI{r:Reach}{aK:Nat}{v:Value}{d:DataW H}{p:List MemPlace}(e:Value.okWide Tryz.prog W r aK 25 v)(h:DataW.Trod enc Tryz.prog W base (λ_=>true) held 25 v d p):A4 W v:=by
 obtain⟨⟨l⟩,rfl,a⟩:=okWide_struct Tryz.underlying25 e;have a:l.length=2:=a.trans (by kernel_rfl);let⟨f,h⟩:=h
 match l,a with
 | [b,c],_=>
   have h:DataW.trod enc Tryz.prog W base (λ_=>true) held f 25 [b,c]=some (d,p):=h;let⟨_,_,g⟩:=hD Tryz.underlying25 h (i:=0) rfl (by kernel_rfl) rfl;let⟨_,_,j⟩:=hD Tryz.underlying25 h (i:=1) rfl (by kernel_rfl) rfl;exact⟨b,c,rfl,VK g,aaS j⟩
end
set_option maxRecDepth 100000 in
theorem lifted(os:Os)(j:os.Started)(H:Type)(enc:TypeId×Value->H):
 ReturnsInHanded {} Tryz.checked os 3 .any (λw args=>(Rows.mipRelaxSpec.pre enc Tryz.prog Tryz.f3 Rows.mipRelaxRow.domain false w args/\laidMetH Tryz.prog Rows.mipRelaxRow.laid w)/\sizedMet enc Tryz.prog Tryz.f3 (OpenSpec.ofChange Rows.mipRelaxSpec) false w args)
  (Rows.mipRelaxSpec.post enc Tryz.prog Tryz.f3 false true false false):=by
 refine returnsInHanded_of_change_and (C:=Tryz.checked) (X:=λw _=>laidMetH Tryz.prog Rows.mipRelaxRow.laid w) (λ_ _ _ k h=>h.of_heap k) own j (by kernel_rfl) Tryz.func3
  (ChangeSpec.witness_shaped (enc:=enc) (C:=Tryz.checked) (os:=os) (X:=λw _=>laidMetH Tryz.prog Rows.mipRelaxRow.laid w) false (World.laidAll Tryz.prog os Rows.mipRelaxRow.laid) #[.agg #[.slice none 0 0,.slice none 0 0]] 8 (World.laidAll_os _ _ _)
   (World.shaped_of_ZipB (by kernel_rfl) (by kernel_rfl)) (by kernel_rfl) (by kernel_rfl) (by kernel_rfl)
   (by rw[MakeChecks.laidMetH_plain _ _ _ (by kernel_rfl)];exact laidMet_laidAll _ (by kernel_rfl) (by kernel_rfl))) ?_
 intro W k args l _ _ m a _ _ b _;have c:∀(j:Nat) t v,Tryz.f3.params[j]? = some t->args[j]? = some v->Value.okWide Tryz.prog W .any k t v:=m;have d:=a;obtain⟨p,_,o,q,rfl,_,_⟩:=a;have f:DataW.TrodAll enc Tryz.prog W 0 (λ_=>true) true Tryz.f3.params.toList args.toList l p:=o;rw[Tryz.params3]at f c;obtain⟨r,_,rfl,rfl,g⟩:=trodAll_one f;obtain⟨rfl,rfl⟩:=trodVars_none q;rw[MakeChecks.laidMetH_plain _ _ _ (by kernel_rfl)]at b
 have a:Lib.TabIs Tryz.prog W "internal/strconv.uint64pow10" .u64 Dam.Tab.vr:=
  Lib.tabIs_of_head (n:=20) Dam.Tab.Ci (t:=410) (e:=104) (by kernel_rfl) Tryz.underlying410 Tryz.underlying104 (by kernel_rfl) (by kernel_rfl) (laidMet.tail (laidMet.tail b))
 refine(Dam.C.Vz a (YI (c 0 25 r rfl rfl) g)).mono λe _ ⟨s,i⟩=>?_;subst s
 exact⟨_,rfl,_,_,_,[],_,[],d,trodAll_mk1 (shut_bool Tryz.underlying4 _),trodAll_mk1
  (Below.trod laidOut (by kernel_rfl) (of_decide_eq_true (by kernel_rfl)) g i λx a=>d.lt x (by simp[a])),rfl,i.frame _,λh=>by cases h⟩
theorem said:Rows.MipRelaxSaid:=
 OpenClaim.holds_of_wide 3 Tryz.f3 rfl rfl rfl rfl rfl rfl rfl ⟨rfl,rfl,rfl,rfl,rfl⟩ rfl rfl rfl rfl rfl O1 Tryz.func3 facts
  (of_decide_eq_true (by kernel_rfl)) (by unfold Func.isWrapper;first | (rw[if_pos (by decide +kernel)];kernel_rfl) | (rw[if_neg (by decide +kernel)];exact⟨rfl,rfl⟩))
  (λa b H c _=>lifted a b H c)
theorem card:Rows.MipRelaxCardSaid:=
 Claim7.holds_tied_plain_at .later [] _ _ _ _ said (λ_ h=>by cases h) (by kernel_rfl) (λ_ h=>by cases h) mipRelax_row_tie rfl ⟨rfl,rfl⟩ (by kernel_rfl) rfl
  (λf b c d=>by
   obtain rfl:f=3:=Option.some.inj (O1.symm.trans c) |>.symm
   obtain rfl:b=Tryz.f3:=(Option.some.inj (Tryz.func3.symm.trans d)).symm;refine⟨by kernel_rfl,λj t a=>?_⟩;rw[Tryz.params3]at a
   rcases j with _ | j
   ·obtain rfl:25=t:=by simpa using a
    kernel_rfl
   ·simp at a) goesBy
#print axioms card
end Go.Proofs.YtpkkkofoeplceaaGreatDoor
