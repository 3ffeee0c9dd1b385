/- The self-test returns true. -/
import Derived.Test.YtkjakecbclpfpaaGreatDoorCKTop
import Derived.Test.YtkjakecbclpfpaaGreatDoorCKTop7
import Derived.Test.YtkjakecbclpfpaaGreatDoorCW3A
namespace Go.Dam.C
open Go Go.Dam Go.Proofs Go.RowKit Go.Dam.Tab Go.Proofs.YtkjakecbclpfpaaGreatDoor
set_option maxRecDepth 1000000
theorem wO{O:cy}(a:∀w N b,O.rel w N b (.nat 0)->∃e c,w.heap[b]? = some (.cells xO e c)):∀x∈ln,fq O Tryz.prog gu x.1 x.2:=
 hq abi<|hq (abh a)<|hq abk<|hq abl<|hq abj<|hq WL<|hq WM<|hq WN<|Rw
theorem vz{O:cy}{l:List (Nat×sF)}(aY:∀x∈l,fq O Tryz.prog gu x.1 x.2):eJ O Tryz.prog gu (Tab.e2 l):=by
 unfold Tab.e2;rw[Dy];exact xz (yZ mixed) abD (λ_ a=>Cz a λ_ _ h=>y5 aY h) 60
theorem mZ:∀x∈gi,fq gN Tryz.prog gu x.1 x.2:=
 hq (x5 rfl Rp (vz (wO abB)) (eA.1 zG))<|hq nK.SK<|hq nK.SH<|hq nK.SD<|hq nK.SM<|hq nK.SI<|hq nK.SF<|hq nK.SE<|hq nK.SJ<|hq nK.SL<|hq nK.SG<|hq nK.SO<|hq nK.SN<|wO WE
theorem Ze{r:Option (Value×ae)}(h:okB r=true):∃ab,r=some (.bool true,ab):=by
 unfold okB at h;split at h
 ·rename_i ab;exact⟨ab,rfl⟩
 ·cases h
theorem Dr{W:World}(a:Lib.TabIs Tryz.prog W "internal/strconv.uint64pow10" .u64 vr):∃b c,W.heap[1]? = some (.cells xO b c):=by
 unfold Lib.TabIs World.var? at a;rw[Ci]at a;simp only[hJ]at a;split at a
 ·rename_i _ e f d;simp only[aJ]at a;subst a;exact⟨e,f,d⟩
 ·cases a
theorem xv{K:cv}(b:eJ gN Tryz.prog gu K){f:FuncId}{args:List Value}{hi:Array Value}{W:World}{γ:aT}{H ab:ae}{v:Value}(h:In gN (λ_=>True) W γ H)(c:K ⟨0,[],none⟩ f args H=some (v,ab))(aI:bN γ args hi.toList)
 (d:∀γ aQ,aO γ v aQ->aQ=v) (g:(callFunc f hi).run Tryz.prog W=.ok (.enter f hi) W):
 Calls Tryz.prog f hi W λe ay=>e=.returned v/\Below W.heap.size W ay:=by
 have i:fX gu γ:=by
  intro e f;obtain rfl:=Rp e f;obtain⟨L,e,f,j⟩:=h.y9;exact⟨L,e,f,j⟩
 have a:=b ⟨0,[],none⟩ f args H v ab rfl c 0 γ W hi h.rel i aI
 rcases a with⟨_,a⟩ | ⟨v,ay,a,_⟩
 ·refine a.mono λ_ ay ⟨_,aQ,c,e,b⟩=>⟨?_,b.os,b.tape,b.output,b.grow,λf i=>b.u f i λb _ _ r=>(h.ro b r).elim⟩;rw[c,d _ _ e]
 ·rw[g]at a;cases a
theorem oS{f:FuncId}{l:List (Nat×sF)}(aY:∀x∈l,fq gN Tryz.prog gu x.1 x.2)(e:okB (Tab.e2 l ⟨0,[],none⟩ f [] A2)=true)(b:∀W,(callFunc f #[]).run Tryz.prog W=.ok (.enter f #[]) W):fq gN Tryz.prog gu f y6:=by
 intro _ _ H _ f _ h _ γ _ g c i j;unfold y6 at h;split at h
 ·cases a:my H with
  | false=>rw[a]at h;cases h
  | true=>
    rw[a]at h;simp only[cond_true,aJ,cp]at h;obtain⟨rfl,rfl⟩:=h;obtain⟨l⟩:=g;cases j;obtain⟨k,m,d⟩:=Dr (Tn WE c i a);obtain⟨f,n⟩:=Ze e;exact yH c (.bool _) ⟨(),b _,rfl⟩ (xv (vz aY) (In.start (O:=gN) (N:=λ_=>True) (λ_ h=>⟨rfl,h,k,m,d⟩) d trivial) n .nil (λγ _ h=>h.mo) (b _))
 ·cases h
theorem abg:fq gN Tryz.prog gu 15 y6:=
 oS (hq (oS (hq (oS mZ Ds λW=>by simp[callFunc,Tryz.func152];rfl) mZ) EI λW=>by simp[callFunc,Tryz.func49];rfl) mZ) top λW=>by simp[callFunc,Tryz.func15];rfl
end Go.Dam.C
