/- The call returns true. -/
import Derived.Test.YtkjakecbclpfpaaGreatDoorCBodies
import Derived.Test.YtkjakecbclpfpaaGreatDoorCLawD
namespace Go.Dam.C
open Go Go.Dam Go.Proofs Go.RowKit Go.Dam.Tab
set_option maxRecDepth 1000000
theorem Vy{f:FuncId}{args:List Value}{hi:Array Value}{R:Value->ae->Prop}{W:World}{γ:aT}{H:ae}{v:Value}(h:In gN (λ_=>True) W γ H)(c:Call pr ⟨0,[],none⟩ f args H R)(d:∀r H,R r H->r=v)(aI:bN γ args hi.toList)
 (g:∀γ aQ,aO γ v aQ->aQ=v) (i:(callFunc f hi).run Tryz.prog W=.ok (.enter f hi) W):
 Calls Tryz.prog f hi W λe ay=>e=.returned v/\Below W.heap.size W ay:=by
 obtain⟨r,b,⟨N,j⟩,k⟩:=c;obtain rfl:=d r b k;have l:fX gu γ:=by
  intro e f;obtain rfl:=Rp e f;obtain⟨L,d,e,f⟩:=h.y9;exact⟨L,d,e,f⟩
 have a:=acb N N ⟨0,[],none⟩ f args H r b rfl (j N N (bc _) (bc _)) 0 γ W hi h.rel l aI
 rcases a with⟨_,a⟩ | ⟨v,ay,a,_⟩
 ·refine a.mono λ_ ay ⟨_,aQ,d,e,b⟩=>⟨?_,b.os,b.tape,b.output,b.grow,λf c=>b.u f c λb _ _ r=>(h.ro b r).elim⟩;rw[d,g _ _ e]
 ·rw[i]at a;cases a
theorem Vz{W:World}(b:Lib.TabIs Tryz.prog W "internal/strconv.uint64pow10" .u64 vr){aW:Int}(_:-9223372036854775808<=aW)(_:aW<=9223372036854775807){d:Value}(j:uo W d):
 Calls Tryz.prog 4 #[(.int .i64 aW),d] W λe ay=>e=.returned (.bool true)/\Below W.heap.size W ay:=by
 obtain⟨e,g,c⟩:∃k g,W.heap[1]? = some (.cells xO k g):=by
  unfold Lib.TabIs World.var? at b;rw[Ci]at b;simp only[hJ]at b;split at b
  ·rename_i _ e f c;simp only[aJ]at b;subst b;exact⟨e,f,c⟩
  ·cases b
 obtain⟨_,l⟩:=j.lift (O:=gN);obtain⟨_,m,n,i,_,_,o,p⟩:=l _ _ (In.start (O:=gN) (N:=λ_=>True) (λ_ h=>⟨rfl,h,e,g,c⟩) c trivial);have q:bl ⟨0,[],none⟩ m:=⟨i.ok,i.ep⟩;have r:=p;have s:=FX I8 q r (a:=aW);exact Vy (f:=4) (args:=[.int .i64 aW,n]) (hi:=#[(.int .i64 aW),d]) i s (λ_ _ h=>h.2) (.cons (.int _ _) (.cons o .nil)) (λ_ _ h=>h.mo) (by simp[callFunc,Tryz.func4];rfl)
end Go.Dam.C
