/- The call returns true. -/
import Derived.Test.YtkjakecbclpfpaaGreatDoorMBodies
import Derived.Test.YtkjakecbclpfpaaGreatDoorMLawD
import Derived.Test.YtkjakecbclpfpaaGreatDoorMLawC
namespace Go.Dam.C
open Go Go.Dam Go.Proofs Go.RowKit Go.Dam.Tab
set_option maxRecDepth 1000000
theorem Vy{f:FuncId}{args:List Value}{hi:Array Value}{R:Value->ae->Prop}{W:World}{γ:aT}{H:ae}{v:Value}(h:In gN (λ_=>True) W γ H)(c:Call pr ⟨0,[],none⟩ f args H R)(d:∀r H,R r H->r=v)(aI:bN γ args hi.toList)
 (g:∀γ aQ,aO γ v aQ->aQ=v) (i:(callFunc f hi).run Tryz.prog W=.ok (.enter f hi) W):
 Calls Tryz.prog f hi W λe ay=>e=.returned v/\Below W.heap.size W ay:=by
 obtain⟨r,b,⟨N,j⟩,k⟩:=c;obtain rfl:=d r b k;have l:fX gu γ:=by
  intro e f;obtain rfl:=Rp e f;obtain⟨L,d,e,f⟩:=h.y9;exact⟨L,d,e,f⟩
 have a:=acb N N ⟨0,[],none⟩ f args H r b rfl (j N N (bc _) (bc _)) 0 γ W hi h.rel l aI
 rcases a with⟨_,a⟩ | ⟨v,ay,a,_⟩
 ·refine a.mono λ_ ay ⟨_,aQ,d,e,b⟩=>⟨?_,b.os,b.tape,b.output,b.grow,λf c=>b.u f c λb _ _ r=>(h.ro b r).elim⟩;rw[d,g _ _ e]
 ·rw[i]at a;cases a
theorem Vz{W:World}(a:Lib.TabIs Tryz.prog W "internal/strconv.uint64pow10" .u64 vr){c:Value}(j:A4 W c){d:Value}(k:ug W d){gg:Int}(_:-9223372036854775808<=gg)(_:gg<=9223372036854775807):
 Calls Tryz.prog 3 #[c,d,(.int .i64 gg)] W λe ay=>e=.returned (.bool true)/\Below W.heap.size W ay:=by
 obtain⟨e,g,b⟩:∃l g,W.heap[1]? = some (.cells xO l g):=by
  unfold Lib.TabIs World.var? at a;rw[Ci]at a;simp only[hJ]at a;split at a
  ·rename_i _ e f b;simp only[aJ]at a;subst a;exact⟨e,f,b⟩
  ·cases a
 obtain⟨_,m⟩:=j.lift (O:=gN);obtain⟨_,n⟩:=k.lift (O:=gN);obtain⟨_,_,o,p,_,_,q,r⟩:=m _ _ (In.start (O:=gN) (N:=λ_=>True) (λ_ h=>⟨rfl,h,e,g,b⟩) b trivial);obtain⟨_,s,t,i,u,v,w,x⟩:=n _ _ p;have y:bl ⟨0,[],none⟩ s:=⟨i.ok,i.ep⟩;have z:=r.ext v;have A:=x;have B:=FD Hx y z A (ad:=gg);exact Vy (f:=3) (args:=[o,t,.int .i64 gg]) (hi:=#[c,d,(.int .i64 gg)]) i B (λ_ _ h=>h.2) (.cons (q.mono u) (.cons w (.cons (.int _ _) .nil))) (λ_ _ h=>h.mo) (by simp[callFunc,Tryz.func3];rfl)
end Go.Dam.C
