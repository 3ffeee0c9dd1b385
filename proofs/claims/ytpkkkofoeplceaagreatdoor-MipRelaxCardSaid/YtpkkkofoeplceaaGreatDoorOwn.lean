/- The call returns true. -/
import Derived.Test.YtpkkkofoeplceaaGreatDoorBodies
import Derived.Test.YtpkkkofoeplceaaGreatDoorLawD
namespace Go.Dam.C
open Go Go.Dam Go.Proofs Go.RowKit Go.Dam.Tab
set_option maxRecDepth 1000000
theorem Vy{f:FuncId}{args:List Value}{hi:Array Value}{R:Value->ae->Prop}{W:World}{γ:aT}{H:ae}{v:Value}(h:In gN (λ_=>True) W γ H)(c:Call pr ⟨0,[],none⟩ f args H R)(d:∀r H,R r H->r=v)(aI:bN γ args hi.toList)
 (g:∀γ aQ,aO γ v aQ->aQ=v) (i:(callFunc f hi).run Tryz.prog W=.ok (.enter f hi) W):
 Calls Tryz.prog f hi W λe ay=>e=.returned v/\Below W.heap.size W ay:=by
 let⟨r,b,⟨N,j⟩,k⟩:=c;obtain rfl:=d r b k;have l:fX gu γ:=by
  intro e f;obtain rfl:=Rp e f;let⟨L,d,e,f⟩:=h.y9;exact⟨L,d,e,f⟩
 have a:=acb N N ⟨0,[],none⟩ f args H r b rfl (j N N (bc _) (bc _)) 0 γ W hi h.rel l aI
 rcases a with⟨_,a⟩ | ⟨v,ay,a,_⟩
 ·refine a.mono λ_ ay ⟨_,aQ,d,e,b⟩=>⟨?_,b.os,b.tape,b.output,b.grow,λf c=>b.u f c λb _ _ r=>(h.ro b r).elim⟩;rw[d,g _ _ e]
 ·rw[i]at a;cases a
theorem Vz{W:World}(a:Lib.TabIs Tryz.prog W "internal/strconv.uint64pow10" .u64 vr){c:Value}(i:A4 W c):
 Calls Tryz.prog 3 #[c] W λe ay=>e=.returned (.bool true)/\Below W.heap.size W ay:=by
 obtain⟨e,d,b⟩:∃j d,W.heap[1]? = some (.cells xO j d):=by
  unfold Lib.TabIs World.var? at a;rw[Ci]at a;simp only[hJ]at a;split at a
  ·rename_i _ e f b;simp only[aJ]at a;subst a;exact⟨e,f,b⟩
  ·cases a
 obtain⟨_,k⟩:=i.lift (O:=gN);obtain⟨_,l,m,g,_,_,n,o⟩:=k _ _ (In.start (O:=gN) (N:=λ_=>True) (λ_ h=>⟨rfl,h,e,d,b⟩) b trivial);have p:bl ⟨0,[],none⟩ l:=⟨g.ok,g.q⟩;have q:=o;have r:=GJ Ip p q;exact Vy (f:=3) (args:=[m]) (hi:=#[c]) g r (λ_ _ h=>h.2) (.cons n .nil) (λ_ _ h=>h.mo) (by simp[callFunc,Tryz.func3];rfl)
end Go.Dam.C
