/- The call returns true. -/
import Derived.Test.YtejndadjmphbiaaGreatDoorBodies
import Derived.Test.YtejndadjmphbiaaGreatDoorLawD
namespace Go.Dam.C
open Go Go.Dam Go.Proofs Go.RowKit Go.Dam.Tab
set_option maxRecDepth 1000000
theorem Vy{f:FuncId}{args:List Value}{hi:Array Value}{R:Value->ae->Prop}{W:World}{γ:aT}{H:ae}{v:Value}(h:In gN (λ_=>True) W γ H)(c:Call pr ⟨0,[],none⟩ f args H R)(d:∀r H,R r H->r=v)(aI:bN γ args hi.toList)
 (g:∀γ aQ,aO γ v aQ->aQ=v) (i:(callFunc f hi).run Tryz.prog W=.ok (.enter f hi) W):
 Calls Tryz.prog f hi W λe ay=>e=.returned v/\Below W.heap.size W ay:=by
 let⟨r,b,⟨N,j⟩,k⟩:=c;obtain rfl:=d r b k;have l:fX gu γ:=by
  intro e f;obtain rfl:=Rp e f;let⟨L,d,e,f⟩:=h.y9;exact⟨L,d,e,f⟩
 have a:=acb N N ⟨0,[],none⟩ f args H r b rfl (j N N (bc _) (bc _)) 0 γ W hi h.rel l aI
 rcases a with⟨_,a⟩ | ⟨v,ay,a,_⟩
 ·refine a.mono λ_ ay ⟨_,aQ,d,e,b⟩=>⟨?_,b.os,b.tape,b.output,b.grow,λf c=>b.u f c λb _ _ r=>(h.ro b r).elim⟩;rw[d,g _ _ e]
 ·rw[i]at a;cases a
theorem Vz{W:World}(a:Lib.TabIs Tryz.prog W "internal/strconv.uint64pow10" .u64 vr){c:Value}(m:A4 W c){d:Value}(cL:AU W d){g:Value}(n:A8 W g):
 Calls Tryz.prog 3 #[c,d,g] W λe ay=>e=.returned (.bool true)/\Below W.heap.size W ay:=by
 obtain⟨e,i,b⟩:∃o i,W.heap[1]? = some (.cells xO o i):=by
  unfold Lib.TabIs World.var? at a;rw[Ci]at a;simp at a;split at a
  ·rename_i _ e f b;simp at a;subst a;exact⟨e,f,b⟩
  ·cases a
 let⟨_,p⟩:=m.lift (O:=gN);let⟨_,q⟩:=cL.lift (O:=gN);let⟨_,r⟩:=n.lift (O:=gN);let⟨_,_,s,t,_,_,u,v⟩:=p _ _ (In.start (O:=gN) (N:=λ_=>True) (λ_ h=>⟨rfl,h,e,i,b⟩) b trivial);let⟨_,_,w,x,y,z,A,B⟩:=q _ _ t;let⟨_,C,D,j,k,l,E,F⟩:=r _ _ x;have G:bl ⟨0,[],none⟩ C:=⟨j.ok,j.ep⟩;have H:=v.ext (z.trans l);have I:=B.ext l;have J:=F;have K:=UB abR G H I J;exact Vy (f:=3) (args:=[s,w,D]) (hi:=#[c,d,g]) j K (λ_ _ h=>h.2) (.cons ((u.mono y).mono k) (.cons (A.mono k) (.cons E .nil))) (λ_ _ h=>h.mo) (by simp[callFunc,Tryz.func3];rfl)
end Go.Dam.C
