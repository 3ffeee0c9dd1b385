/- The call returns true. -/
import Derived.Test.YtcdpdaildggfiaaGreatDoorBodies
import Derived.Test.YtcdpdaildggfiaaGreatDoorLawD
namespace Go.Dam.C
open Go Go.Dam Go.Proofs Go.RowKit Go.Dam.Tab
set_option maxRecDepth 1000000
theorem Nn{f:FuncId}{args:List Value}{fm:Array Value}{R:Value->ad->Prop}{W:World}{γ:aL}{H:ad}{v:Value}(h:In fh (λ_=>True) W γ H)(c:Call me ⟨0,[],none⟩ f args H R)(d:∀r H,R r H->r=v)(eA:br γ args fm.toList)
 (g:∀γ aH,aD γ v aH->aH=v) (i:(callFunc f fm).run Tryz.prog W=.ok (.enter f fm) W):
 Calls Tryz.prog f fm W λe ao=>e=.returned v/\Below W.heap.size W ao:=by
 obtain⟨r,b,⟨N,j⟩,k⟩:=c;obtain rfl:=d r b k;have l:eF eR γ:=by
  intro e f;obtain rfl:=JN e f;obtain⟨L,d,e,f⟩:=h.uk;exact⟨L,d,e,f⟩
 have a:=TL N N ⟨0,[],none⟩ f args H r b rfl (j N N (bg _) (bg _)) 0 γ W fm h.rel l eA
 rcases a with⟨_,a⟩ | ⟨v,ao,a,_⟩
 ·refine a.mono λ_ ao ⟨_,aH,d,e,b⟩=>⟨?_,b.os,b.tape,b.output,b.grow,λf c=>b.u f c λb _ _ r=>(h.ro b r).elim⟩;rw[d,g _ _ e]
 ·rw[i]at a;cases a
theorem No{W:World}(a:Lib.TabIs Tryz.prog W "internal/strconv.uint64pow10" .u64 q4){c:Value}(m:v7 W c){d:Value}(n:tr W d){g:Value}(o:tr W g):
 Calls Tryz.prog 3 #[c,d,g] W λe ao=>e=.returned (.bool true)/\Below W.heap.size W ao:=by
 obtain⟨e,i,b⟩:∃p i,W.heap[1]? = some (.cells s4 p i):=by
  unfold Lib.TabIs World.var? at a;rw[xj]at a;simp only[fJ]at a;split at a
  ·rename_i _ e f b;simp only[ax]at a;subst a;exact⟨e,f,b⟩
  ·cases a
 obtain⟨_,q⟩:=m.lift (O:=fh);obtain⟨_,r⟩:=n.lift (O:=fh);obtain⟨_,s⟩:=o.lift (O:=fh);obtain⟨_,_,t,u,_,_,v,w⟩:=q _ _ (In.start (O:=fh) (N:=λ_=>True) (λ_ h=>⟨rfl,h,e,i,b⟩) b trivial);obtain⟨_,_,x,y,z,A,B,C⟩:=r _ _ u;obtain⟨_,D,E,j,k,l,F,G⟩:=s _ _ y;have H:bs ⟨0,[],none⟩ D:=⟨j.ok,j.dD⟩;have I:=w.ext (A.trans l);have J:=C.ext l;have K:=G;have L:=Y9 ZV H I J K;exact Nn (f:=3) (args:=[t,x,E]) (fm:=#[c,d,g]) j L (λ_ _ h=>h.2) (.cons ((v.mono z).mono k) (.cons (B.mono k) (.cons F .nil))) (λ_ _ h=>h.jP) (by simp[callFunc,Tryz.func3];rfl)
end Go.Dam.C
