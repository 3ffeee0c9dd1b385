/- The call returns true. -/
import Derived.Test.YtbholmodckdigaaGreatDoorBodies
import Derived.Test.YtbholmodckdigaaGreatDoorLawD
import Derived.Test.YtbholmodckdigaaGreatDoorLawC
namespace Go.Dam.C
open Go Go.Dam Go.Proofs Go.RowKit Go.Dam.Tab
set_option maxRecDepth 1000000
theorem Nn{f:FuncId}{args:List Value}{fm:Array Value}{R:Value->ad->Prop}{W:World}{γ:aL}{H:ad}{v:Value}(h:In fh (λ_=>True) W γ H)(c:Call me ⟨0,[],none⟩ f args H R)(d:∀r H,R r H->r=v)(g:br γ args fm.toList)
 (i:∀γ aH,aD γ v aH->aH=v) (j:(callFunc f fm).run Tryz.prog W=.ok (.enter f fm) W):
 Calls Tryz.prog f fm W λe ao=>e=.returned v/\Below W.heap.size W ao:=by
 obtain⟨r,b,⟨N,k⟩,l⟩:=c;obtain rfl:=d r b l;have m:eF eR γ:=by
  intro e f;obtain rfl:=JN e f;obtain⟨L,d,e,f⟩:=h.uk;exact⟨L,d,e,f⟩
 have a:=TL N N ⟨0,[],none⟩ f args H r b rfl (k N N (bg _) (bg _)) 0 γ W fm h.rel m g
 rcases a with⟨_,a⟩ | ⟨v,ao,a,_⟩
 ·refine a.mono λ_ ao ⟨_,aH,d,e,b⟩=>⟨?_,b.os,b.tape,b.output,b.grow,λf c=>b.u f c λb _ _ r=>(h.ro b r).elim⟩;rw[d,i _ _ e]
 ·rw[j]at a;cases a
theorem No{W:World}(a:Lib.TabIs Tryz.prog W "internal/strconv.uint64pow10" .u64 q4){g:Value}(l:v7 W g){i:Value}(m:wh W i)(b:ByteArray)(c:ByteArray):
 Calls Tryz.prog 3 #[g,i,(.string b),(.string c)] W λe ao=>e=.returned (.bool true)/\Below W.heap.size W ao:=by
 obtain⟨e,j,d⟩:∃n j,W.heap[1]? = some (.cells s4 n j):=by
  unfold Lib.TabIs World.var? at a;rw[xj]at a;simp only[fJ]at a;split at a
  ·rename_i _ e f d;simp only[ax]at a;subst a;exact⟨e,f,d⟩
  ·cases a
 obtain⟨_,o⟩:=l.lift (O:=fh);obtain⟨_,p⟩:=m.lift (O:=fh);obtain⟨_,_,q,r,_,_,s,t⟩:=o _ _ (In.start (O:=fh) (N:=λ_=>True) (λ_ h=>⟨rfl,h,e,j,d⟩) d trivial);obtain⟨_,u,v,k,w,x,y,z⟩:=p _ _ r;have A:bs ⟨0,[],none⟩ u:=⟨k.ok,k.dD⟩;have B:=t.ext x;have C:=z;have D:=L' Tt A b c B C;exact Nn (f:=3) (args:=[q,v,.string b,.string c]) (fm:=#[g,i,(.string b),(.string c)]) k D (λ_ _ h=>h.2) (.cons (s.mono w) (.cons y (.cons (.str _) (.cons (.str _) .nil)))) (λ_ _ h=>h.jP) (by simp[callFunc,Tryz.func3];rfl)
end Go.Dam.C
