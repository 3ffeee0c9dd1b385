/- The table is the program. -/
import Derived.Test.YtkjakecbclpfpaaGreatDoorCTab
import Derived.Test.YtkjakecbclpfpaaGreatDoorCDamB
import Derived.Lib.LaidTab
import Derived.KernelRfl
namespace Go.Dam.Tab
open Go Go.Dam Go.Proofs Go.RowKit
set_option maxRecDepth 1000000
def x7(P:Program)(G:Nat->Bool)(f:Nat)(F:bg):Prop:=∃a c,P.funcs[f]? = some a/\a.body=some c/\a.name≠ "runtime.NumGoroutine"/\F=ox P G a
def zb:List Func->Nat->Bool
 | [],_=>true
 | fn::l,k=>(ext k||(fn.body.isSome&&!(fn.name== "runtime.NumGoroutine")))&&zb l (Nat.succ k)
theorem Pb:∀{l:List Func} {k i:Nat} {fn:Func},zb l k=true->l[i]? = some fn->ext (k+i)=false->fn.body.isSome=true/\(fn.name== "runtime.NumGoroutine")=false
 | [],_,_,_,_,h,_=>by simp at h
 | f::l,k,0,fn,b,h,a=>by
   simp only[hI,aJ]at h;subst h;simp only[zb,bK,jG]at b;rw[Nat.add_zero]at a
   rcases b.1 with h | h
   ·rw[h]at a;cases a
   ·exact⟨h.1,by simpa using h.2⟩
 | f::l,k,i+1,fn,a,h,b=>by
   simp only[zb,bK]at a;exact Pb a.2 (by simpa using h) (by rw[<-b];congr 1;omega)
theorem ie:zb Tryz.prog.funcs.toList 0=true:=by kernel_rfl
theorem q{G:Nat->Bool}{k:Nat}{fn:Func}(h:Tryz.prog.funcs[k]? = some fn)(b:ext k=false):x7 Tryz.prog G k (ox Tryz.prog G fn):=by
 have a:=Pb ie (i:=k) (fn:=fn) (by rw[kX];exact h) (by rw[Nat.zero_add];exact b);obtain⟨c,b⟩:=n0.1 a.1;exact⟨fn,c,h,b,by simpa using a.2,rfl⟩
theorem abD:EU Tryz.prog gu M4:=by
 intro f _ h;unfold M4 abJ at h
 cases a:ext f with
 | true=>simp[a]at h
 | false=>
   simp only[a,cond_false,xn]at h;obtain⟨_,b,rfl⟩:=h;exact q (by rw[<-kX];exact b) a
theorem mixed:Tryz.prog.follows .mixedOrders=true:=by kernel_rfl
def vr:List Int:=[1,10,100,1000,10000,100000,1000000,10000000,100000000,1000000000,10000000000,100000000000,1000000000000,10000000000000,100000000000000,1000000000000000,10000000000000000,100000000000000000,1000000000000000000,10000000000000000000]
theorem Ci:Tryz.prog.globalNamed "internal/strconv.uint64pow10"=some 1:=by kernel_rfl
theorem Rp(g:Nat)(h:gu g=true):g=1:=by
 simp only[gu,dc,cP]at h;exact h
end Go.Dam.Tab
