/- Closed facts of the row. -/
import Derived.Test.YtcdpdaildggfiaaGreatDoorKF0
import Derived.Test.YtcdpdaildggfiaaGreatDoorKF1
import Derived.Test.YtcdpdaildggfiaaGreatDoorKF2
import GoSem.ClaimSeven
namespace Go.Proofs.YtcdpdaildggfiaaGreatDoor
open Go
set_option maxRecDepth 100000
theorem er{a b:Bool}(h:a=true)(g:b=true):(a&&b)=true:=by rw[h,g];rfl
theorem facts:joinedFacts Tryz.prog 3 Tryz.f3 Rows.probOwnSpec Rows.probOwnRow=true:=(er (er (er (er (er (er (er (er (er (er (er (er (er (er (er (er (er (er (er (er (er (er (er (er (er (er (er (er (er (er (er OZ Ia) O') Pl) Po) Pp) Pq) Pr) Ps) Pt) O0) O1) O2) O3) O4) O5) O6) O7) O8) O9) Pa) Pb) Pc) Pd) Pe) Pf) Pg) Ph) Pj) Pk) Pm) Pn)
theorem Jn:Tryz.prog.funcs.any Func.goes=false:=by kernel_rfl
theorem OK(f:FuncId):Tryz.prog.goes f=false:=by
 have h:∀(g:Nat) (a:Func),Tryz.prog.funcs[g]? = some a->a.goes=false:=by
  intro g a b;have:=Jn;rw[Array.any_eq_false]at this;obtain⟨c,rfl⟩:=Array.getElem?_eq_some_iff.1 b;simpa using this g c
 unfold Program.goes;rw[Jn,Bool.and_false,Bool.or_false];rw[List.any_eq_false];intro g _
 cases b:Tryz.prog.funcs[g]? with
 | none=>simp
 | some a=>simp[h g a b]
theorem goesBy:false=Rows.probOwnRow.goesBy Tryz.prog:=by
 unfold OpenClaim.goesBy Program.goesAt Program.goesFrom
 cases Tryz.prog.funcNamed Rows.probOwnRow.func with
 | none=>rfl
 | some _=>simp only[Option.any_some,OK];rfl
end Go.Proofs.YtcdpdaildggfiaaGreatDoor
