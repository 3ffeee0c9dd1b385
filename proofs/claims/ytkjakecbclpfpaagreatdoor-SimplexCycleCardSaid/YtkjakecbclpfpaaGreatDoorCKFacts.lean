/- Closed facts of the row. -/
import Derived.Test.YtkjakecbclpfpaaGreatDoorCKF0
import Derived.Test.YtkjakecbclpfpaaGreatDoorCKF1
import Derived.Test.YtkjakecbclpfpaaGreatDoorCKF2
import GoSem.ClaimSeven
namespace Go.Proofs.YtkjakecbclpfpaaGreatDoor
open Go
set_option maxRecDepth 100000
theorem fD{a b:Bool}(h:a=true)(g:b=true):(a&&b)=true:=by rw[h,g];rfl
theorem facts:joinedFacts Tryz.prog 4 Tryz.f4 Rows.simplexCycleSpec Rows.simplexCycleRow=true:=(fD (fD (fD (fD (fD (fD (fD (fD (fD (fD (fD (fD (fD (fD (fD (fD (fD (fD (fD (fD (fD (fD (fD (fD (fD (fD (fD (fD (fD (fD (fD Xb PC) Xm) Xx) XA) XB) XC) XD) XE) XF) Xc) Xd) Xe) Xf) Xg) Xh) Xi) Xj) Xk) Xl) Xn) Xo) Xp) Xq) Xr) Xs) Xt) Xu) Xv) Xw) Xy) Xz)
theorem QS:Tryz.prog.funcs.any Func.goes=false:=by kernel_rfl
theorem WV(f:FuncId):Tryz.prog.goes f=false:=by
 have h:∀(g:Nat) (a:Func),Tryz.prog.funcs[g]? = some a->a.goes=false:=by
  intro g a b;have:=QS;rw[Array.any_eq_false]at this;obtain⟨c,rfl⟩:=Array.getElem?_eq_some_iff.1 b;simpa using this g c
 unfold Program.goes;rw[QS,Bool.and_false,Bool.or_false];rw[List.any_eq_false];intro g _
 cases b:Tryz.prog.funcs[g]? with
 | none=>simp
 | some a=>simp[h g a b]
theorem goesBy:false=Rows.simplexCycleRow.goesBy Tryz.prog:=by
 unfold OpenClaim.goesBy Program.goesAt Program.goesFrom
 cases Tryz.prog.funcNamed Rows.simplexCycleRow.func with
 | none=>rfl
 | some _=>simp only[Option.any_some,WV];rfl
end Go.Proofs.YtkjakecbclpfpaaGreatDoor
