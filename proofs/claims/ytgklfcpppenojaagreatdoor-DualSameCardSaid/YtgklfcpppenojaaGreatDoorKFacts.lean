/- Closed facts of the row. -/
import Derived.Test.YtgklfcpppenojaaGreatDoorKF0
import Derived.Test.YtgklfcpppenojaaGreatDoorKF1
import Derived.Test.YtgklfcpppenojaaGreatDoorKF2
import GoSem.ClaimSeven
namespace Go.Proofs.YtgklfcpppenojaaGreatDoor
open Go
set_option maxRecDepth 100000
theorem ht{a b:Bool}(h:a=true)(g:b=true):(a&&b)=true:=by rw[h,g];rfl
theorem facts:joinedFacts Tryz.prog 3 Tryz.f3 Rows.dualSameSpec Rows.dualSameRow=true:=(ht (ht (ht (ht (ht (ht (ht (ht (ht (ht (ht (ht (ht (ht (ht (ht (ht (ht (ht (ht (ht (ht (ht (ht (ht (ht (ht (ht (ht (ht (ht jx tU) zw) Fa) awK) awS) NY) N0) awT) NZ) N1) awU) awD) awL) awV) awE) awM) awW) awF) awN) awX) awG) awO) awY) awH) awP) awZ) awI) awQ) aw0) awJ) awR)
theorem XR:Tryz.prog.funcs.any Func.goes=false:=by kernel_rfl
theorem aw1(f:FuncId):Tryz.prog.goes f=false:=by
 have h:∀(g:Nat) (fn:Func),Tryz.prog.funcs[g]? = some fn->fn.goes=false:=by
  intro g fn aK;have:=XR;rw[Array.any_eq_false]at this;obtain⟨bO,rfl⟩:=Array.getElem?_eq_some_iff.1 aK;simpa using this g bO
 unfold Program.goes;rw[XR,Bool.and_false,Bool.or_false];rw[List.any_eq_false];intro g _
 cases aK:Tryz.prog.funcs[g]? with
 | none=>simp
 | some fn=>simp[h g fn aK]
theorem goesBy:false=Rows.dualSameRow.goesBy Tryz.prog:=by
 unfold OpenClaim.goesBy Program.goesAt Program.goesFrom
 cases Tryz.prog.funcNamed Rows.dualSameRow.func with
 | none=>rfl
 | some f=>simp only[Option.any_some,aw1];rfl
end Go.Proofs.YtgklfcpppenojaaGreatDoor
