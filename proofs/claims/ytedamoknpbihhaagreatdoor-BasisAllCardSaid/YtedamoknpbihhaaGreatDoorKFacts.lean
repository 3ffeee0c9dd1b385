/- Closed facts of the row. -/
import Derived.Test.YtedamoknpbihhaaGreatDoorKF0
import Derived.Test.YtedamoknpbihhaaGreatDoorKF1
import Derived.Test.YtedamoknpbihhaaGreatDoorKF2
import GoSem.ClaimSeven
namespace Go.Proofs.YtedamoknpbihhaaGreatDoor
open Go
set_option maxRecDepth 100000
theorem andT {a b : Bool} (h : a = true) (g : b = true) : (a && b) = true := by rw [h, g]; rfl
theorem facts : joinedFacts Tryz.prog 3 Tryz.f3 Rows.basisAllSpec Rows.basisAllRow = true := (andT (andT (andT (andT (andT (andT (andT (andT (andT (andT (andT (andT (andT (andT (andT (andT (andT (andT (andT (andT (andT (andT (andT (andT (andT (andT (andT (andT (andT (andT (andT j0 j1) j2) j3) j4) j5) j6) j7) j8) j9) j10) j11) j12) j13) j14) j15) j16) j17) j18) j19) j20) j21) j22) j23) j24) j25) j26) j27) j28) j29) j30) j31)
theorem noGoes : Tryz.prog.funcs.any Func.goes = false := by kernel_rfl
theorem goes_false (f : FuncId) : Tryz.prog.goes f = false := by
 have h : ∀ (g : Nat) (fn : Func), Tryz.prog.funcs[g]? = some fn → fn.goes = false := by
  intro g fn hg
  have := noGoes
  rw [Array.any_eq_false] at this
  obtain ⟨hlt, rfl⟩ := Array.getElem?_eq_some_iff.1 hg
  simpa using this g hlt
 unfold Program.goes
 rw [noGoes, Bool.and_false, Bool.or_false]
 rw [List.any_eq_false]
 intro g _
 cases hg : Tryz.prog.funcs[g]? with
 | none => simp
 | some fn => simp [h g fn hg]
theorem goesBy : false = Rows.basisAllRow.goesBy Tryz.prog := by
 unfold OpenClaim.goesBy Program.goesAt Program.goesFrom
 cases Tryz.prog.funcNamed Rows.basisAllRow.func with
 | none => rfl
 | some f => simp only [Option.any_some, goes_false]; rfl
end Go.Proofs.YtedamoknpbihhaaGreatDoor
