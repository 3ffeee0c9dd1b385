/- Closed facts, by the kernel. -/
import Derived.Test.YtedamoknpbihhaaGreatDoorRows
import Derived.JoinedOf
import Derived.ProofKit
import Derived.KernelRfl
namespace Go.Proofs.YtedamoknpbihhaaGreatDoor
open Go
set_option maxRecDepth 100000
theorem j1 : (laidOutB Tryz.prog) = true := by kernel_rfl
theorem j4 : (namedTie Tryz.prog Rows.basisAllRow.named Rows.basisAllSpec.vars) = true := by kernel_rfl
theorem j7 : ((Rows.basisAllRow.knobs == [])) = true := by kernel_rfl
theorem j10 : ((Rows.basisAllRow.unfollowed == Tryz.prog.unfollowed 3)) = true := by kernel_rfl
theorem j13 : ((Rows.basisAllRow.maps == (Tryz.f3.params.toList ++ Rows.basisAllSpec.plain.varTypes Tryz.prog).any (Tryz.prog.mapsRec ·))) = true := by kernel_rfl
theorem j16 : ((Rows.basisAllRow.loops == (Tryz.f3.params.toList ++ Rows.basisAllSpec.plain.varTypes Tryz.prog).any (Tryz.prog.loopsFrom ·))) = true := by kernel_rfl
theorem j19 : (Tryz.f3.resultTypes.all (fun t => Tryz.prog.readableRec t && decide (t < Tryz.prog.types.size))) = true := by kernel_rfl
theorem j22 : ((Rows.basisAllRow.plainKeys == Tryz.prog.plainKeys)) = true := by kernel_rfl
theorem j25 : (Tryz.prog.mayEnter) = true := by kernel_rfl
theorem j28 : ((Rows.basisAllRow.kinds == (if Rows.basisAllRow.domain.isEmpty then [] else Tryz.f3.params.toList.map fun t => match Tryz.prog.underlying t with | some (.int k) => some k | _ => none))) = true := by kernel_rfl
theorem j31 : (Rows.basisAllRow.veiledFits Tryz.prog Tryz.f3.params.toList (Tryz.f3.params.toList ++ Rows.basisAllSpec.plain.varTypes Tryz.prog ++ Tryz.f3.resultTypes.toList)) = true := by kernel_rfl
end Go.Proofs.YtedamoknpbihhaaGreatDoor
