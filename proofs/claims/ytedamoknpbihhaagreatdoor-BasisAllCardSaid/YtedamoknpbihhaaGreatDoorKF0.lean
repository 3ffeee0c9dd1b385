/- Closed facts, by the kernel. -/
import Derived.Test.YtedamoknpbihhaaGreatDoorRows
import Derived.JoinedOf
import Derived.ProofKit
import Derived.KernelRfl
namespace Go.Proofs.YtedamoknpbihhaaGreatDoor
open Go
set_option maxRecDepth 100000
theorem j0 : (Rows.basisAllRow.wf (OpenSpec.ofChange Rows.basisAllSpec)) = true := by kernel_rfl
theorem j3 : (Tryz.f3.params.all (Tryz.prog.readableRec ·)) = true := by kernel_rfl
theorem j6 : ((Tryz.prog.stops == [])) = true := by kernel_rfl
theorem j9 : ((Rows.basisAllRow.inPlace == Tryz.prog.inPlace 3)) = true := by kernel_rfl
theorem j12 : ((Rows.basisAllRow.named == Tryz.prog.varsNamed 3)) = true := by kernel_rfl
theorem j15 : ((Rows.basisAllRow.mapsOut == Tryz.prog.mapsAmong Tryz.f3.resultTypes.toList)) = true := by kernel_rfl
theorem j18 : (Rows.basisAllSpec.vars.all (Tryz.prog.varReadable ·)) = true := by kernel_rfl
theorem j21 : ((Rows.basisAllRow.loopsOut == Tryz.f3.resultTypes.toList.any (Tryz.prog.loopsFrom ·))) = true := by kernel_rfl
theorem j24 : (Tryz.prog.stopsHeard) = true := by kernel_rfl
theorem j27 : ((Tryz.prog.make == some Rows.basisAllRow.make)) = true := by kernel_rfl
theorem j30 : ((Rows.basisAllRow.veiled == (Tryz.f3.params.toList ++ Rows.basisAllSpec.plain.varTypes Tryz.prog ++ Tryz.f3.resultTypes.toList).any (Tryz.prog.veiledRec ·))) = true := by kernel_rfl
end Go.Proofs.YtedamoknpbihhaaGreatDoor
