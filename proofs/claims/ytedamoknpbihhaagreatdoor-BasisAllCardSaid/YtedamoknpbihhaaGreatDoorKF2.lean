/- Closed facts, by the kernel. -/
import Derived.Test.YtedamoknpbihhaaGreatDoorRows
import Derived.JoinedOf
import Derived.ProofKit
import Derived.KernelRfl
namespace Go.Proofs.YtedamoknpbihhaaGreatDoor
open Go
set_option maxRecDepth 100000
theorem j2 : (mapsRowed Tryz.prog) = true := by kernel_rfl
theorem j5 : ((Rows.basisAllRow.stops == [])) = true := by kernel_rfl
theorem j8 : ((Tryz.prog.stopKnobs == [])) = true := by kernel_rfl
theorem j11 : ((Rows.basisAllRow.recurses == Tryz.prog.recurses 3)) = true := by kernel_rfl
theorem j14 : ((Rows.basisAllRow.ifaces == (Tryz.f3.params.toList ++ Rows.basisAllSpec.plain.varTypes Tryz.prog).any (Tryz.prog.ifacesRec ·))) = true := by kernel_rfl
theorem j17 : ((Rows.basisAllRow.wideKeys == (Tryz.f3.params.toList ++ Rows.basisAllSpec.plain.varTypes Tryz.prog ++ Tryz.f3.resultTypes.toList).any (Tryz.prog.wideKeysFrom ·))) = true := by kernel_rfl
theorem j20 : ((Rows.basisAllRow.ifacesOut == Tryz.f3.resultTypes.toList.any (Tryz.prog.ifacesRec ·))) = true := by kernel_rfl
theorem j23 : (Rows.basisAllRow.shortTexts.isNone) = true := by kernel_rfl
theorem j26 : ((Rows.basisAllRow.lifted == Tryz.prog.liftsFinal)) = true := by kernel_rfl
theorem j29 : ((Rows.basisAllRow.pinned == Rows.basisAllRow.pinnedBy)) = true := by kernel_rfl
end Go.Proofs.YtedamoknpbihhaaGreatDoor
