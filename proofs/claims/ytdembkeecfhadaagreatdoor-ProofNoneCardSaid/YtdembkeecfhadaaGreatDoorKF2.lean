/- Closed facts, by the kernel. -/
import Derived.Test.YtdembkeecfhadaaGreatDoorRows
import Derived.JoinedOf
import Derived.ProofKit
import Derived.KernelRfl
namespace Go.Proofs.YtdembkeecfhadaaGreatDoor
open Go
set_option maxRecDepth 100000
theorem j2 : (mapsRowed Tryz.prog) = true := by kernel_rfl
theorem j5 : ((Rows.proofNoneRow.stops == [])) = true := by kernel_rfl
theorem j8 : ((Tryz.prog.stopKnobs == [])) = true := by kernel_rfl
theorem j11 : ((Rows.proofNoneRow.recurses == Tryz.prog.recurses 3)) = true := by kernel_rfl
theorem j14 : ((Rows.proofNoneRow.ifaces == (Tryz.f3.params.toList ++ Rows.proofNoneSpec.plain.varTypes Tryz.prog).any (Tryz.prog.ifacesRec ·))) = true := by kernel_rfl
theorem j17 : ((Rows.proofNoneRow.wideKeys == (Tryz.f3.params.toList ++ Rows.proofNoneSpec.plain.varTypes Tryz.prog ++ Tryz.f3.resultTypes.toList).any (Tryz.prog.wideKeysFrom ·))) = true := by kernel_rfl
theorem j20 : ((Rows.proofNoneRow.ifacesOut == Tryz.f3.resultTypes.toList.any (Tryz.prog.ifacesRec ·))) = true := by kernel_rfl
theorem j23 : (Rows.proofNoneRow.shortTexts.isNone) = true := by kernel_rfl
theorem j26 : ((Rows.proofNoneRow.lifted == Tryz.prog.liftsFinal)) = true := by kernel_rfl
theorem j29 : ((Rows.proofNoneRow.pinned == Rows.proofNoneRow.pinnedBy)) = true := by kernel_rfl
end Go.Proofs.YtdembkeecfhadaaGreatDoor
