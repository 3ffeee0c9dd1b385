/- Closed facts, by the kernel. -/
import Derived.Test.YtimhdfjkbgoncaaGreatDoorRows
import Derived.JoinedOf
import Derived.ProofKit
import Derived.KernelRfl
namespace Go.Proofs.YtimhdfjkbgoncaaGreatDoor
open Go
set_option maxRecDepth 100000
theorem j2 : (mapsRowed Tryz.prog) = true := by kernel_rfl
theorem j5 : ((Rows.basisOwnRow.stops == [])) = true := by kernel_rfl
theorem j8 : ((Tryz.prog.stopKnobs == [])) = true := by kernel_rfl
theorem j11 : ((Rows.basisOwnRow.recurses == Tryz.prog.recurses 3)) = true := by kernel_rfl
theorem j14 : ((Rows.basisOwnRow.ifaces == (Tryz.f3.params.toList ++ Rows.basisOwnSpec.plain.varTypes Tryz.prog).any (Tryz.prog.ifacesRec ·))) = true := by kernel_rfl
theorem j17 : ((Rows.basisOwnRow.wideKeys == (Tryz.f3.params.toList ++ Rows.basisOwnSpec.plain.varTypes Tryz.prog ++ Tryz.f3.resultTypes.toList).any (Tryz.prog.wideKeysFrom ·))) = true := by kernel_rfl
theorem j20 : ((Rows.basisOwnRow.ifacesOut == Tryz.f3.resultTypes.toList.any (Tryz.prog.ifacesRec ·))) = true := by kernel_rfl
theorem j23 : (Rows.basisOwnRow.shortTexts.isNone) = true := by kernel_rfl
theorem j26 : ((Rows.basisOwnRow.lifted == Tryz.prog.liftsFinal)) = true := by kernel_rfl
theorem j29 : ((Rows.basisOwnRow.pinned == Rows.basisOwnRow.pinnedBy)) = true := by kernel_rfl
end Go.Proofs.YtimhdfjkbgoncaaGreatDoor
