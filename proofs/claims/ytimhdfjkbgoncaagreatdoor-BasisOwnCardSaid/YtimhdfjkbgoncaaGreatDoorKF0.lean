/- Closed facts, by the kernel. -/
import Derived.Test.YtimhdfjkbgoncaaGreatDoorRows
import Derived.JoinedOf
import Derived.ProofKit
import Derived.KernelRfl
namespace Go.Proofs.YtimhdfjkbgoncaaGreatDoor
open Go
set_option maxRecDepth 100000
theorem j0 : (Rows.basisOwnRow.wf (OpenSpec.ofChange Rows.basisOwnSpec)) = true := by kernel_rfl
theorem j3 : (Tryz.f3.params.all (Tryz.prog.readableRec ·)) = true := by kernel_rfl
theorem j6 : ((Tryz.prog.stops == [])) = true := by kernel_rfl
theorem j9 : ((Rows.basisOwnRow.inPlace == Tryz.prog.inPlace 3)) = true := by kernel_rfl
theorem j12 : ((Rows.basisOwnRow.named == Tryz.prog.varsNamed 3)) = true := by kernel_rfl
theorem j15 : ((Rows.basisOwnRow.mapsOut == Tryz.prog.mapsAmong Tryz.f3.resultTypes.toList)) = true := by kernel_rfl
theorem j18 : (Rows.basisOwnSpec.vars.all (Tryz.prog.varReadable ·)) = true := by kernel_rfl
theorem j21 : ((Rows.basisOwnRow.loopsOut == Tryz.f3.resultTypes.toList.any (Tryz.prog.loopsFrom ·))) = true := by kernel_rfl
theorem j24 : (Tryz.prog.stopsHeard) = true := by kernel_rfl
theorem j27 : ((Tryz.prog.make == some Rows.basisOwnRow.make)) = true := by kernel_rfl
theorem j30 : ((Rows.basisOwnRow.veiled == (Tryz.f3.params.toList ++ Rows.basisOwnSpec.plain.varTypes Tryz.prog ++ Tryz.f3.resultTypes.toList).any (Tryz.prog.veiledRec ·))) = true := by kernel_rfl
end Go.Proofs.YtimhdfjkbgoncaaGreatDoor
