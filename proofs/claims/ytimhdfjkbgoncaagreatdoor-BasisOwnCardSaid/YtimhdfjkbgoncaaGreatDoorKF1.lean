/- Closed facts, by the kernel. -/
import Derived.Test.YtimhdfjkbgoncaaGreatDoorRows
import Derived.JoinedOf
import Derived.ProofKit
import Derived.KernelRfl
namespace Go.Proofs.YtimhdfjkbgoncaaGreatDoor
open Go
set_option maxRecDepth 100000
theorem j1 : (laidOutB Tryz.prog) = true := by kernel_rfl
theorem j4 : (namedTie Tryz.prog Rows.basisOwnRow.named Rows.basisOwnSpec.vars) = true := by kernel_rfl
theorem j7 : ((Rows.basisOwnRow.knobs == [])) = true := by kernel_rfl
theorem j10 : ((Rows.basisOwnRow.unfollowed == Tryz.prog.unfollowed 3)) = true := by kernel_rfl
theorem j13 : ((Rows.basisOwnRow.maps == (Tryz.f3.params.toList ++ Rows.basisOwnSpec.plain.varTypes Tryz.prog).any (Tryz.prog.mapsRec ·))) = true := by kernel_rfl
theorem j16 : ((Rows.basisOwnRow.loops == (Tryz.f3.params.toList ++ Rows.basisOwnSpec.plain.varTypes Tryz.prog).any (Tryz.prog.loopsFrom ·))) = true := by kernel_rfl
theorem j19 : (Tryz.f3.resultTypes.all (fun t => Tryz.prog.readableRec t && decide (t < Tryz.prog.types.size))) = true := by kernel_rfl
theorem j22 : ((Rows.basisOwnRow.plainKeys == Tryz.prog.plainKeys)) = true := by kernel_rfl
theorem j25 : (Tryz.prog.mayEnter) = true := by kernel_rfl
theorem j28 : ((Rows.basisOwnRow.kinds == (if Rows.basisOwnRow.domain.isEmpty then [] else Tryz.f3.params.toList.map fun t => match Tryz.prog.underlying t with | some (.int k) => some k | _ => none))) = true := by kernel_rfl
theorem j31 : (Rows.basisOwnRow.veiledFits Tryz.prog Tryz.f3.params.toList (Tryz.f3.params.toList ++ Rows.basisOwnSpec.plain.varTypes Tryz.prog ++ Tryz.f3.resultTypes.toList)) = true := by kernel_rfl
end Go.Proofs.YtimhdfjkbgoncaaGreatDoor
