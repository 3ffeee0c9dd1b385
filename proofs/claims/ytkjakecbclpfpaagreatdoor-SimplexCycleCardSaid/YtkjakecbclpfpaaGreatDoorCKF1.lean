/- Closed facts, by the kernel. -/
import Derived.Test.YtkjakecbclpfpaaGreatDoorRows
import Derived.JoinedOf
import Derived.ProofKit
import Derived.KernelRfl
namespace Go.Proofs.YtkjakecbclpfpaaGreatDoor
open Go
set_option maxRecDepth 100000
theorem PC:(laidOutB Tryz.prog)=true:=by kernel_rfl
theorem XA:(namedTie Tryz.prog Rows.simplexCycleRow.named Rows.simplexCycleSpec.vars)=true:=by kernel_rfl
theorem XD:((Rows.simplexCycleRow.knobs==[]))=true:=by kernel_rfl
theorem Xc:((Rows.simplexCycleRow.unfollowed==Tryz.prog.unfollowed 4))=true:=by kernel_rfl
theorem Xf:((Rows.simplexCycleRow.maps==(Tryz.f4.params.toList++Rows.simplexCycleSpec.plain.varTypes Tryz.prog).any (Tryz.prog.mapsRec ·)))=true:=by kernel_rfl
theorem Xi:((Rows.simplexCycleRow.loops==(Tryz.f4.params.toList++Rows.simplexCycleSpec.plain.varTypes Tryz.prog).any (Tryz.prog.loopsFrom ·)))=true:=by kernel_rfl
theorem Xl:(Tryz.f4.resultTypes.all (λt=>Tryz.prog.readableRec t&&decide (t<Tryz.prog.types.size)))=true:=by kernel_rfl
theorem Xp:((Rows.simplexCycleRow.plainKeys==Tryz.prog.plainKeys))=true:=by kernel_rfl
theorem Xs:(Tryz.prog.mayEnter)=true:=by kernel_rfl
theorem Xv:((Rows.simplexCycleRow.kinds==(if Rows.simplexCycleRow.domain.isEmpty then[] else Tryz.f4.params.toList.map λt=>match Tryz.prog.underlying t with | some (.int k)=>some k | _=>none)))=true:=by kernel_rfl
theorem Xz:(Rows.simplexCycleRow.veiledFits Tryz.prog Tryz.f4.params.toList (Tryz.f4.params.toList++Rows.simplexCycleSpec.plain.varTypes Tryz.prog++Tryz.f4.resultTypes.toList))=true:=by kernel_rfl
end Go.Proofs.YtkjakecbclpfpaaGreatDoor
