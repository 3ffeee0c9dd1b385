/- Closed facts, by the kernel. -/
import Derived.Test.YtkjakecbclpfpaaGreatDoorRows
import Derived.JoinedOf
import Derived.ProofKit
import Derived.KernelRfl
namespace Go.Proofs.YtkjakecbclpfpaaGreatDoor
open Go
set_option maxRecDepth 100000
theorem PC:(laidOutB Tryz.prog)=true:=by kernel_rfl
theorem XA:(namedTie Tryz.prog Rows.simplexMoreRow.named Rows.simplexMoreSpec.vars)=true:=by kernel_rfl
theorem XD:((Rows.simplexMoreRow.knobs==[]))=true:=by kernel_rfl
theorem Xc:((Rows.simplexMoreRow.unfollowed==Tryz.prog.unfollowed 3))=true:=by kernel_rfl
theorem Xf:((Rows.simplexMoreRow.maps==(Tryz.f3.params.toList++Rows.simplexMoreSpec.plain.varTypes Tryz.prog).any (Tryz.prog.mapsRec ·)))=true:=by kernel_rfl
theorem Xi:((Rows.simplexMoreRow.loops==(Tryz.f3.params.toList++Rows.simplexMoreSpec.plain.varTypes Tryz.prog).any (Tryz.prog.loopsFrom ·)))=true:=by kernel_rfl
theorem Xl:(Tryz.f3.resultTypes.all (λt=>Tryz.prog.readableRec t&&decide (t<Tryz.prog.types.size)))=true:=by kernel_rfl
theorem Xp:((Rows.simplexMoreRow.plainKeys==Tryz.prog.plainKeys))=true:=by kernel_rfl
theorem Xs:(Tryz.prog.mayEnter)=true:=by kernel_rfl
theorem Xv:((Rows.simplexMoreRow.kinds==(if Rows.simplexMoreRow.domain.isEmpty then[] else Tryz.f3.params.toList.map λt=>match Tryz.prog.underlying t with | some (.int k)=>some k | _=>none)))=true:=by kernel_rfl
theorem Xz:(Rows.simplexMoreRow.veiledFits Tryz.prog Tryz.f3.params.toList (Tryz.f3.params.toList++Rows.simplexMoreSpec.plain.varTypes Tryz.prog++Tryz.f3.resultTypes.toList))=true:=by kernel_rfl
end Go.Proofs.YtkjakecbclpfpaaGreatDoor
