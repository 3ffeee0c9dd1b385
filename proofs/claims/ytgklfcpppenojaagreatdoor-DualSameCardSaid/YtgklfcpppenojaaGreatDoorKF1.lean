/- Closed facts, by the kernel. -/
import Derived.Test.YtgklfcpppenojaaGreatDoorRows
import Derived.JoinedOf
import Derived.ProofKit
import Derived.KernelRfl
namespace Go.Proofs.YtgklfcpppenojaaGreatDoor
open Go
set_option maxRecDepth 100000
theorem tU:(laidOutB Tryz.prog)=true:=by kernel_rfl
theorem awK:(namedTie Tryz.prog Rows.dualSameRow.named Rows.dualSameSpec.vars)=true:=by kernel_rfl
theorem N0:((Rows.dualSameRow.knobs==[]))=true:=by kernel_rfl
theorem N1:((Rows.dualSameRow.unfollowed==Tryz.prog.unfollowed 3))=true:=by kernel_rfl
theorem awL:((Rows.dualSameRow.maps==(Tryz.f3.params.toList++Rows.dualSameSpec.plain.varTypes Tryz.prog).any (Tryz.prog.mapsRec ·)))=true:=by kernel_rfl
theorem awM:((Rows.dualSameRow.loops==(Tryz.f3.params.toList++Rows.dualSameSpec.plain.varTypes Tryz.prog).any (Tryz.prog.loopsFrom ·)))=true:=by kernel_rfl
theorem awN:(Tryz.f3.resultTypes.all (λt=>Tryz.prog.readableRec t&&decide (t<Tryz.prog.types.size)))=true:=by kernel_rfl
theorem awO:((Rows.dualSameRow.plainKeys==Tryz.prog.plainKeys))=true:=by kernel_rfl
theorem awP:(Tryz.prog.mayEnter)=true:=by kernel_rfl
theorem awQ:((Rows.dualSameRow.kinds==(if Rows.dualSameRow.domain.isEmpty then[] else Tryz.f3.params.toList.map λt=>match Tryz.prog.underlying t with | some (.int k)=>some k | _=>none)))=true:=by kernel_rfl
theorem awR:(Rows.dualSameRow.veiledFits Tryz.prog Tryz.f3.params.toList (Tryz.f3.params.toList++Rows.dualSameSpec.plain.varTypes Tryz.prog++Tryz.f3.resultTypes.toList))=true:=by kernel_rfl
end Go.Proofs.YtgklfcpppenojaaGreatDoor
