/- Closed facts, by the kernel. -/
import Derived.Test.YtcdpdaildggfiaaGreatDoorRows
import Derived.JoinedOf
import Derived.ProofKit
import Derived.KernelRfl
namespace Go.Proofs.YtcdpdaildggfiaaGreatDoor
open Go
set_option maxRecDepth 100000
theorem Ia:(laidOutB Tryz.prog)=true:=by kernel_rfl
theorem Po:(namedTie Tryz.prog Rows.probOwnRow.named Rows.probOwnSpec.vars)=true:=by kernel_rfl
theorem Pr:((Rows.probOwnRow.knobs==[]))=true:=by kernel_rfl
theorem O0:((Rows.probOwnRow.unfollowed==Tryz.prog.unfollowed 3))=true:=by kernel_rfl
theorem O3:((Rows.probOwnRow.maps==(Tryz.f3.params.toList++Rows.probOwnSpec.plain.varTypes Tryz.prog).any (Tryz.prog.mapsRec ·)))=true:=by kernel_rfl
theorem O6:((Rows.probOwnRow.loops==(Tryz.f3.params.toList++Rows.probOwnSpec.plain.varTypes Tryz.prog).any (Tryz.prog.loopsFrom ·)))=true:=by kernel_rfl
theorem O9:(Tryz.f3.resultTypes.all (λt=>Tryz.prog.readableRec t&&decide (t<Tryz.prog.types.size)))=true:=by kernel_rfl
theorem Pc:((Rows.probOwnRow.plainKeys==Tryz.prog.plainKeys))=true:=by kernel_rfl
theorem Pf:(Tryz.prog.mayEnter)=true:=by kernel_rfl
theorem Pj:((Rows.probOwnRow.kinds==(if Rows.probOwnRow.domain.isEmpty then[] else Tryz.f3.params.toList.map λt=>match Tryz.prog.underlying t with | some (.int k)=>some k | _=>none)))=true:=by kernel_rfl
theorem Pn:(Rows.probOwnRow.veiledFits Tryz.prog Tryz.f3.params.toList (Tryz.f3.params.toList++Rows.probOwnSpec.plain.varTypes Tryz.prog++Tryz.f3.resultTypes.toList))=true:=by kernel_rfl
end Go.Proofs.YtcdpdaildggfiaaGreatDoor
