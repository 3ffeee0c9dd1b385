/- Closed facts, by the kernel. -/
import Derived.Test.YtekdmgimlfodkaaGreatDoorRows
import Derived.JoinedOf
import Derived.ProofKit
import Derived.KernelRfl
namespace Go.Proofs.YtekdmgimlfodkaaGreatDoor
open Go
set_option maxRecDepth 100000
theorem tU:(laidOutB Tryz.prog)=true:=by kernel_rfl
theorem awK:(namedTie Tryz.prog Rows.mipBudgetRow.named Rows.mipBudgetSpec.vars)=true:=by kernel_rfl
theorem N0:((Rows.mipBudgetRow.knobs==[]))=true:=by kernel_rfl
theorem N1:((Rows.mipBudgetRow.unfollowed==Tryz.prog.unfollowed 3))=true:=by kernel_rfl
theorem awL:((Rows.mipBudgetRow.maps==(Tryz.f3.params.toList++Rows.mipBudgetSpec.plain.varTypes Tryz.prog).any (Tryz.prog.mapsRec ·)))=true:=by kernel_rfl
theorem awM:((Rows.mipBudgetRow.loops==(Tryz.f3.params.toList++Rows.mipBudgetSpec.plain.varTypes Tryz.prog).any (Tryz.prog.loopsFrom ·)))=true:=by kernel_rfl
theorem awN:(Tryz.f3.resultTypes.all (λt=>Tryz.prog.readableRec t&&decide (t<Tryz.prog.types.size)))=true:=by kernel_rfl
theorem awO:((Rows.mipBudgetRow.plainKeys==Tryz.prog.plainKeys))=true:=by kernel_rfl
theorem awP:(Tryz.prog.mayEnter)=true:=by kernel_rfl
theorem awQ:((Rows.mipBudgetRow.kinds==(if Rows.mipBudgetRow.domain.isEmpty then[] else Tryz.f3.params.toList.map λt=>match Tryz.prog.underlying t with | some (.int k)=>some k | _=>none)))=true:=by kernel_rfl
theorem awR:(Rows.mipBudgetRow.veiledFits Tryz.prog Tryz.f3.params.toList (Tryz.f3.params.toList++Rows.mipBudgetSpec.plain.varTypes Tryz.prog++Tryz.f3.resultTypes.toList))=true:=by kernel_rfl
end Go.Proofs.YtekdmgimlfodkaaGreatDoor
