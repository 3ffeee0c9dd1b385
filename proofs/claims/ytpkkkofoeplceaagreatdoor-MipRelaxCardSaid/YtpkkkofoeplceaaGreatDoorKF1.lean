/- Closed facts, by the kernel. -/
import Derived.Test.YtpkkkofoeplceaaGreatDoorRows
import Derived.JoinedOf
import Derived.ProofKit
import Derived.KernelRfl
namespace Go.Proofs.YtpkkkofoeplceaaGreatDoor
open Go
set_option maxRecDepth 100000
theorem PC:(laidOutB Tryz.prog)=true:=by kernel_rfl
theorem XA:(namedTie Tryz.prog Rows.mipRelaxRow.named Rows.mipRelaxSpec.vars)=true:=by kernel_rfl
theorem XD:((Rows.mipRelaxRow.knobs==[]))=true:=by kernel_rfl
theorem Xc:((Rows.mipRelaxRow.unfollowed==Tryz.prog.unfollowed 3))=true:=by kernel_rfl
theorem Xf:((Rows.mipRelaxRow.maps==(Tryz.f3.params.toList++Rows.mipRelaxSpec.plain.varTypes Tryz.prog).any (Tryz.prog.mapsRec ·)))=true:=by kernel_rfl
theorem Xi:((Rows.mipRelaxRow.loops==(Tryz.f3.params.toList++Rows.mipRelaxSpec.plain.varTypes Tryz.prog).any (Tryz.prog.loopsFrom ·)))=true:=by kernel_rfl
theorem Xl:(Tryz.f3.resultTypes.all (λt=>Tryz.prog.readableRec t&&decide (t<Tryz.prog.types.size)))=true:=by kernel_rfl
theorem Xp:((Rows.mipRelaxRow.plainKeys==Tryz.prog.plainKeys))=true:=by kernel_rfl
theorem Xs:(Tryz.prog.mayEnter)=true:=by kernel_rfl
theorem Xv:((Rows.mipRelaxRow.kinds==(if Rows.mipRelaxRow.domain.isEmpty then[] else Tryz.f3.params.toList.map λt=>match Tryz.prog.underlying t with | some (.int k)=>some k | _=>none)))=true:=by kernel_rfl
theorem Xz:(Rows.mipRelaxRow.veiledFits Tryz.prog Tryz.f3.params.toList (Tryz.f3.params.toList++Rows.mipRelaxSpec.plain.varTypes Tryz.prog++Tryz.f3.resultTypes.toList))=true:=by kernel_rfl
end Go.Proofs.YtpkkkofoeplceaaGreatDoor
