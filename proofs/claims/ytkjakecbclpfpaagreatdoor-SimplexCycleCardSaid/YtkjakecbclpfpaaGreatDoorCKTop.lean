/- Closed facts, by the kernel. -/
import Derived.Test.YtkjakecbclpfpaaGreatDoorCKB
import Derived.KernelRfl
namespace Go.Dam.Tab
open Go Go.Dam Go.Dam.C
set_option maxRecDepth 1000000
theorem zG:lits.all (gE (e2 ln) 278)=true:=by kernel_rfl
theorem Ds:okB (e2 gi ⟨0,[],none⟩ 152 [] A2)=true:=by kernel_rfl
theorem top:okB (e2 Bp ⟨0,[],none⟩ 15 [] A2)=true:=by kernel_rfl
end Go.Dam.Tab
