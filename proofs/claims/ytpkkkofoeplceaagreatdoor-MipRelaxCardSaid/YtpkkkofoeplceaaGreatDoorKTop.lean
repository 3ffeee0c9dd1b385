/- Closed facts, by the kernel. -/
import Derived.Test.YtpkkkofoeplceaaGreatDoorKB
import Derived.KernelRfl
namespace Go.Dam.Tab
open Go Go.Dam Go.Dam.C
set_option maxRecDepth 1000000
theorem zG:lits.all (gE (e2K ln) 240)=true:=by kernel_rfl
theorem Ds:okB (e2K gi ⟨0,[],none⟩ 111 [] A2)=true:=by kernel_rfl
theorem top:okB (e2K Bp ⟨0,[],none⟩ 4 [] A2)=true:=by kernel_rfl
end Go.Dam.Tab
