/- Closed facts, by the kernel. -/
import Derived.Test.YtpkkkofoeplceaaGreatDoorKB
import Derived.KernelRfl
namespace Go.Dam.Tab
open Go Go.Dam Go.Dam.C
set_option maxRecDepth 1000000
theorem EI:okB (e2K Bb ⟨0,[],none⟩ 19 [] A2)=true:=by kernel_rfl
end Go.Dam.Tab
