/- Closed facts, by the kernel. -/
import Derived.Test.YtgklfcpppenojaaGreatDoorKE20
import Derived.Test.YtgklfcpppenojaaGreatDoorKE21
import Derived.Test.YtgklfcpppenojaaGreatDoorKE22
import Derived.Test.YtgklfcpppenojaaGreatDoorKE23
namespace Go.Dam.Tab
open Go Go.Dam
set_option maxRecDepth 1000000
noncomputable def XU(f:Nat):E9:=⟨(look f Xt).o++(look f Xu).o++(look f Xv).o++(look f Xw).o++(look f Xx).o++(look f Xy).o++(look f Xz).o++(look f XA).o++(look f XB).o++(look f XC).o++(look f XD).o++(look f XE).o++(look f XF).o++(look f XG).o++(look f XH).o++(look f XI).o++(look f XJ).o++(look f XK).o++(look f XL).o++(look f XM).o++(look f XN).o++(look f XO).o++(look f XP).o++(look f XQ).o⟩
noncomputable def aw2:c8->c8:=I0 XU XT
noncomputable def N2:c8:=Ev Xq aw2 100000 60
end Go.Dam.Tab
