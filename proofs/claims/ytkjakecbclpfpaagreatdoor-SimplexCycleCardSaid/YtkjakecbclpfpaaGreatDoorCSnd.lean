/- What may stand for a call. -/
import Derived.Test.YtkjakecbclpfpaaGreatDoorCDamB
namespace Go.Dam
open Go
section
variable{O:cy}{P:Program}{G:Nat->Bool}
theorem H2{K:cv}(l:eJ O P G K){gv:Nat->Option (Perm->List Value->ae->Option (Value×ae))}(m:∀f g,gv f=some g->fq O P G f g):
 eJ O P G λah f args H=>match gv f with | some g=>g ah args H | none=>K ah f args H:=by
 intro a f args H v b c h d γ w e i j k;simp only at h;split at h
 ·rename_i g n;exact m f g n a args H v b c h d γ w e i j k
 ·exact l a f args H v b c h d γ w e i j k
end
end Go.Dam
