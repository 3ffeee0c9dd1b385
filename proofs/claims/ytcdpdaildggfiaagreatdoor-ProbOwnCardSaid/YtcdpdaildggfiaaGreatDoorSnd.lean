/- What may stand for a call. -/
import Derived.Test.YtcdpdaildggfiaaGreatDoorDamB
namespace Go.Dam
open Go
section
variable{O:b0}{P:Program}{G:Nat->Bool}
theorem B4{K:bY}(l:dK O P G K){eS:Nat->Option (Perm->List Value->ad->Option (Value×ad))}(m:∀f g,eS f=some g->eh O P G f g):
 dK O P G λah f args H=>match eS f with | some g=>g ah args H | none=>K ah f args H:=by
 intro a f args H v b c h d γ w e i j k;simp only at h;split at h
 ·rename_i g n;exact m f g n a args H v b c h d γ w e i j k
 ·exact l a f args H v b c h d γ w e i j k
theorem Qy{K c:bY}(d:dK O P G K)(m:dK O P (λ_=>false) c){iY:Nat->List ch}(n:∀f,∀E∈iY f,E.ok c f=true):
 dK O P G λah f args H=>match iY f with | []=>K ah f args H | es=>(match ch.apply es args H with | some r=>some r | none=>K ah f args H):=by
 intro e f args H v g i h j γ w k a l b;simp only at h;split at h
 ·exact d e f args H v g i h j γ w k a l b
 ·split at h
  ·rename_i r o;simp only[ax]at h;subst h;exact MW (λ_=>rfl) m (n f) o a b
  ·exact d e f args H v g i h j γ w k a l b
end
end Go.Dam
