/- What may stand for a call. -/
import Derived.Test.YtgklfcpppenojaaGreatDoorDamB
namespace Go.Dam
open Go
section
variable{O:da}{P:Program}{G:Nat->Bool}
theorem N7{K:c8}(db:fT O P G K){ov:Nat->Option (Perm->List Value->ah->Option (Value×ah))}(aCp:∀f g,ov f=some g->gY O P G f g):
 fT O P G λlo f args H=>match ov f with | some g=>g lo args H | none=>K lo f args H:=by
 intro pm f args H v H' dS h base γ w dR an bA aN;simp only at h;split at h
 ·rename_i g aK;exact aCp f g aK pm args H v H' dS h base γ w dR an bA aN
 ·exact db pm f args H v H' dS h base γ w dR an bA aN
theorem axj{K vQ:c8}(db:fT O P G K)(aCq:fT O P (λ_=>false) vQ){oH:Nat->List dF}(hm:∀f,∀E∈oH f,E.ok vQ f=true):
 fT O P G λlo f args H=>match oH f with | []=>K lo f args H | es=>(match dF.apply es args H with | some r=>some r | none=>K lo f args H):=by
 intro pm f args H v H' dS h base γ w dR an bA aN;simp only at h;split at h
 ·exact db pm f args H v H' dS h base γ w dR an bA aN
 ·split at h
  ·rename_i r kB;simp only[a6]at h;subst h;exact aug (λ_=>rfl) aCq (hm f) kB an aN
  ·exact db pm f args H v H' dS h base γ w dR an bA aN
end
end Go.Dam
