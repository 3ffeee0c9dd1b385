/- What may stand for a call. -/
import Derived.Test.YtedamoknpbihhaaGreatDoorDamTwo
namespace Go.Dam
open Go
section
variable {O : OpqT} {P : Program} {G : Nat → Bool}
/-- What stands for some functions' bodies. -/
theorem over_sound {K : Orc} (hK : SoundK O P G K) {ov : Nat → Option (Perm → List Value → Heap → Option (Value × Heap))} (hov : ∀ f g, ov f = some g → SoundF O P G f g) :
  SoundK O P G fun lo f args H => match ov f with | some g => g lo args H | none => K lo f args H := by
 intro pm f args H v H' hnum h base γ w args' hr hG ha
 simp only at h
 split at h
 · rename_i g hg
   exact hov f g hg pm args H v H' hnum h base γ w args' hr hG ha
 · exact hK pm f args H v H' hnum h base γ w args' hr hG ha
/-- Calls whose outcome is known. -/
theorem memo_orc_sound {K K0 : Orc} (hK : SoundK O P G K) (hK0 : SoundK O P (fun _ => false) K0) {memo : Nat → List Ent} (hm : ∀ f, ∀ E ∈ memo f, E.ok K0 f = true) :
  SoundK O P G fun lo f args H => match memo f with | [] => K lo f args H | es => (match Ent.apply es args H with | some r => some r | none => K lo f args H) := by
 intro pm f args H v H' hnum h base γ w args' hr hG ha
 simp only at h
 split at h
 · exact hK pm f args H v H' hnum h base γ w args' hr hG ha
 · split at h
   · rename_i r hr2
     simp only [Option.some.injEq] at h
     subst h
     exact apply_sound (fun _ => rfl) hK0 (hm f) hr2 hr ha
   · exact hK pm f args H v H' hnum h base γ w args' hr hG ha
end
end Go.Dam
