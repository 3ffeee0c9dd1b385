/- The table is the program. -/
import Derived.Test.YtdembkeecfhadaaGreatDoorTabTwo
import Derived.Test.YtdembkeecfhadaaGreatDoorDamTwo
import Derived.Test.YtdembkeecfhadaaGreatDoorProg
import Derived.KernelRfl
namespace Go.Dam.Tab
open Go Go.Dam Go.Proofs
set_option maxRecDepth 1000000
def noG : Nat → Bool := fun _ => false
def oneG : Nat → Bool := fun g => Nat.beq g 1
def OkAt (P : Program) (G : Nat → Bool) (f : Nat) (F : DFunc) : Prop := ∃ fn c, P.funcs[f]? = some fn ∧ fn.body = some c ∧ fn.name ≠ "runtime.NumGoroutine" ∧ F = cFunc P G fn
theorem okAt_of {P : Program} {G : Nat → Bool} {f : Nat} {fn : Func} {F : DFunc} (h1 : P.funcs[f]? = some fn) (h2 : fn.body.isSome = true) (h3 : (fn.name == "runtime.NumGoroutine") = false) (h4 : cFunc P G fn = F) : OkAt P G f F := by
  obtain ⟨c, hc⟩ := Option.isSome_iff_exists.1 h2
  exact ⟨fn, c, h1, hc, by simpa using h3, h4.symm⟩
inductive TreeOk (P : Program) (G : Nat → Bool) : Tr DFunc → Nat → Nat → Prop
  | lf {b s : Nat} : TreeOk P G .lf b s
  | no {l r : Tr DFunc} {b s : Nat} (hl : TreeOk P G l (b + s) (2 * s)) (hr : TreeOk P G r (b + 2 * s) (2 * s)) : TreeOk P G (.nd l none r) b s
  | yes {l r : Tr DFunc} {F : DFunc} {b s : Nat} (hF : OkAt P G b F) (hl : TreeOk P G l (b + s) (2 * s)) (hr : TreeOk P G r (b + 2 * s) (2 * s)) : TreeOk P G (.nd l (some F) r) b s
theorem TreeOk.get {P : Program} {G : Nat → Bool} {t : Tr DFunc} {b s : Nat} (h : TreeOk P G t b s) : ∀ {k : Nat} {F : DFunc}, t.get k = some F → OkAt P G (b + s * k) F := by
  induction h with
  | lf => intro k F h; cases h
  | no hl hr ihl ihr =>
    intro k F h
    rcases three k with rfl | ⟨j, rfl⟩ | ⟨j, rfl⟩
    · cases h
    · rw [get_odd] at h
      have := ihl h
      rwa [show ∀ b s : Nat, b + s + 2 * s * j = b + s * (2 * j + 1) by intro b s; rw [Nat.mul_add, Nat.mul_one, ← Nat.mul_assoc, Nat.mul_comm s 2]; omega] at this
    · rw [get_even] at h
      have := ihr h
      rwa [show ∀ b s : Nat, b + 2 * s + 2 * s * j = b + s * (2 * j + 2) by intro b s; rw [Nat.mul_add, ← Nat.mul_assoc, Nat.mul_comm s 2]; omega] at this
  | yes hF hl hr ihl ihr =>
    intro k F h
    rcases three k with rfl | ⟨j, rfl⟩ | ⟨j, rfl⟩
    · simp only [Tr.get] at h
      cases h
      exact hF
    · rw [get_odd] at h
      have := ihl h
      rwa [show ∀ b s : Nat, b + s + 2 * s * j = b + s * (2 * j + 1) by intro b s; rw [Nat.mul_add, Nat.mul_one, ← Nat.mul_assoc, Nat.mul_comm s 2]; omega] at this
    · rw [get_even] at h
      have := ihr h
      rwa [show ∀ b s : Nat, b + 2 * s + 2 * s * j = b + s * (2 * j + 2) by intro b s; rw [Nat.mul_add, ← Nat.mul_assoc, Nat.mul_comm s 2]; omega] at this
end Go.Dam.Tab
