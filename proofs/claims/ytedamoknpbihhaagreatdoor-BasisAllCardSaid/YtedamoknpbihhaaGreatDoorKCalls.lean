/- The self-test returns true. -/
import Derived.Test.YtedamoknpbihhaaGreatDoorKSnd
import Derived.Lib.LaidTab
namespace Go.Dam.Tab
open Go Go.Dam Go.Proofs Go.RowKit
set_option maxRecDepth 1000000
def zs10 : List Int := [1, 10, 100, 1000, 10000, 100000, 1000000, 10000000, 100000000, 1000000000, 10000000000, 100000000000, 1000000000000, 10000000000000, 100000000000000, 1000000000000000, 10000000000000000, 100000000000000000, 1000000000000000000, 10000000000000000000]
theorem gname : Tryz.prog.globalNamed "internal/strconv.uint64pow10" = some 1 := by kernel_rfl
theorem okB_inv {r : Option (Value × Heap)} (h : okB r = true) : ∃ H', r = some (.bool true, H') := by
 unfold okB at h
 split at h
 · rename_i H'; exact ⟨H', rfl⟩
 · cases h
def γ1 : Emb := fun b => if b = 1 then some ⟨1, 0, 0, 0⟩ else none
theorem γ1_inv {b : Nat} {L : Dam.Loc} (h : γ1 b = some L) : b = 1 ∧ L = ⟨1, 0, 0, 0⟩ := by
 unfold γ1 at h
 split at h
 · simp only [Option.some.injEq] at h; exact ⟨by assumption, h.symm⟩
 · cases h
theorem h0get (b : Nat) : H0.get b = if b = 1 then some (.ro pow10) else none := by
 show ((Tr.lf : Tr Blk).set (.ro pow10) 1).get b = _
 rw [Tr.get_set]
 by_cases h : b = 1
 · rw [if_pos h, if_pos h]
 · rw [if_neg h, if_neg h]; rfl
theorem pow10_eq : pow10 = zs10.map fun z => Value.int .u64 z := by rfl
theorem calls_begun (W : World) (hT : Lib.TabIs Tryz.prog W "internal/strconv.uint64pow10" .u64 zs10) :
  Calls Tryz.prog 4 #[] W fun e w' => e = .returned (.bool true) ∧ Below W.heap.size W w' := by
 obtain ⟨elem, fz, hheap⟩ : ∃ elem fz, W.heap[1]? = some (.cells (zs10.map fun z => Value.int .u64 z).toArray elem fz) := by
  unfold Lib.TabIs World.var? at hT
  rw [gname] at hT
  simp only [Option.bind_some] at hT
  split at hT
  · rename_i cs e f hh
    simp only [Option.some.injEq] at hT
    subst hT
    exact ⟨e, f, hh⟩
  · cases hT
 have hrel : Rel noO 0 γ1 H0 W := by
  refine ⟨fun b L h => ?_, fun b L h => ?_, fun b h => ?_, fun b b' L L' h h' r r' q => ?_, fun b L h r => ?_, Nat.zero_le _⟩
  · obtain ⟨rfl, rfl⟩ := γ1_inv h
    refine ⟨.ro pow10, by rw [h0get, if_pos rfl], ⟨(Array.getElem?_eq_some_iff.1 hheap).1, fun b L h r => ?_⟩, _, elem, fz, hheap, rfl, ?_, fun i v hi => ?_⟩
    · obtain ⟨rfl, _⟩ := γ1_inv h
      rw [h0get, if_pos rfl] at r
      exact r.elim
    · rw [pow10_eq]; simp
    · rw [pow10_eq] at hi
      refine ⟨v, by simpa using hi, ?_⟩
      rw [List.getElem?_map] at hi
      cases hz : zs10[i]? with
      | none => rw [hz] at hi; cases hi
      | some z => rw [hz] at hi; simp only [Option.map_some, Option.some.injEq] at hi; subst hi; exact .int _ _
  · obtain ⟨rfl, _⟩ := γ1_inv h
    show 1 < 2
    omega
  · rw [h0get, if_neg]
    have : 2 ≤ b := h
    omega
  · obtain ⟨rfl, _⟩ := γ1_inv h
    rw [h0get, if_pos rfl] at r
    exact r.elim
  · obtain ⟨rfl, _⟩ := γ1_inv h
    rw [h0get, if_pos rfl] at r
    exact r.elim
 have hG : GRel oneG γ1 := by
  intro g hg
  have h1 : g = 1 := by
   simp only [oneG, nbeq, decide_eq_true_eq] at hg
   exact hg
  subst h1
  exact ⟨⟨1, 0, 0, 0⟩, rfl, rfl, rfl⟩
 obtain ⟨H', hrun⟩ := okB_inv top
 have hd := K2_sound ⟨0, [], none⟩ 4 [] H0 (.bool true) H' rfl hrun 0 γ1 W #[] hrel hG .nil
 have hc : (callFunc 4 #[]).run Tryz.prog W = .ok (.enter 4 #[]) W := by simp [callFunc, Tryz.func4]; rfl
 rcases hd with ⟨_, h⟩ | ⟨v, w', h, _⟩
 · refine h.mono fun en w' ⟨γ', v', h1, h2, h3⟩ => ⟨?_, h3.os, h3.tape, h3.output, h3.grow, fun c hc => h3.keep c hc fun b L hb r => ?_⟩
   · rw [h1, h2.bool_inv]
   · obtain ⟨rfl, _⟩ := γ1_inv hb
     rw [h0get, if_pos rfl] at r
     exact r.elim
 · rw [hc] at h; cases h
end Go.Dam.Tab
