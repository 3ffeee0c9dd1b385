/- The call returns true. -/
import Derived.Test.YtimhdfjkbgoncaaGreatDoorBodies
namespace Go.Dam.C
open Go Go.Dam Go.Proofs Go.RowKit Go.Dam.Tab
set_option maxRecDepth 1000000
def H1t : Heap := ⟨(Tr.lf : Tr Blk).set (.opq (.nat 0)) 1, 2⟩
theorem h1get (b : Nat) : H1t.get b = if b = 1 then some (.opq (.nat 0)) else none := by
  show ((Tr.lf : Tr Blk).set (.opq (.nat 0)) 1).get b = _
  rw [Tr.get_set]
  by_cases h : b = 1
  · rw [if_pos h, if_pos h]
  · rw [if_neg h, if_neg h]; rfl
theorem rel_start {W : World} (hT : Lib.TabIs Tryz.prog W "internal/strconv.uint64pow10" .u64 zs10) : Rel tabO 0 γ1 H1t W := by
  obtain ⟨elem, fz, hheap⟩ : ∃ elem fz, W.heap[1]? = some (.cells tabArr elem fz) := by
    unfold Lib.TabIs World.var? at hT
    rw [gname] at hT
    simp only [Option.bind_some] at hT
    split at hT
    · rename_i cs e f hh
      simp only [Option.some.injEq] at hT
      subst hT
      exact ⟨e, f, hh⟩
    · cases hT
  refine ⟨fun b L h => ?_, fun b L h => ?_, fun b h => ?_, fun b b' L L' h h' r r' q => ?_, fun b L h r => ?_, Nat.zero_le _⟩
  · obtain ⟨rfl, rfl⟩ := γ1_inv h
    refine ⟨.opq (.nat 0), by rw [h1get, if_pos rfl], ?_⟩
    have hfr : Free γ1 H1t W 1 := ⟨(Array.getElem?_eq_some_iff.1 hheap).1, fun b L h r => by
      obtain ⟨rfl, _⟩ := γ1_inv h
      rw [h1get, if_pos rfl] at r
      exact r.elim⟩
    exact ⟨hfr, rfl, rfl, hfr, elem, fz, hheap⟩
  · obtain ⟨rfl, _⟩ := γ1_inv h
    show 1 < 2
    omega
  · rw [h1get, if_neg]
    have : 2 ≤ b := h
    omega
  · obtain ⟨rfl, _⟩ := γ1_inv h
    rw [h1get, if_pos rfl] at r
    exact r.elim
  · obtain ⟨rfl, _⟩ := γ1_inv h
    rw [h1get, if_pos rfl] at r
    exact r.elim
theorem grel_start : GRel oneG γ1 := by
  intro g hg
  have h1 : g = 1 := by
    simp only [oneG, nbeq, decide_eq_true_eq] at hg
    exact hg
  subst h1
  exact ⟨⟨1, 0, 0, 0⟩, rfl, rfl, rfl⟩
/-- From the abstract memory to the world: a call that reads no memory but the table. -/
theorem calls_of {f : FuncId} {args : List Value} {R : Value → Heap → Prop} {W : World} {v : Value} (hT : Lib.TabIs Tryz.prog W "internal/strconv.uint64pow10" .u64 zs10) (hc : Call theX ⟨0, [], none⟩ f args H1t R) (hR : ∀ r H, R r H → r = v) (ha : VRels γ1 args args)
    (hv : ∀ γ v', VRel γ v v' → v' = v) (he : (callFunc f args.toArray).run Tryz.prog W = .ok (.enter f args.toArray) W) :
    Calls Tryz.prog f args.toArray W fun e w' => e = .returned v ∧ Below W.heap.size W w' := by
  obtain ⟨r, H', ⟨N, hrun⟩, h⟩ := hc
  obtain rfl := hR r H' h
  have hd := K_sound N N ⟨0, [], none⟩ f args H1t r H' rfl (hrun N N (Nat.le_refl _) (Nat.le_refl _)) 0 γ1 W args.toArray (rel_start hT) grel_start (by simpa using ha)
  rcases hd with ⟨_, h⟩ | ⟨v, w', h, _⟩
  · refine h.mono fun en w' ⟨γ', v', h1, h2, h3⟩ => ⟨?_, h3.os, h3.tape, h3.output, h3.grow, fun c hc => h3.keep c hc fun b L hb r => ?_⟩
    · rw [h1, hv _ _ h2]
    · obtain ⟨rfl, _⟩ := γ1_inv hb
      rw [h1get, if_pos rfl] at r
      exact r.elim
  · rw [he] at h; cases h
theorem calls_own {W : World} (hT : Lib.TabIs Tryz.prog W "internal/strconv.uint64pow10" .u64 zs10) {n : Int} (h0 : -9223372036854775808 ≤ n) (h1 : n ≤ 9223372036854775807) (s : ByteArray) :
    Calls Tryz.prog 3 #[.int .i64 n, .string s] W fun e w' => e = .returned (.bool true) ∧ Below W.heap.size W w' := by
  letI : Foot := ⟨fun _ => True⟩
  have ho : Ok ⟨0, [], none⟩ H1t := ⟨rfl, Nat.zero_le _, fun b hb => by
    have hb : 2 ≤ b := hb
    rw [h1get, if_neg (by omega)], fun _ _ => trivial⟩
  have ht : Tab H1t := by unfold Tab; rw [h1get, if_pos rfl]; rfl
  have hc := Own_spec (pm := ⟨0, [], none⟩) theOX ho ht h0 h1 (l := s.data.toList)
  exact calls_of (f := 3) (args := [.int .i64 n, .string s]) hT hc (fun r H h => h.2) (.cons (.int _ _) (.cons (.str _) .nil)) (fun γ v' h => h.bool_inv) (by simp [callFunc, Tryz.func3]; rfl)
end Go.Dam.C
