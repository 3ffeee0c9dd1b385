/- Functions of the library, as the evaluator takes them. -/
import Derived.Test.YtedamoknpbihhaaGreatDoorWalks
import Derived.Test.YtedamoknpbihhaaGreatDoorDamTwo
import Derived.Test.YtedamoknpbihhaaGreatDoorJoin
namespace Go.Proofs.YtedamoknpbihhaaGreatDoor
open Go Go.Dam Go.RowKit
def gIdx (_ : Perm) (args : List Value) (H : Heap) : Option (Value × Heap) := match args with
 | [.string s, .int .u8 (.ofNat c)] => bif Nat.blt c 256 then some (.int .i64 (idxQ c s.data.toList 0), H) else none
 | _ => none
theorem gIdx_sound {O : OpqT} {G : Nat → Bool} : SoundF O Tryz.prog G 343 gIdx := by
 intro pm args H v H' _ h base γ w args' hr _ ha
 unfold gIdx at h
 split at h
 · rename_i s c
   rw [nblt] at h
   by_cases hc : c < 256
   · simp only [hc, decide_true, cond_true, Option.some.injEq, Prod.mk.injEq] at h
     obtain ⟨rfl, rfl⟩ := h
     obtain ⟨l⟩ := args'
     cases ha with
     | cons h1 h2 =>
       cases h2 with
       | cons h3 h4 =>
         cases h4
         rw [h1.str_inv, h3.int_inv]
         refine .inr ⟨_, w, call338 s (.ofNat c) w, γ, _, rfl, ?_, Step.refl hr⟩
         rw [idxQ_eq c hc]
         have : (Int.ofNat c).toNat.toUInt8 = c.toUInt8 := rfl
         rw [this]
         split
         · rename_i hq; rw [hq]; exact .int _ _
         · simp only [Int.natCast_zero, Int.zero_add]; exact .int _ _
   · simp [hc] at h
 · cases h
def gJoin (_ : Perm) (args : List Value) (H : Heap) : Option (Value × Heap) := match args with
 | [.slice (some a) n _, .string sep] => (match H.get a.block with
   | some x => (match rowOf x with
     | some cs => (match getCells cs a.off n with
       | some l => (match strsOf l with
         | some xs => bif Nat.ble 1 n && (Nat.ble n 140737488355328 && Nat.ble (Lib.join (xs.map (·.data.toList)) sep.data.toList).length 140737488355328) then some (.string ⟨(Lib.join (xs.map (·.data.toList)) sep.data.toList).toArray⟩, H) else none
         | none => none)
       | none => none)
     | none => none)
   | none => none)
 | _ => none
theorem gJoin_sound {O : OpqT} {G : Nat → Bool} : SoundF O Tryz.prog G 250 gJoin := by
 intro pm args H v H' _ h base γ w args' hr _ ha
 unfold gJoin at h
 split at h
 · rename_i a n cp sep
   split at h
   · rename_i x hx
     split at h
     · rename_i cs hcs
       split at h
       · rename_i l hl
         split at h
         · rename_i xs hxs
           cases hc : (Nat.ble 1 n && (Nat.ble n 140737488355328 && Nat.ble (Lib.join (xs.map (·.data.toList)) sep.data.toList).length 140737488355328)) with
           | false => rw [hc] at h; cases h
           | true =>
             rw [hc] at h
             simp only [cond_true, Option.some.injEq, Prod.mk.injEq] at h
             obtain ⟨rfl, rfl⟩ := h
             simp only [Bool.and_eq_true, nble, decide_eq_true_eq] at hc
             obtain ⟨c1, c2, c3⟩ := hc
             obtain ⟨l2⟩ := args'
             cases ha with
             | cons h1 h2 =>
               cases h2 with
               | cons h3 h4 =>
                 cases h4
                 rw [h3.str_inv]
                 obtain ⟨L, hL, _, hn, hcase⟩ := h1.slice_inv
                 obtain ⟨g1, rfl⟩ := getCells_eq hl
                 obtain ⟨c, elem, fz, k1, k2, k3⟩ := hr.row hL hx hcs
                 have hlen : xs.length = n := by
                  have := congrArg List.length (strsOf_spec hxs)
                  simp only [List.length_take, List.length_drop, List.length_map] at this
                  omega
                 rcases hcase with ⟨cap', rfl, hcc, _⟩ | ⟨hz, _⟩
                 · have hcalls := Go.Proofs.Tryz.strings_Join L.blk (L.d + a.off) cap' xs sep w (fun j y hj => by
                    rw [cell_at k1]
                    have hjl := (List.getElem?_eq_some_iff.1 hj).1
                    have h5 : ((cs.drop a.off).take n)[j]? = some (.string y) := by
                     rw [strsOf_spec hxs, List.getElem?_map, hj]; rfl
                    rw [List.getElem?_take_of_lt (by omega), List.getElem?_drop] at h5
                    obtain ⟨u, e1, e2⟩ := k3 _ _ h5
                    rw [e2.str_inv] at e1
                    rw [← e1]
                    show c[L.d + a.off + j]? = c[L.d + (a.off + j)]?
                    rw [Nat.add_assoc]) (by exact (Array.getElem?_eq_some_iff.1 k1).1) (by omega) (by omega) c3
                   rw [hlen] at hcalls
                   refine .inl ⟨by simp [callFunc, Tryz.func250]; rfl, hcalls.mono fun en w' ⟨q1, q2⟩ => ⟨γ, _, q1, .str _, Step.below hr q2⟩⟩
                 · omega
         · cases h
       · cases h
     · cases h
   · cases h
 · cases h
/-- A typed variable's block. -/
theorem typed_row {O : OpqT} {base : Nat} {γ : Emb} {H : Heap} {w : World} {b : Nat} {L : Dam.Loc} {cs : List Value} {t : TypeId} (hr : Rel O base γ H w) (hL : γ b = some L) (hx : H.get b = some (.cells cs (.t t))) :
  ∃ c fz, w.heap[L.blk]? = some (.cells c t fz) ∧ (∀ i, i < c.size → ¬ (fz.1 ≤ i ∧ i < fz.2)) ∧ L.d = 0 ∧ c.size = cs.length ∧ RowRel γ cs (fun i => c[i]?) := by
 obtain ⟨y, h1, h2⟩ := hr.blk b L hL
 rw [hx] at h1
 cases h1
 obtain ⟨c, elem, fz, k1, k2, ⟨_, e1, e2, e3⟩, k4, k5, k6⟩ := h2
 subst e1
 refine ⟨c, fz, k1, k2, e2, e3, fun i v hi => ?_⟩
 obtain ⟨v', q1, q2⟩ := k6 i v hi
 have q1 : c[L.d + i]? = some v' := q1
 rw [e2, Nat.zero_add] at q1
 exact ⟨v', q1, q2⟩
def gCheck (lo : Perm) (args : List Value) (H : Heap) : Option (Value × Heap) := match args with
 | [.pointer (some a)] => (match H.get a.block with
   | some (.cells cs (.t t)) => bif Nat.beq t 277 && (Nat.beq cs.length 3 && Nat.beq a.off 0) then (match (cs[0]? : Option Value) with
     | some (.pointer none) => (match setCells cs 0 [ptr a.block] with
       | some cs' => bif lo.may a.block then some (noRes, H.put a.block (.cells cs' (.t t))) else none
       | none => none)
     | some (.pointer (some a')) => bif Nat.beq a'.block a.block && Nat.beq a'.off 0 then some (noRes, H) else none
     | _ => none) else none
   | _ => none)
 | _ => none
theorem gCheck_sound {O : OpqT} {G : Nat → Bool} : SoundF O Tryz.prog G 218 gCheck := by
 intro pm args H v H' _ h base γ w args' hr _ ha
 unfold gCheck at h
 split at h
 · rename_i a
   split at h
   · rename_i cs t hx
     cases hc : (Nat.beq t 277 && (Nat.beq cs.length 3 && Nat.beq a.off 0)) with
     | false => rw [hc] at h; cases h
     | true =>
       rw [hc] at h
       simp only [cond_true] at h
       simp only [Bool.and_eq_true, nbeq, decide_eq_true_eq] at hc
       obtain ⟨rfl, hl3, hoff⟩ := hc
       obtain ⟨l⟩ := args'
       cases ha with
       | cons h1 h2 =>
         cases h2
         obtain ⟨L, hL, _, rfl⟩ := h1.ptr_inv
         obtain ⟨c, fz, k1, k2, k3, k4, k5⟩ := typed_row hr hL hx
         have hd0 : L.d + a.off = 0 := by omega
         rw [hd0]
         have hcall : ∀ w0 : World, (callFunc 218 #[.pointer (some ⟨L.blk, 0, none⟩)]).run Tryz.prog w0 = .ok (.enter 218 #[.pointer (some ⟨L.blk, 0, none⟩)]) w0 := fun w0 => by
          simp [callFunc, Tryz.func218]; rfl
         split at h
         · rename_i h0
           split at h
           · rename_i cs' hcs'
             cases hm : pm.may a.block with
             | false => rw [hm] at h; cases h
             | true =>
               rw [hm] at h
               simp only [cond_true, Option.some.injEq, Prod.mk.injEq] at h
               obtain ⟨rfl, rfl⟩ := h
               obtain ⟨v0, q1, q2⟩ := k5 0 _ h0
               have hv0 : v0 = .pointer none := by cases q2; rfl
               subst hv0
               have hcell : w.cell? ⟨L.blk, 0, none⟩ = some (.pointer none) := by rw [cell_at k1]; exact q1
               have hsh : w.shape? L.blk = some (277, 3) := by simp [World.shape?, k1, k4, hl3]
               have hfz : w.frozen? ⟨L.blk, 0, none⟩ = false := by
                simp only [World.frozen?, k1]
                have := k2 0 (by omega)
                simpa using this
               have hvs : VRels γ [ptr a.block] [.pointer (some ⟨L.blk, 0, none⟩)] := by
                refine .cons ?_ .nil
                have := VRel.ptr (γ := γ) (off := 0) hL
                rw [k3] at this
                exact this
               obtain ⟨w1, e1, e2⟩ := Rel.store (P := Tryz.prog) hr hL hx hcs' hvs rfl hm
               have hw1 : w1 = w.setCell ⟨L.blk, 0, none⟩ (.pointer (some ⟨L.blk, 0, none⟩)) := by
                have e3 : (storeCells ⟨L.blk, L.d + 0, none⟩ [.pointer (some ⟨L.blk, 0, none⟩)]).run Tryz.prog w = .ok () (w.setCell ⟨L.blk, 0, none⟩ (.pointer (some ⟨L.blk, 0, none⟩))) := by
                 rw [k3]
                 simp only [storeCells, Sem.run_bind, add_eq, run_store Tryz.prog w ⟨L.blk, 0, none⟩ (.pointer (some ⟨L.blk, 0, none⟩)) .plain rfl, hcell, hfz]
                 simp
                rw [e3] at e1
                cases e1
                rfl
               refine .inl ⟨hcall w, (cc_fresh L.blk w hcell hsh hfz).mono fun en w' ⟨p1, p2⟩ => ⟨γ, _, p1, .tuple .nil, ?_⟩⟩
               rw [p2, ← hw1]
               exact e2
           · cases h
         · rename_i a' h0
           cases hm : (Nat.beq a'.block a.block && Nat.beq a'.off 0) with
           | false => rw [hm] at h; cases h
           | true =>
             rw [hm] at h
             simp only [cond_true, Option.some.injEq, Prod.mk.injEq] at h
             obtain ⟨rfl, rfl⟩ := h
             simp only [Bool.and_eq_true, nbeq, decide_eq_true_eq] at hm
             obtain ⟨v0, q1, q2⟩ := k5 0 _ h0
             obtain ⟨L', hL', _, rfl⟩ := q2.ptr_inv
             rw [hm.1, hL] at hL'
             cases hL'
             rw [hm.2, k3] at q1
             have hcell : w.cell? ⟨L.blk, 0, none⟩ = some (.pointer (some ⟨L.blk, 0, none⟩)) := by rw [cell_at k1]; exact q1
             refine .inl ⟨hcall w, (cc_used L.blk w hcell).mono fun en w' ⟨p1, p2⟩ => ⟨γ, _, p1, .tuple .nil, ?_⟩⟩
             rw [p2]
             exact Step.refl hr
         · cases h
   · cases h
 · cases h
def gStr (lo : Perm) (args : List Value) (H : Heap) : Option (Value × Heap) := match args with
 | [.pointer (some a)] => (match H.get a.block with
   | some (.cells cs (.t t)) => bif Nat.beq t 277 && (Nat.beq cs.length 3 && Nat.beq a.off 0) then (match (cs[1]? : Option Value) with
     | some (.slice (some g) n _) => (match H.get g.block with
       | some (.bytes e bs) => bif (Nat.beq e 5 && Nat.beq g.off 0) && (Nat.beq n bs.length && (Nat.ble 1 n && (Nat.ble n 9223372036854775807 && lo.may g.block))) then some (.string ⟨bs.toArray⟩, H.put g.block .dead) else none
       | _ => none)
     | _ => none) else none
   | _ => none)
 | _ => none
theorem gStr_sound {O : OpqT} {G : Nat → Bool} : SoundF O Tryz.prog G 145 gStr := by
 intro pm args H v H' _ h base γ w args' hr _ ha
 unfold gStr at h
 split at h
 · rename_i a
   split at h
   · rename_i cs t hx
     cases hc : (Nat.beq t 277 && (Nat.beq cs.length 3 && Nat.beq a.off 0)) with
     | false => rw [hc] at h; cases h
     | true =>
       rw [hc] at h
       simp only [cond_true] at h
       simp only [Bool.and_eq_true, nbeq, decide_eq_true_eq] at hc
       obtain ⟨rfl, hl3, hoff⟩ := hc
       split at h
       · rename_i g n cp h1c
         split at h
         · rename_i e bs hg
           cases hc2 : ((Nat.beq e 5 && Nat.beq g.off 0) && (Nat.beq n bs.length && (Nat.ble 1 n && (Nat.ble n 9223372036854775807 && pm.may g.block)))) with
           | false => rw [hc2] at h; cases h
           | true =>
             rw [hc2] at h
             simp only [cond_true, Option.some.injEq, Prod.mk.injEq] at h
             obtain ⟨rfl, rfl⟩ := h
             simp only [Bool.and_eq_true, nbeq, nble, decide_eq_true_eq] at hc2
             obtain ⟨⟨rfl, hgo⟩, rfl, hn1, hn2, hm⟩ := hc2
             obtain ⟨l⟩ := args'
             cases ha with
             | cons h1 h2 =>
               cases h2
               obtain ⟨L, hL, _, rfl⟩ := h1.ptr_inv
               obtain ⟨c, fz, k1, k2, k3, k4, k5⟩ := typed_row hr hL hx
               have hd0 : L.d + a.off = 0 := by omega
               rw [hd0]
               obtain ⟨v1, q1, q2⟩ := k5 1 _ h1c
               obtain ⟨Lg, hLg, _, hcle, hcase⟩ := q2.slice_inv
               obtain ⟨y, g1, g2⟩ := hr.blk g.block Lg hLg
               rw [hg] at g1
               cases g1
               obtain ⟨cg, fg, m1, m2, m3, m4, m5, m6, m7⟩ := g2
               rcases hcase with ⟨cap', rfl, hcc, _⟩ | ⟨hz, _⟩
               · rw [m4, hgo] at q1
                 have hne : bs ≠ [] := by intro e0; subst e0; simp at hn1
                 have hw := str_walk L.blk Lg.blk cap' cg.size bs w hne (by omega) (by rw [cell_at k1]; exact q1) (by simp [World.shape?, m1]) (by omega) hn2 (fun j x hj => by
                  rw [add_eq, cell_at m1, Nat.zero_add]
                  obtain ⟨u, e1, e2⟩ := m7 j (.int .u8 x.toNat) (by simp [bytesVals, hj])
                  rw [e2.int_inv] at e1
                  exact e1)
                 refine .inl ⟨by simp [callFunc, Tryz.func145]; rfl, hw.mono fun en w' ⟨p1, p2⟩ => ⟨γ, _, p1, .str _, ?_⟩⟩
                 subst p2
                 have hdr := Step.drawn (pm := pm) hr (w.drawn + 1)
                 refine hdr.trans ?_ hr
                 refine Step.write hdr.rel hLg (by rw [hg]; trivial) hm ?_ ?_ ?_ ?_ ?_ fun N => trivial
                 · simp only [World.freeze]
                   split
                   · rfl
                   · simp only [Array.size_modify]; rfl
                 · intro k hk
                   simp only [World.freeze]
                   split
                   · rfl
                   · simp only [Array.getElem?_modify]
                     rw [if_neg (Ne.symm hk)]
                     rfl
                 · simp only [World.freeze]; split <;> rfl
                 · simp only [World.freeze]; split <;> rfl
                 · simp only [World.freeze]; split <;> rfl
               · omega
         · cases h
       · cases h
   · cases h
 · cases h
end Go.Proofs.YtedamoknpbihhaaGreatDoor
