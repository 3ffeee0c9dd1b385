/- More functions of the library, as the evaluator takes them. -/
import Derived.Test.YtedamoknpbihhaaGreatDoorKCalls
import Derived.Test.YtedamoknpbihhaaGreatDoorFmt
import Derived.Test.YtedamoknpbihhaaGreatDoorMats
import Derived.Shelf.Strings.SlTrimAscii
namespace Go.Dam.C
open Go Go.Dam Go.Proofs Go.RowKit Go.Proofs.YtedamoknpbihhaaGreatDoor
set_option maxRecDepth 100000
def tabArr : Array Value := (Dam.Tab.zs10.map fun z => Value.int .u64 z).toArray
def tabO : OpqT where
 rel := fun w N b o => o = .nat 0 ∧ N b ∧ ∃ e fz, w.heap[b]? = some (.cells tabArr e fz)
 stab := fun ⟨h0, h1, e, fz, h2⟩ h => ⟨h0, (h _ h1).1, e, fz, ((h _ h1).2).trans h2⟩
theorem hasTab_inv {H : Heap} (h : hasTab H = true) : H.get 1 = some (.opq (.nat 0)) := by
 unfold hasTab at h
 split at h
 · assumption
 · cases h
/-- The table lies in the world. -/
theorem tab_world {base : Nat} {γ : Emb} {H : Heap} {w : World} (hr : Rel tabO base γ H w) (hG : GRel Dam.Tab.oneG γ) (h : hasTab H = true) : Lib.TabIs Tryz.prog w "internal/strconv.uint64pow10" .u64 Dam.Tab.zs10 := by
 obtain ⟨L, hL, hb, hd⟩ := hG 1 rfl
 obtain ⟨x, h1, h2⟩ := hr.blk 1 L hL
 rw [hasTab_inv h] at h1
 cases h1
 obtain ⟨_, _, _, _, e, fz, hw⟩ := h2
 rw [hb] at hw
 unfold Lib.TabIs World.var?
 rw [Dam.Tab.gname]
 simp only [Option.bind_some, hw]
 rfl
theorem calls_step {base : Nat} {pm : Perm} {γ : Emb} {H : Heap} {w : World} {f : FuncId} {args : Array Value} {v : Value} (hr : Rel tabO base γ H w) (hv : VRel γ v v) (he : ∃ fn, (callFunc f args).run Tryz.prog w = .ok (.enter f args) w ∧ fn = ())
  (hc : Calls Tryz.prog f args w fun e w' => e = .returned v ∧ Below w.heap.size w w') : Does Tryz.prog f args w fun en w' => ∃ γ' v', en = .returned v' ∧ VRel γ' v v' ∧ Step tabO base pm γ H w γ' H w' := by
 obtain ⟨_, he, _⟩ := he
 exact .inl ⟨he, hc.mono fun en w' ⟨q1, q2⟩ => ⟨γ, _, q1, hv, Step.below hr q2⟩⟩
theorem sndIdx : SoundF tabO Tryz.prog Dam.Tab.oneG 343 C.gIdx := gIdx_sound
theorem sndBegun : SoundF tabO Tryz.prog Dam.Tab.oneG 4 gBegun := by
 intro pm args H v H' _ h base γ w args' hr hG ha
 unfold gBegun at h
 split at h
 · cases ht : hasTab H with
   | false => rw [ht] at h; cases h
   | true =>
     rw [ht] at h
     simp only [cond_true, Option.some.injEq, Prod.mk.injEq] at h
     obtain ⟨rfl, rfl⟩ := h
     obtain ⟨l⟩ := args'
     cases ha
     exact calls_step hr (.bool _) ⟨(), by simp [callFunc, Tryz.func4]; rfl, rfl⟩ (Dam.Tab.calls_begun w (tab_world hr hG ht))
 · cases h
theorem sndFmt : SoundF tabO Tryz.prog Dam.Tab.oneG 88 gFmt := by
 intro pm args H v H' _ h base γ w args' hr hG ha
 unfold gFmt at h
 split at h
 · rename_i u b
   cases hc : (eqI b 10 && (Nat.blt u 18446744073709551616 && hasTab H)) with
   | false => rw [hc] at h; cases h
   | true =>
     rw [hc] at h
     simp only [cond_true, Option.some.injEq, Prod.mk.injEq] at h
     obtain ⟨rfl, rfl⟩ := h
     simp only [Bool.and_eq_true, nblt, decide_eq_true_eq, eqI_eq, beq_iff_eq] at hc
     obtain ⟨rfl, c2, c3⟩ := hc
     obtain ⟨l⟩ := args'
     cases ha with
     | cons h1 h2 =>
       cases h2 with
       | cons h3 h4 =>
         cases h4
         rw [h1.int_inv, h3.int_inv]
         exact calls_step hr (.str _) ⟨(), by simp [callFunc, Tryz.func88]; rfl, rfl⟩ (Tryz.fmt u c2 w (tab_world hr hG c3))
 · cases h
theorem sndRep : SoundF tabO Tryz.prog Dam.Tab.oneG 89 gRep := by
 intro pm args H v H' _ h base γ w args' hr hG ha
 unfold gRep at h
 split at h
 · rename_i s c
   cases hc : (Nat.ble c 1000 && Nat.ble s.size 1000) with
   | false => rw [hc] at h; cases h
   | true =>
     rw [hc] at h
     simp only [cond_true, Option.some.injEq, Prod.mk.injEq] at h
     obtain ⟨rfl, rfl⟩ := h
     simp only [Bool.and_eq_true, nble, decide_eq_true_eq] at hc
     obtain ⟨l⟩ := args'
     cases ha with
     | cons h1 h2 =>
       cases h2 with
       | cons h3 h4 =>
         cases h4
         rw [h1.str_inv, h3.int_inv]
         exact calls_step hr (.str _) ⟨(), by simp [callFunc, Tryz.func89]; rfl, rfl⟩ (Tryz.strings_Repeat s c w (by omega) (Nat.le_trans (Nat.mul_le_mul hc.2 hc.1) (by omega)))
 · cases h
theorem sndTrim : SoundF tabO Tryz.prog Dam.Tab.oneG 135 gTrim := by
 intro pm args H v H' _ h base γ w args' hr hG ha
 unfold gTrim at h
 split at h
 · rename_i s c
   cases hc : (Nat.ble s.size 1000000 && (Nat.ble c.size 1000 && c.data.toList.all fun b => Nat.blt b.toNat 128)) with
   | false => rw [hc] at h; cases h
   | true =>
     rw [hc] at h
     simp only [cond_true, Option.some.injEq, Prod.mk.injEq] at h
     obtain ⟨rfl, rfl⟩ := h
     simp only [Bool.and_eq_true, nble, decide_eq_true_eq] at hc
     obtain ⟨l⟩ := args'
     cases ha with
     | cons h1 h2 =>
       cases h2 with
       | cons h3 h4 =>
         cases h4
         rw [h1.str_inv, h3.str_inv]
         exact calls_step hr (.str _) ⟨(), by simp [callFunc, Tryz.func135]; rfl, rfl⟩ (Any.strings_Trim_laid Tryz.lays160 (by kernel_rfl) s c w (by omega) (by omega) fun j b hb => by
          have := List.all_eq_true.1 hc.2.2 b (List.mem_of_getElem? hb)
          simpa [nblt] using this)
 · cases h
theorem below_bytes (w : World) (t : TypeId) (s : ByteArray) : Below w.heap.size w (Lib.bytesWorld w t s) :=
 ⟨rfl, rfl, rfl, by rw [Lib.bytesWorld_size]; omega, fun j hj => Lib.bytesWorld_at_old w t s j hj⟩
theorem sndParse : SoundF tabO Tryz.prog Dam.Tab.oneG 136 gParse := by
 intro pm args H v H' _ h base γ w args' hr hG ha
 unfold gParse at h
 split at h
 · rename_i s b c
   cases hc : (eqI b 10 && (eqI c 32 && Nat.ble s.size 1000000)) with
   | false => rw [hc] at h; cases h
   | true =>
     rw [hc] at h
     simp only [cond_true] at h
     simp only [Bool.and_eq_true, nble, decide_eq_true_eq, eqI_eq, beq_iff_eq] at hc
     obtain ⟨rfl, rfl, c3⟩ := hc
     split at h
     · rename_i u hu
       simp only [Option.some.injEq, Prod.mk.injEq] at h
       obtain ⟨rfl, rfl⟩ := h
       obtain ⟨l⟩ := args'
       cases ha with
       | cons h1 h2 =>
         cases h2 with
         | cons h3 h4 =>
           cases h4 with
           | cons h5 h6 =>
             cases h6
             rw [h1.str_inv, h3.int_inv, h5.int_inv]
             refine calls_step hr ?_ ⟨(), by simp [callFunc, Tryz.func136]; rfl, rfl⟩ ((Tryz.strconv_ParseUint_10_at32_ok s (by omega) u hu w).mono fun e w' ⟨q1, q2⟩ => ⟨q1, ?_⟩)
             · exact .tuple (.cons (.int _ _) (.cons .inil .nil))
             · rcases q2 with rfl | rfl
               · exact Below.refl _ _
               · exact below_bytes _ _ _
     · cases h
 · cases h
end Go.Dam.C
