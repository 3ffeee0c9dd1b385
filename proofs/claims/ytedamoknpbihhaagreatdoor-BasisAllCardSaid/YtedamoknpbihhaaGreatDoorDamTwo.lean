/- An abstract memory: calls, regions that draw their order, the fast evaluator. -/
import Derived.Test.YtedamoknpbihhaaGreatDoorDamOne
import Derived.Calls
import Derived.Orders
import Derived.Below
import Derived.Lib.Bytealg
namespace Go.Dam
section
open Go Go.Builtin
section
variable {O : OpqT} {P : Program} {base : Nat} {pm : Perm} {γ γ' : Emb} {H H' : Heap} {w w' : World} {n : Nat} {e : Env} {a : Act} {G : Nat → Bool}
theorem map1 {α β : Type} (f : α → β) (x : α) : (#[x] : Array α).map f = #[f x] := by simp
theorem map2 {α β : Type} (f : α → β) (x y : α) : (#[x, y] : Array α).map f = #[f x, f y] := by simp
theorem op_sound_d (hr : Rel O base γ H w) (hfr : pm.Fresh γ H) (hE : ERel γ n e a) (hG : GRel G γ) {d g : _} {t0 : TypeId} {pos : String} {af : Array Edge} {b : Builtin} {args : Array Operand} {tys : Array TypeId} {r : Value}
  (h : ((cOp P G ⟨d, .call ⟨.builtin b, args, tys⟩, t0, pos, af, g⟩).eff e).run pm H = some (r, H')) : OpOk O P base pm γ H w (execOp a.eval ⟨d, .call ⟨.builtin b, args, tys⟩, t0, pos, af, g⟩) r H' := by
 simp only [cOp] at h
 have hex : ∀ {b : Builtin}, execOp a.eval ⟨d, .call ⟨.builtin b, args, tys⟩, t0, pos, af, g⟩ = Go.builtin b tys t0 (args.map fun | .const _ => true | _ => false) (args.map a.eval) := fun {b} => rfl
 rw [hex]
 split at h
 · rename_i x t ts e1 e2
   have hts : tys[0]? = some t := by rw [← Array.getElem?_toList, e2]; rfl
   have hargs : args = #[x] := Array.toList_inj.1 (by simpa using e1)
   subst hargs
   have key : ∀ {k : LenK}, (match k with | .s => P.underlying t = some .string | .l => ∃ e, P.underlying t = some (.slice e) | .m => ∃ k e, P.underlying t = some (.map k e)) → ((DOp.len k (rand G x)).eff e).run pm H = some (r, H') →
    OpOk O P base pm γ H w (Go.builtin .len tys t0 ((#[x] : Array Operand).map fun | .const _ => true | _ => false) ((#[x] : Array Operand).map a.eval)) r H' := by
    intro k hk h
    simp only [DOp.eff] at h
    cases hv : ev e (rand G x) with
    | none => rw [hv] at h; cases k <;> exact (run_fail h).elim
    | some v =>
      rw [hv] at h
      rw [map1 a.eval]
      exact .same hr (ok_len (ty := t0) hr hts (by cases k <;> exact hk) (ev_rel hE hG x hv) h)
   split at h
   · rename_i hu; exact key (k := .s) hu h
   · rename_i el hu; exact key (k := .l) ⟨el, hu⟩ h
   · rename_i kt el hu; exact key (k := .m) ⟨kt, el, hu⟩ h
   · exact (run_fail h).elim
 · rename_i s x t u e1 e2
   have hargs : args = #[s, x] := Array.toList_inj.1 (by simpa using e1)
   have htys : tys = #[t, u] := Array.toList_inj.1 (by simpa using e2)
   subst hargs htys
   have key : ∀ {el : TypeId}, P.underlying t = some (.slice el) → SlOrStr P u → ((zeroOf P el).isSome && Nat.ble (P.bytesOf el) 17179869184) = true → ((DOp.append (P.cellsOf el) (P.bytesOf el) (rand G s) (rand G x)).eff e).run pm H = some (r, H') →
    OpOk O P base pm γ H w (Go.builtin .append #[t, u] t0 ((#[s, x] : Array Operand).map fun | .const _ => true | _ => false) ((#[s, x] : Array Operand).map a.eval)) r H' := by
    intro el ht hu hc h
    simp only [Bool.and_eq_true, nble, decide_eq_true_eq] at hc
    obtain ⟨z, hz⟩ := Option.isSome_iff_exists.1 hc.1
    obtain ⟨xv, hxv, h⟩ := run_with1 h
    obtain ⟨sv, hsv, h⟩ := run_with1 h
    rw [map2 a.eval]
    exact .new (ok_append (ty := t0) hr hfr ht hu hz hc.2 (ev_rel hE hG s hsv) (ev_rel hE hG x hxv) h)
   split at h
   · rename_i el e2 hu1 hu2
     split at h
     · rename_i hc; exact key hu1 (.inl ⟨_, hu2⟩) hc h
     · exact (run_fail h).elim
   · rename_i el hu1 hu2
     split at h
     · rename_i hc
       simp only [Bool.and_eq_true, nble, nbeq, decide_eq_true_eq] at hc
       obtain ⟨z, hz⟩ := Option.isSome_iff_exists.1 hc.1.1
       obtain ⟨xv, hxv, h⟩ := run_with1 h
       obtain ⟨sv, hsv, h⟩ := run_with1 h
       rw [map2 a.eval]
       exact .new (ok_appendS (ty := t0) hr hfr hu1 hu2 hz hc.1.2 hc.2 (ev_rel hE hG s hsv) (ev_rel hE hG x hxv) h)
     · split at h
       · rename_i hc; exact key hu1 (.inr hu2) hc h
       · exact (run_fail h).elim
   · exact (run_fail h).elim
 · rename_i dx s t ts e1 e2
   have hts : tys[0]? = some t := by rw [← Array.getElem?_toList, e2]; rfl
   have hargs : args = #[dx, s] := Array.toList_inj.1 (by simpa using e1)
   subst hargs
   split at h
   · rename_i el hu
     split at h
     · rename_i hk
       obtain ⟨sv, hsv, h⟩ := run_with1 h
       obtain ⟨dv, hdv, h⟩ := run_with1 h
       rw [map2 a.eval]
       exact .wrote (ok_copy (ty := t0) hr hu hts hk (ev_rel hE hG dx hdv) (ev_rel hE hG s hsv) h)
     · exact (run_fail h).elim
   · exact (run_fail h).elim
 · rename_i x t ts e1 e2
   have hts : tys[0]? = some t := by rw [← Array.getElem?_toList, e2]; rfl
   have hargs : args = #[x] := Array.toList_inj.1 (by simpa using e1)
   subst hargs
   split at h
   · rename_i el hu
     obtain ⟨dd, hd, h⟩ := orBad_run h
     cases hz : Dam.zeroCells P el with
     | none => rw [hz] at hd; cases hd
     | some zl =>
       obtain ⟨z, hz2, rfl⟩ := zeroCells_some hz
       rw [hz] at hd
       simp only [Option.map_some, Option.some.injEq] at hd
       subst hd
       simp only [DOp.eff] at h
       cases hv : ev e (rand G x) with
       | none => rw [hv] at h; exact (run_fail h).elim
       | some v =>
         rw [hv] at h
         obtain ⟨w', f1, f2, f3⟩ := ok_clearSl (ty := t0) (P := P) hr hu hts hz2 (ev_rel hE hG x hv) h
         subst f2
         rw [map1 a.eval]
         exact .of_val (v' := noRes) f1 (.tuple .nil) f3
   · rename_i kt el hu
     simp only [DOp.eff] at h
     cases hv : ev e (rand G x) with
     | none => rw [hv] at h; exact (run_fail h).elim
     | some v =>
       rw [hv] at h
       obtain ⟨w', f1, f2, f3⟩ := ok_clearMap (ty := t0) (P := P) hr hu hts (ev_rel hE hG x hv) h
       subst f2
       rw [map1 a.eval]
       exact .of_val (v' := noRes) f1 (.tuple .nil) f3
   · exact (run_fail h).elim
 · rename_i x y e1
   have hargs : args = #[x, y] := Array.toList_inj.1 (by simpa using e1)
   subst hargs
   simp only [DOp.eff] at h
   cases hx : ev e (rand G x) with
   | none => rw [hx] at h; exact (run_fail h).elim
   | some xv =>
     cases hy : ev e (rand G y) with
     | none => rw [hx, hy] at h; simp only [effMin] at h; exact (run_fail h).elim
     | some yv =>
       rw [hx, hy] at h
       have := ok_minmax (P := P) (w := w) (ts := tys) (ty := t0) (ev_rel hE hG x hx) (ev_rel hE hG y hy) h
       rw [map2 a.eval]
       exact .same hr this
 · rename_i x y e1
   have hargs : args = #[x, y] := Array.toList_inj.1 (by simpa using e1)
   subst hargs
   simp only [DOp.eff] at h
   cases hx : ev e (rand G x) with
   | none => rw [hx] at h; exact (run_fail h).elim
   | some xv =>
     cases hy : ev e (rand G y) with
     | none => rw [hx, hy] at h; simp only [effMin] at h; exact (run_fail h).elim
     | some yv =>
       rw [hx, hy] at h
       have := ok_minmax (P := P) (w := w) (ts := tys) (ty := t0) (ev_rel hE hG x hx) (ev_rel hE hG y hy) h
       rw [map2 a.eval]
       exact .same hr this
 · exact (run_fail h).elim
/-- An operation that is no call. -/
theorem op_sound (hr : Rel O base γ H w) (hfr : pm.Fresh γ H) (hE : ERel γ n e a) (hG : GRel G γ) (o : Oper) {r : Value} (h : ((cOp P G o).eff e).run pm H = some (r, H')) : OpOk O P base pm γ H w (execOp a.eval o) r H' := by
 obtain ⟨d, op, t0, pos, af, g⟩ := o
 cases op
 case call c =>
  obtain ⟨callee, args, tys⟩ := c
  cases callee
  case builtin b => exact op_sound_d hr hfr hE hG h
  case value f => cases f <;> exact (run_fail h).elim
  case invoke => exact (run_fail h).elim
 all_goals first
  | exact op_sound_a hr hfr hE hG trivial h
  | exact op_sound_b hr hfr hE hG trivial h
  | exact op_sound_c hr hfr hE hG trivial h
  | exact (run_fail h).elim
end
end
section
open Go
section
variable {O : OpqT} {P : Program} {base : Nat} {pm : Perm} {γ γ' : Emb} {H H' : Heap} {w w' : World} {n : Nat} {e : Env} {a : Act} {G : Nat → Bool} {K : Orc}
theorem GRel.mono (h : GRel G γ) (hg : γ.le γ') : GRel G γ' := fun g hG => let ⟨L, a, b, c⟩ := h g hG; ⟨L, hg _ _ a, b, c⟩
theorem ERel.mono (h : ERel γ n e a) (hg : γ.le γ') : ERel γ' n e a := ⟨h.size, h.lim, h.defers, fun t v q => let ⟨x, y⟩ := h.get t v q; ⟨x, y.mono hg⟩⟩
theorem ERel.put (h : ERel γ n e a) {d : Option Tmp} (hd : ∀ t, d = some t → t < n) {v v' : Value} (hv : VRel γ v v') : ERel γ n (putDst e d v) (a.put d v') := by
 cases d with
 | none => exact h
 | some d =>
   have hlt := hd d rfl
   refine ⟨by simpa [Act.put] using h.size, h.lim, h.defers, fun t u q => ?_⟩
   simp only [putDst, Tr.get_set] at q
   have hs := h.size
   by_cases ht : t = d
   · subst ht
     simp only [if_true, Option.some.injEq] at q
     subst q
     refine ⟨hlt, ?_⟩
     simp only [Act.put, Array.getD_eq_getD_getElem?]
     rw [Array.getElem?_setIfInBounds_self_of_lt (Nat.lt_of_lt_of_le hlt hs)]
     exact hv
   · rw [if_neg ht] at q
     obtain ⟨x, y⟩ := h.get t u q
     refine ⟨x, ?_⟩
     simp only [Act.put, Array.getD_eq_getD_getElem?]
     rw [Array.getElem?_setIfInBounds_ne (Ne.symm ht), ← Array.getD_eq_getD_getElem?]
     exact y
/-- It is not done: its slot holds nothing that is looked at. -/
theorem ERel.putUndef (h : ERel γ n e a) {d : Option Tmp} (hd : ∀ t, d = some t → t < n) : ERel γ n (putDst e d noRes) (a.put d undef) := h.put hd (.tuple .nil)
/-- What a call comes to. -/
def Does (P : Program) (f : FuncId) (args : Array Value) (w : World) (R : Ending → World → Prop) : Prop :=
 ((callFunc f args).run P w = .ok (.enter f args) w ∧ Calls P f args w R) ∨ ∃ v w', (callFunc f args).run P w = .ok (.value v) w' ∧ R (.returned v) w'
/-- The shadow's oracle says what calls do. -/
def SoundK (O : OpqT) (P : Program) (G : Nat → Bool) (K : Orc) : Prop :=
 ∀ (pm : Perm) (f : FuncId) (args : List Value) (H : Heap) (v : Value) (H' : Heap), pm.num = none → K pm f args H = some (v, H') → ∀ (base : Nat) (γ : Emb) (w : World) (args' : Array Value), Rel O base γ H w → GRel G γ → VRels γ args args'.toList →
   Does P f args' w fun en w' => ∃ γ' v', en = .returned v' ∧ VRel γ' v v' ∧ Step O base pm γ H w γ' H' w'
/-- An operation done: its result stands, and the state has gone a step. -/
def OpDone (O : OpqT) (P : Program) (base : Nat) (pm : Perm) (γ : Emb) (H : Heap) (w : World) (o : Oper) (a : Act) (r : Value) (H' : Heap) : Prop :=
 ∀ (next : Act → World → Prop) (Q : Exit → Act → World → Prop), (∀ γ' v' w', VRel γ' r v' → Step O base pm γ H w γ' H' w' → next (a.put o.dst v') w') → o.wp P a w next Q
theorem OpOk.done {o : Oper} {r : Value} (h : OpOk O P base pm γ H w (execOp a.eval o) r H') : OpDone O P base pm γ H w o a r H' := by
 obtain ⟨nx, v', w', γ', h1, h2, h3, h4⟩ := h
 intro next Q hn
 unfold Oper.wp
 rw [h1]
 rcases h2 with rfl | ⟨rfl, rfl⟩
 · exact hn _ _ _ h3 h4
 · exact hn _ _ _ h3 h4
theorem does_done {f : FuncId} {args : Array Value} {o : Oper} {r : Value} (hrun : (execOp a.eval o).run P w = (callFunc f args).run P w)
  (h : Does P f args w fun en w' => ∃ γ' v', en = .returned v' ∧ VRel γ' r v' ∧ Step O base pm γ H w γ' H' w') : OpDone O P base pm γ H w o a r H' := by
 intro next Q hn
 unfold Oper.wp
 rw [hrun]
 rcases h with ⟨h1, h2⟩ | ⟨v, w', h1, γ', v', h2, h3, h4⟩
 · rw [h1, Oper.upon_enter]
   exact h2.mono fun en w' ⟨γ', v', h2, h3, h4⟩ => by
    subst h2
    exact hn _ _ _ h3 h4
 · rw [h1]
   cases h2
   exact hn _ _ _ h3 h4
theorem run_eff {o : DOp} (h : o.cl = false) : o.run K pm e H = (o.eff e).run pm H := by cases o <;> first | rfl | cases h
theorem dop_sound (hK : SoundK O P G K) (hr : Rel O base γ H w) (hnum : pm.num = none) (hE : ERel γ n e a) (hG : GRel G γ) (o : Oper) (hc : calm P G o = true) {r : Value} (h : (cOp P G o).run K pm e H = some (r, H')) : OpDone O P base pm γ H w o a r H' := by
 obtain ⟨d, op, t0, pos, af, g⟩ := o
 cases op
 case call c =>
  obtain ⟨callee, args, tys⟩ := c
  have hval : ∀ fo, ((DOp.callV (rand G fo) (args.toList.map (rand G))).run K pm e H = some (r, H')) → OpDone O P base pm γ H w ⟨d, .call ⟨.value fo, args, tys⟩, t0, pos, af, g⟩ a r H' := by
   intro fo h
   simp only [DOp.run] at h
   split at h
   · rename_i f first caps hf
     split at h
     · rename_i l hl
       have hfr := ev_rel hE hG fo hf
       have hlr := evs_rel hE hG hl
       obtain ⟨l', e1, e2, e3⟩ : ∃ l', a.eval fo = .func (.func f) #[] ⟨l'⟩ ∧ VRels γ caps.toList l' ∧ first = #[] := by
        generalize a.eval fo = u at hfr
        cases hfr with
        | func hh => exact ⟨_, rfl, hh, rfl⟩
       have := hK _ _ _ _ _ _ hnum h base γ w (args.map a.eval ++ ⟨l'⟩) hr hG (by simpa using hlr.append e2)
       refine does_done ?_ this
       simp only [execOp, resolve, e1, Deferred.ofValue, invoke, Sem.run_bind, Sem.run_pure, Result.andThen_ok, Array.empty_append]
     · cases h
   · cases h
  cases callee
  case builtin b =>
   have hnc : (DOp.run K pm e H (cOp P G ⟨d, .call ⟨.builtin b, args, tys⟩, t0, pos, af, g⟩)) = ((cOp P G ⟨d, .call ⟨.builtin b, args, tys⟩, t0, pos, af, g⟩).eff e).run pm H := by
    simp only [cOp]
    split <;> first | rfl | (split <;> first | rfl | (split <;> first | rfl | (split <;> rfl)) | (unfold orBad; cases Dam.zeroCells P _ <;> rfl))
   rw [hnc] at h
   exact (op_sound hr (.none hnum) hE hG _ h).done
  case value f =>
   cases f
   case func f =>
    simp only [cOp, DOp.run] at h
    split at h
    · rename_i l hl
      have hlr := evs_rel hE hG hl
      have := hK _ _ _ _ _ _ hnum h base γ w (args.map a.eval) hr hG (by simpa using hlr)
      refine does_done ?_ this
      have hq : Act.eval a (.func f) = .func (.func f) #[] #[] := rfl
      simp only [execOp, resolve, hq, Deferred.ofValue, invoke, Sem.run_bind, Sem.run_pure, Result.andThen_ok, Array.empty_append, Array.append_empty]
    · cases h
   all_goals exact hval _ h
  case invoke => cases h
 all_goals
  refine (op_sound hr (.none hnum) hE hG _ ?_).done
  rw [← run_eff (K := K) (by simpa [calm] using hc)]
  exact h
/-- The slot of an operation that a guard names. -/
theorem wanted_eq (hE : ERel γ n e a) {ops : Array Oper} {o : Oper} {b : Bool} (hok : okOper P G n ops o = true) (h : (cOper P G n ops o).wanted e = some b) : Region.wanted o (yielded ops a.tmps) = b := by
 have hs : ∀ j b, o.guard = some (j, b) → ((ops[j]?).bind (·.dst)).isSome := by
  intro j b hg
  simp only [okOper, Bool.and_eq_true] at hok
  have := hok.1.2
  rw [hg] at this
  exact this
 unfold DOper.wanted at h
 rw [cOper, if_pos hok] at h
 simp only at h
 unfold Region.wanted
 cases hg : o.guard with
 | none => rw [hg] at h; simpa using h
 | some p =>
   obtain ⟨j, want⟩ := p
   rw [hg] at h
   obtain ⟨t, ht⟩ := Option.isSome_iff_exists.1 (hs j want hg)
   simp only [Option.map_some, ht, Option.getD_some] at h
   simp only [yielded, ht, Option.bind_some]
   cases hv : e.get t with
   | none => rw [hv] at h; cases h
   | some v =>
     obtain ⟨x, y⟩ := hE.get t v hv
     have hsz := hE.size
     have hget : a.tmps[t]? = some (a.tmps.getD t undef) := by
      rw [Array.getD_eq_getD_getElem?, Array.getElem?_eq_getElem (by omega)]
      rfl
     rw [hv] at h
     rw [hget]
     generalize a.tmps.getD t undef = u at y
     cases y <;> simp only [Option.some.injEq] at h <;> subst h <;> first | rfl | (cases want <;> rfl) | (rename_i q; cases q <;> cases want <;> rfl)
end
end
section
open Go
section
variable {O : OpqT} {P : Program} {base : Nat} {pm : Perm} {n : Nat} {G : Nat → Bool} {K : Orc} {fuel : Nat}
theorem ok_dst {ops : Array Oper} {o : Oper} (hok : okOper P G n ops o = true) : ∀ t, o.dst = some t → t < n := by
 intro t ht
 simp only [okOper, Bool.and_eq_true] at hok
 have := hok.1.1
 rw [ht] at this
 exact of_decide_eq_true this
theorem ok_calm {ops : Array Oper} {o : Oper} (hok : okOper P G n ops o = true) : calm P G o = true := by
 simp only [okOper, Bool.and_eq_true] at hok
 exact hok.2
/-- One operation of a region: done, or passed over. -/
theorem oper_sound {γ : Emb} {H H' : Heap} {w : World} {e : Env} {a : Act} {r : Value} (hK : SoundK O P G K) {ops : Array Oper} {o : Oper} (hr : Rel O base γ H w) (hnum : pm.num = none) (hE : ERel γ n e a) (hG : GRel G γ) (h : (cOper P G n ops o).run K pm e H = some (r, H'))
  {next : Act → World → Prop} {Q : Exit → Act → World → Prop} (hn : ∀ γ' a' w', ERel γ' n (putDst e (cOper P G n ops o).dst r) a' → Step O base pm γ H w γ' H' w' → next a' w') :
  if Region.wanted o (yielded ops a.tmps) then o.wp P a w next Q ∨ (o.asks P a w ∧ LetsOut Q) else next (a.put o.dst undef) w := by
 by_cases hok : okOper P G n ops o = true
 · unfold DOper.run at h
   split at h
   · rename_i hw
     rw [wanted_eq hE hok hw, if_pos rfl]
     rw [cOper, if_pos hok] at h hn
     exact .inl (dop_sound hK hr hnum hE hG o (ok_calm hok) h _ _ fun γ' v' w' h1 h2 => hn γ' _ w' ((hE.mono h2.ext).put (ok_dst hok) h1) h2)
   · rename_i hw
     rw [wanted_eq hE hok hw]
     simp only [Option.some.injEq, Prod.mk.injEq] at h
     obtain ⟨rfl, rfl⟩ := h
     rw [cOper, if_pos hok] at hn
     exact hn γ _ w (hE.putUndef (ok_dst hok)) (Step.refl hr)
   · cases h
 · rw [cOper, if_neg hok] at h
   simp [DOper.run, DOper.wanted, DOp.run, DOp.eff, Eff.run] at h
theorem ops_sound (hnum : pm.num = none) (hK : SoundK O P G K) {ops : Array Oper} {Q : Exit → Act → World → Prop} : ∀ (l : List Oper) (k : Nat), (∀ i o, l[i]? = some o → ops[k + i]? = some o) → ∀ {e e2 : Env} {a : Act} {γ : Emb} {H H2 : Heap} {w : World},
  evalOps K pm (l.map (cOper P G n ops)) e H = some (e2, H2) → Rel O base γ H w → ERel γ n e a → GRel G γ → (∀ γ2 a2 w2, ERel γ2 n e2 a2 → Step O base pm γ H w γ2 H2 w2 → Q .normal a2 w2) → wpOps P ops Q (List.range' k l.length) a w
 | [], k, _, e, e2, a, γ, H, H2, w, h, hr, hE, hG, hQ => by
   simp only [List.map_nil, evalOps, Option.some.injEq, Prod.mk.injEq] at h
   obtain ⟨rfl, rfl⟩ := h
   exact hQ γ a w hE (Step.refl hr)
 | o :: l, k, hl, e, e2, a, γ, H, H2, w, h, hr, hE, hG, hQ => by
   simp only [List.map_cons, evalOps] at h
   split at h
   · rename_i r H1 h1
     have ho : ops[k]? = some o := by simpa using hl 0 o rfl
     simp only [List.length_cons, List.range'_succ, wpOps, ho]
     refine oper_sound hK hr hnum hE hG h1 fun γ' a' w' q1 q2 => ?_
     exact ops_sound hnum hK l (k + 1) (fun i o hi => by have := hl (i + 1) o (by simpa using hi); rwa [show k + (i + 1) = k + 1 + i by omega] at this) h q2.rel q1 (hG.mono q2.ext)
      fun γ2 a2 w2 q3 q4 => hQ γ2 a2 w2 q3 (q2.trans q4 hr)
   · cases h
theorem region_sound (hnum : pm.num = none) (hK : SoundK O P G K) {ops : Array Oper} {id : Nat} {Q : Exit → Act → World → Prop} {e e2 : Env} {a : Act} {γ : Emb} {H H2 : Heap} {w : World}
  (h : evalOps K pm (cOps P G n ops) e H = some (e2, H2)) (hr : Rel O base γ H w) (hE : ERel γ n e a) (hG : GRel G γ) (hQ : ∀ γ2 a2 w2, ERel γ2 n e2 a2 → Step O base pm γ H w γ2 H2 w2 → Q .normal a2 w2) :
  (Code.region id ops false).wp P Q a w := by
 refine wp_region ?_
 have := ops_sound (Q := Q) hnum hK ops.toList 0 (fun i o hi => by simpa using hi) h hr hE hG hQ
 rw [Array.length_toList, ← List.range_eq_range'] at this
 exact this
/-- What is to be shown of a region whose order is drawn. -/
def DrawOk (O : OpqT) (P : Program) (G : Nat → Bool) : Prop :=
 ∀ (K : Orc), SoundK O P G K → ∀ (pm : Perm), pm.num = none → ∀ (n id : Nat) (ops : Array Oper) (Q : Exit → Act → World → Prop) (base : Nat) (e e2 : Env) (a : Act) (γ : Emb) (H H2 : Heap) (w : World),
   evalDraw K pm (cOps P G n ops) (confOf ops (cOps P G n ops)) e H = some (e2, H2) → Rel O base γ H w → ERel γ n e a → GRel G γ → (∀ γ2 a2 w2, ERel γ2 n e2 a2 → Step O base pm γ H w γ2 H2 w2 → Q .normal a2 w2) →
   (Code.region id ops true).wp P Q a w
theorem wp_loop_n {c : Code} {Q : Exit → Act → World → Prop} {a : Act} {w : World} (I : Nat → Act → World → Prop) (m : Nat) (h₀ : I m a w) (hz : ∀ a w, ¬ I 0 a w)
  (round : ∀ m a w, I (m + 1) a w → c.wp P (Exit.then (fun a' w' => I m a' w') Q) a w) : (Code.loop c).wp P Q a w := by
 intro b k cs
 have key : ∀ m a w, I m a w → ∃ e a' w', Q e a' w' ∧ Arrives P (lone (b.at a (.code c :: .inLoop c :: k)) cs w) b k cs e a' w' := by
  intro m
  induction m with
  | zero => intro a w hI; exact (hz a w hI).elim
  | succ m ih =>
    intro a w hI
    obtain ⟨e, a₁, w₁, hq, harr⟩ := round m a w hI b (.inLoop c :: k) cs
    cases e with
    | normal =>
      obtain ⟨e₂, a₂, w₂, hq₂, harr₂⟩ := ih a₁ w₁ hq
      exact ⟨e₂, a₂, w₂, hq₂, .of_steps (Steps.trans harr (.one step_inLoop)) harr₂⟩
    | exit id => exact ⟨_, a₁, w₁, hq, .pass (x := .inLoop c) rfl (fun _ _ => .inl (by simp)) harr⟩
    | goto l => exact ⟨_, a₁, w₁, hq, .pass (x := .inLoop c) rfl (fun _ _ => .inl (by simp)) harr⟩
    | ret => exact ⟨_, a₁, w₁, hq, .pass (x := .inLoop c) rfl (fun _ _ => .inl (by simp)) harr⟩
    | panic ch => exact ⟨_, a₁, w₁, hq, .pass (x := .inLoop c) rfl (fun _ _ => .inl (by simp)) harr⟩
    | outgrown => exact ⟨_, a₁, w₁, hq, .pass (x := .inLoop c) rfl (fun _ _ => .inl (by simp)) harr⟩
 obtain ⟨e, a', w', hq, harr⟩ := key m a w h₀
 exact ⟨e, a', w', hq, .of_steps (.one step_loop) harr⟩
def exOf : Ex → Exit
 | .normal => .normal
 | .exit i => .exit i
 | .ret => .ret
/-- Code does what its shadow does. -/
theorem code_sound (hnum : pm.num = none) (hD : DrawOk O P G) (hK : SoundK O P G K) : ∀ (c : Code) {x : Ex} {e e2 : Env} {a : Act} {γ : Emb} {H H2 : Heap} {w : World} {Q : Exit → Act → World → Prop},
  eval K pm fuel (cCode P G n c) e H = some (x, e2, H2) → Rel O base γ H w → ERel γ n e a → GRel G γ → (∀ γ2 a2 w2, ERel γ2 n e2 a2 → Step O base pm γ H w γ2 H2 w2 → Q (exOf x) a2 w2) → c.wp P Q a w := by
 intro c
 induction c with
 | skip =>
   intro x e e2 a γ H H2 w Q h hr hE hG hQ
   simp only [cCode, eval, Option.some.injEq, Prod.mk.injEq] at h
   obtain ⟨rfl, rfl, rfl⟩ := h
   exact wp_skip (hQ γ a w hE (Step.refl hr))
 | region id ops draw =>
   intro x e e2 a γ H H2 w Q h hr hE hG hQ
   cases draw with
   | false =>
     simp only [cCode, eval] at h
     split at h
     · rename_i e3 H3 h3
       simp only [Option.some.injEq, Prod.mk.injEq] at h
       obtain ⟨rfl, rfl, rfl⟩ := h
       exact region_sound hnum hK h3 hr hE hG hQ
     · cases h
   | true =>
     simp only [cCode, eval] at h
     split at h
     · rename_i e3 H3 h3
       simp only [Option.some.injEq, Prod.mk.injEq] at h
       obtain ⟨rfl, rfl, rfl⟩ := h
       exact hD K hK pm hnum n id ops Q base e _ a γ H _ w h3 hr hE hG hQ
     · cases h
 | seq c1 c2 ih1 ih2 =>
   intro x e e2 a γ H H2 w Q h hr hE hG hQ
   simp only [cCode, eval] at h
   refine wp_seq ?_
   cases h1 : eval K pm fuel (cCode P G n c1) e H with
   | none => rw [h1] at h; cases h
   | some p =>
     obtain ⟨x1, e1, H1⟩ := p
     rw [h1] at h
     refine ih1 h1 hr hE hG fun γ2 a2 w2 q1 q2 => ?_
     cases x1 with
     | normal => exact ih2 h q2.rel q1 (hG.mono q2.ext) fun γ3 a3 w3 q3 q4 => hQ γ3 a3 w3 q3 (q2.trans q4 hr)
     | exit i =>
       simp only [Option.some.injEq, Prod.mk.injEq] at h
       obtain ⟨rfl, rfl, rfl⟩ := h
       exact hQ γ2 a2 w2 q1 q2
     | ret =>
       simp only [Option.some.injEq, Prod.mk.injEq] at h
       obtain ⟨rfl, rfl, rfl⟩ := h
       exact hQ γ2 a2 w2 q1 q2
 | cond c c1 c2 ih1 ih2 =>
   intro x e e2 a γ H H2 w Q h hr hE hG hQ
   simp only [cCode, eval] at h
   split at h
   · rename_i hc
     exact wp_cond_true (ev_rel hE hG c hc).bool_inv (ih1 h hr hE hG hQ)
   · rename_i hc
     exact wp_cond_false (ev_rel hE hG c hc).bool_inv (ih2 h hr hE hG hQ)
   · cases h
 | block id c ih =>
   intro x e e2 a γ H H2 w Q h hr hE hG hQ
   simp only [cCode, eval] at h
   refine wp_block ?_
   cases h1 : eval K pm fuel (cCode P G n c) e H with
   | none => rw [h1] at h; cases h
   | some p =>
     obtain ⟨x1, e1, H1⟩ := p
     rw [h1] at h
     refine ih h1 hr hE hG fun γ2 a2 w2 q1 q2 => ?_
     cases x1 with
     | normal =>
       simp only [Option.some.injEq, Prod.mk.injEq] at h
       obtain ⟨rfl, rfl, rfl⟩ := h
       exact hQ γ2 a2 w2 q1 q2
     | exit i =>
       simp only [nbeq] at h
       by_cases hi : i = id
       · simp only [hi, decide_true, cond_true, Option.some.injEq, Prod.mk.injEq] at h
         obtain ⟨rfl, rfl, rfl⟩ := h
         have := hQ γ2 a2 w2 q1 q2
         simpa [exOf, Exit.inBlock, hi] using this
       · simp only [hi, decide_false, cond_false, Option.some.injEq, Prod.mk.injEq] at h
         obtain ⟨rfl, rfl, rfl⟩ := h
         have := hQ γ2 a2 w2 q1 q2
         simpa [exOf, Exit.inBlock, hi] using this
     | ret =>
       simp only [Option.some.injEq, Prod.mk.injEq] at h
       obtain ⟨rfl, rfl, rfl⟩ := h
       exact hQ γ2 a2 w2 q1 q2
 | loop c ih =>
   intro x e e2 a γ H H2 w Q h hr hE hG hQ
   simp only [cCode, eval] at h
   refine wp_loop_n (fun m a1 w1 => ∃ γ1 e1 H1, iter (eval K pm fuel (cCode P G n c)) m e1 H1 = some (x, e2, H2) ∧ ERel γ1 n e1 a1 ∧ Step O base pm γ H w γ1 H1 w1) fuel ⟨γ, e, H, h, hE, Step.refl hr⟩ (fun a1 w1 ⟨γ1, e1, H1, h1, _⟩ => by cases h1) ?_
   rintro m a1 w1 ⟨γ1, e1, H1, h1, q1, q2⟩
   simp only [iter] at h1
   cases h3 : eval K pm fuel (cCode P G n c) e1 H1 with
   | none => rw [h3] at h1; cases h1
   | some p =>
     obtain ⟨x1, e3, H3⟩ := p
     rw [h3] at h1
     refine ih h3 q2.rel q1 (hG.mono q2.ext) fun γ2 a2 w2 q3 q4 => ?_
     cases x1 with
     | normal => exact ⟨γ2, e3, H3, h1, q3, q2.trans q4 hr⟩
     | exit i =>
       simp only [Option.some.injEq, Prod.mk.injEq] at h1
       obtain ⟨rfl, rfl, rfl⟩ := h1
       exact hQ γ2 a2 w2 q3 (q2.trans q4 hr)
     | ret =>
       simp only [Option.some.injEq, Prod.mk.injEq] at h1
       obtain ⟨rfl, rfl, rfl⟩ := h1
       exact hQ γ2 a2 w2 q3 (q2.trans q4 hr)
 | exit id =>
   intro x e e2 a γ H H2 w Q h hr hE hG hQ
   simp only [cCode, eval, Option.some.injEq, Prod.mk.injEq] at h
   obtain ⟨rfl, rfl, rfl⟩ := h
   exact wp_exit (hQ γ a w hE (Step.refl hr))
 | ret =>
   intro x e e2 a γ H H2 w Q h hr hE hG hQ
   simp only [cCode, eval, Option.some.injEq, Prod.mk.injEq] at h
   obtain ⟨rfl, rfl, rfl⟩ := h
   exact wp_ret (hQ γ a w hE (Step.refl hr))
 | _ => intros; rename_i h _ _ _ _; cases h
end
end
section
open Go
section
variable {O : OpqT} {P : Program} {base : Nat} {pm : Perm} {n : Nat} {G : Nat → Bool} {K : Orc} {fuel : Nat}
theorem envOf_get : ∀ (l : List Value) (k : Nat) (e : Env) (t : Nat), (envOf l k e).get t = if k ≤ t ∧ t < k + l.length then l[t - k]? else e.get t
 | [], k, e, t => by simp [envOf]; omega
 | v :: l, k, e, t => by
   rw [envOf, envOf_get l (k + 1), Tr.get_set]
   simp only [List.length_cons]
   by_cases ht : t = k
   · subst ht
     rw [if_neg (by omega), if_pos rfl, if_pos (by omega)]
     simp
   · by_cases h1 : k ≤ t ∧ t < k + (l.length + 1)
     · rw [if_pos (by omega), if_pos h1, show t - k = (t - (k + 1)) + 1 by omega, List.getElem?_cons_succ]
     · rw [if_neg (by omega), if_neg ht, if_neg h1]
theorem env_args {γ : Emb} {l : List Value} {args : Array Value} (h : VRels γ l args.toList) (hl : l.length ≤ n) (hn : n ≤ noSlot) : ERel γ n (envOf l 0 .lf) { tmps := args ++ Array.replicate (n - args.size) undef, defers := [] } := by
 have hlen : l.length = args.size := by simpa using h.length
 refine ⟨by simp; omega, hn, rfl, fun t v q => ?_⟩
 rw [envOf_get] at q
 split at q
 · rename_i hc
   rw [Nat.sub_zero] at q
   obtain ⟨v', e1, e2⟩ := h.get q
   refine ⟨by omega, ?_⟩
   have hts : t < args.size := by rw [← hlen]; omega
   rw [Array.getElem?_toList] at e1
   show VRel γ v ((args ++ Array.replicate (n - args.size) undef).getD t undef)
   rw [Array.getD_eq_getD_getElem?, Array.getElem?_append_left hts, e1]
   exact e2
 · cases q
theorem res_sound {γ : Emb} {H : Heap} {w : World} {e : Env} {a : Act} (hr : Rel O base γ H w) (hE : ERel γ n e a) : ∀ (rs : List ResultVar) (l : List Value), rs.all (resKnown P) = true → resOf e H (rs.map (cRes P)) = some l →
  ∃ l', (rs.mapM fun r => (match r with | .tmp t => pure (a.tmps.getD t undef) | .cell x t => do loadVar t (← asAddr (a.tmps.getD x undef)) : Sem Value)).run P w = .ok l' w ∧ VRels γ l l'
 | [], l, _, h => by
   simp only [List.map_nil, resOf, Option.some.injEq] at h
   subst h
   exact ⟨[], by simp, .nil⟩
 | r :: rs, l, hk, h => by
   simp only [List.all_cons, Bool.and_eq_true] at hk
   simp only [List.map_cons, resOf] at h
   split at h
   · rename_i v hv
     split at h
     · rename_i l2 hl
       simp only [Option.some.injEq] at h
       subst h
       obtain ⟨l', e1, e2⟩ := res_sound hr hE rs l2 hk.2 hl
       have hone : ∃ v', (match r with | .tmp t => pure (a.tmps.getD t undef) | .cell x t => do loadVar t (← asAddr (a.tmps.getD x undef)) : Sem Value).run P w = .ok v' w ∧ VRel γ v v' := by
        cases r with
        | tmp t => exact ⟨_, rfl, (hE.get t v hv).2⟩
        | cell x t =>
          simp only [cRes] at hv
          have hk1 : known P t = true := hk.1
          cases hx : e.get x with
          | none => rw [hx] at hv; cases hv
          | some u =>
            rw [hx] at hv
            have hu := (hE.get x u hx).2
            have heff : (effLoad (isAggT P t) (P.cellsOf t) (some u)).run ⟨0, [], none⟩ H = some (v, H) := by
             unfold loadOf at hv
             split at hv
             · rename_i ad e0
               cases e0
               cases hb : H.get ad.block with
               | none => rw [hb] at hv; cases hv
               | some bk =>
                 rw [hb] at hv
                 simp only at hv
                 cases hrow : rowOf bk with
                 | none => rw [hrow] at hv; cases hv
                 | some cs =>
                   rw [hrow] at hv
                   simp only at hv
                   simp [effLoad, Eff.run, hb, hrow, hv, retO]
             · cases hv
            obtain ⟨v', f1, f2, _⟩ := ok_load (P := P) hr hk1 hu heff
            refine ⟨v', ?_, f2⟩
            cases u <;> first | (exact (run_fail heff).elim) | skip
            rename_i ad
            cases ad with
            | none => exact (run_fail heff).elim
            | some ad =>
              obtain ⟨L, _, _, he⟩ := hu.ptr_inv
              simp only [he] at f1 ⊢
              simpa [Instr.loadAt, Instr.sureAddr, asAddr] using f1
       obtain ⟨v', f1, f2⟩ := hone
       refine ⟨v' :: l', ?_, .cons f2 e2⟩
       simp only [List.mapM_cons, Sem.run_bind, f1, Result.andThen_ok, e1, Sem.run_pure]
     · cases h
   · cases h
theorem tup_rel {γ : Emb} {l l' : List Value} (h : VRels γ l l') : VRel γ (tupOf l) (if h : l'.toArray.size = 1 then l'.toArray[0] else .tuple l'.toArray) := by
 cases h with
 | nil => exact .tuple .nil
 | cons h t =>
   cases t with
   | nil => exact h
   | cons h2 t => exact .tuple (.cons h (.cons h2 t))
theorem func_sound (hnum : pm.num = none) (hD : DrawOk O P G) (hK : SoundK O P G K) {f : FuncId} {fn : Func} {c : Code} (hf : P.funcs[f]? = some fn) (hb : fn.body = some c) {args : List Value} {args' : Array Value} {γ : Emb} {H H' : Heap} {w : World} {v : Value}
  (h : evalF K pm fuel (cFunc P G fn) args H = some (v, H')) (hr : Rel O base γ H w) (hG : GRel G γ) (ha : VRels γ args args'.toList) :
  Calls P f args' w fun en w' => ∃ γ' v', en = .returned v' ∧ VRel γ' v v' ∧ Step O base pm γ H w γ' H' w' := by
 unfold evalF at h
 rw [nble] at h
 by_cases hl : args.length ≤ (cFunc P G fn).nt
 · simp only [hl, decide_true, Bool.not_true, cond_false] at h
   simp only [cFunc, hb] at h hl
   by_cases hw : fn.ntmps ≤ noSlot ∧ fn.results.all (resKnown P) = true
   · rw [if_pos hw] at h
     refine calls_of_wp hf hb ?_
     have hE := env_args ha hl hw.1
     have hres : ∀ {e2 : Env} {H2 : Heap} {l : List Value}, resOf e2 H2 (fn.results.toList.map (cRes P)) = some l → ∀ γ2 a2 w2, ERel γ2 fn.ntmps e2 a2 → Step O base pm γ H w γ2 H2 w2 → some (tupOf l, H2) = some (v, H') →
      a2.defers = [] ∧ ∃ u, (results fn a2.tmps).run P w2 = .ok u w2 ∧ ∃ γ' v', Ending.returned u = .returned v' ∧ VRel γ' v v' ∧ Step O base pm γ H w γ' H' w2 := by
      intro e2 H2 l hl2 γ2 a2 w2 q1 q2 q3
      simp only [Option.some.injEq, Prod.mk.injEq] at q3
      obtain ⟨rfl, rfl⟩ := q3
      obtain ⟨l', f1, f2⟩ := res_sound (P := P) q2.rel q1 fn.results.toList l (by simpa using hw.2) hl2
      refine ⟨q1.defers, _, ?_, γ2, _, rfl, tup_rel f2, q2⟩
      simp only [results, Sem.run_bind]
      rw [Array.mapM_eq_mapM_toList]
      simp only [Sem.run_map, Sem.run_pure]
      exact congrArg (fun (r : Result (List Value)) => Result.andThen (Result.andThen r fun a w' => Result.ok a.toArray w') fun a w' => Result.ok (if h : a.size = 1 then a[0] else Value.tuple a) w') f1
     split at h
     · rename_i e2 H2 hev
       split at h
       · rename_i l hl2
         exact code_sound hnum hD hK c hev hr hE hG fun γ2 a2 w2 q1 q2 => hres hl2 γ2 a2 w2 q1 q2 h
       · cases h
     · rename_i e2 H2 hev
       split at h
       · rename_i l hl2
         exact code_sound hnum hD hK c hev hr hE hG fun γ2 a2 w2 q1 q2 => hres hl2 γ2 a2 w2 q1 q2 h
       · cases h
     · cases h
   · rw [if_neg hw] at h
     simp [eval] at h
 · simp only [hl, decide_false, Bool.not_false, cond_true, reduceCtorEq] at h
/-- The table holds functions of the program. -/
def TableOk (P : Program) (G : Nat → Bool) (T : Nat → Option DFunc) : Prop :=
 ∀ f F, T f = some F → ∃ fn c, P.funcs[f]? = some fn ∧ fn.body = some c ∧ fn.name ≠ "runtime.NumGoroutine" ∧ F = cFunc P G fn
theorem runK_sound (hD : DrawOk O P G) {T : Nat → Option DFunc} (hT : TableOk P G T) {S : Orc → Orc} (hS : ∀ K, SoundK O P G K → SoundK O P G (S K)) : ∀ m, SoundK O P G (runK T S fuel m)
 | 0 => fun _ _ _ _ _ _ _ h => by cases h
 | m + 1 => by
   refine hS _ ?_
   intro pm f args H v H' hnum h base γ w args' hr hG ha
   simp only at h
   split at h
   · rename_i F hF
     obtain ⟨fn, c, h1, h2, h3, rfl⟩ := hT f F hF
     refine .inl ⟨?_, func_sound hnum hD (runK_sound hD hT hS m) h1 h2 h hr hG ha⟩
     simp [callFunc, h1, h2, h3]
   · cases h
end
end
section
open Go
/-- What a recorded run says: outside of what it wrote nothing is changed; and it is the plain run. -/
theorem runT_keep {pm : Perm} {b0 : Nat} (hnum : pm.num = some b0) : ∀ (x : Eff) {H H' : Heap} {v : Value} {f m : List Nat}, x.runT pm H = some (v, H', f, m) →
  H'.next = H.next ∧ (∀ b, b ∉ m → H'.get b = H.get b) ∧ (∀ b ∈ m, pm.may b = true ∨ b = b0)
 | .ret u, H, H', v, f, m, h => by
   simp only [Eff.runT, Option.some.injEq, Prod.mk.injEq] at h
   obtain ⟨rfl, rfl, rfl, rfl⟩ := h
   exact ⟨rfl, fun _ _ => rfl, fun _ h => by cases h⟩
 | .fail, H, H', v, f, m, h => by cases h
 | .get b k, H, H', v, f, m, h => by
   simp only [Eff.runT] at h
   split at h
   · rename_i x hx
     split at h
     · rename_i v2 H2 f2 m2 h2
       simp only [Option.some.injEq, Prod.mk.injEq] at h
       obtain ⟨rfl, rfl, rfl, rfl⟩ := h
       exact runT_keep hnum (k x) h2
     · cases h
   · cases h
 | .put b x k, H, H', v, f, m, h => by
   simp only [Eff.runT] at h
   cases hm : pm.may b with
   | false => rw [hm] at h; cases h
   | true =>
     rw [hm] at h
     simp only [cond_true] at h
     split at h
     · rename_i v2 H2 f2 m2 h2
       simp only [Option.some.injEq, Prod.mk.injEq] at h
       obtain ⟨rfl, rfl, rfl, rfl⟩ := h
       obtain ⟨a1, a2, a3⟩ := runT_keep hnum k h2
       refine ⟨a1, fun c hc => ?_, fun c hc => ?_⟩
       · simp only [List.mem_cons, not_or] at hc
         rw [a2 c hc.2, Heap.get_put, if_neg hc.1]
       · rcases List.mem_cons.1 hc with rfl | hc
         · exact .inl hm
         · exact a3 c hc
     · cases h
 | .new x k, H, H', v, f, m, h => by
   simp only [Eff.runT] at h
   split at h
   · rename_i v2 H2 f2 m2 h2
     simp only [Option.some.injEq, Prod.mk.injEq] at h
     obtain ⟨rfl, rfl, rfl, rfl⟩ := h
     obtain ⟨a1, a2, a3⟩ := runT_keep hnum (k (pm.pick H)) h2
     have hp : pm.pick H = b0 := by simp [Perm.pick, hnum]
     refine ⟨by rw [a1]; simp [Perm.make, hnum, Heap.put], fun c hc => ?_, fun c hc => ?_⟩
     · simp only [List.mem_cons, not_or] at hc
       rw [a2 c hc.2, Perm.get_make, if_neg hc.1]
     · rcases List.mem_cons.1 hc with rfl | hc
       · exact .inr hp
       · exact a3 c hc
   · cases h
/-- On another heap that is alike where it looks, it does the same. -/
theorem runT_agree {pm : Perm} {b0 : Nat} (hnum : pm.num = some b0) {m2 : Option Nat} : ∀ (x : Eff) {H H' J : Heap} {v : Value} {f m : List Nat}, x.runT pm H = some (v, H', f, m) → (H.get b0 = none ∨ J.get b0 = H.get b0) → (∀ b ∈ f, b ≠ b0 → J.get b = H.get b) → (b0 ∈ m → m2 = some b0) →
  ∃ J', x.run ⟨pm.lo, pm.ok, m2⟩ J = some (v, J') ∧ J'.next = J.next ∧ ∀ b, J'.get b = if b ∈ m then H'.get b else J.get b
 | .ret u, H, H', J, v, f, m, h, _, _, _ => by
   simp only [Eff.runT, Option.some.injEq, Prod.mk.injEq] at h
   obtain ⟨rfl, rfl, rfl, rfl⟩ := h
   exact ⟨J, rfl, rfl, fun b => by simp⟩
 | .fail, H, H', J, v, f, m, h, _, _, _ => by cases h
 | .get b k, H, H', J, v, f, m, h, hf0, hf, hm2 => by
   simp only [Eff.runT] at h
   split at h
   · rename_i x hx
     split at h
     · rename_i v2 H2 f2 m2' h2
       simp only [Option.some.injEq, Prod.mk.injEq] at h
       obtain ⟨rfl, rfl, rfl, rfl⟩ := h
       obtain ⟨J', e1, e2, e3⟩ := runT_agree hnum (k x) h2 hf0 (fun c hc => hf c (.tail _ hc)) hm2
       refine ⟨J', ?_, e2, e3⟩
       have hb : J.get b = H.get b := by
        by_cases hbb : b = b0
        · subst hbb
          rcases hf0 with q | q
          · rw [q] at hx; cases hx
          · exact q
        · exact hf b (.head _) hbb
       simp only [Eff.run, hb, hx, e1]
     · cases h
   · cases h
 | .put b x k, H, H', J, v, f, m, h, hf0, hf, hm2 => by
   simp only [Eff.runT] at h
   cases hm : pm.may b with
   | false => rw [hm] at h; cases h
   | true =>
     rw [hm] at h
     simp only [cond_true] at h
     split at h
     · rename_i v2 H2 f2 m2' h2
       simp only [Option.some.injEq, Prod.mk.injEq] at h
       obtain ⟨rfl, rfl, rfl, rfl⟩ := h
       have hall : ∀ c ∈ f2, c ≠ b0 → (J.put b x).get c = (H.put b x).get c := fun c hc hcb => by
        rw [Heap.get_put, Heap.get_put, hf c hc hcb]
       have hown : (H.put b x).get b0 = none ∨ (J.put b x).get b0 = (H.put b x).get b0 := by
        rw [Heap.get_put, Heap.get_put]
        by_cases hbb : b0 = b
        · rw [if_pos hbb, if_pos hbb]; exact .inr rfl
        · rw [if_neg hbb, if_neg hbb]; exact hf0
       obtain ⟨J', e1, e2, e3⟩ := runT_agree hnum k h2 (J := J.put b x) hown hall (fun q => hm2 (.tail _ q))
       obtain ⟨_, a2, _⟩ := runT_keep hnum k h2
       refine ⟨J', ?_, e2, fun c => ?_⟩
       · have hm' : Perm.may ⟨pm.lo, pm.ok, m2⟩ b = true := hm
         simp only [Eff.run, hm', cond_true, e1]
       · rw [e3 c]
         by_cases hc : c ∈ m2'
         · rw [if_pos hc, if_pos (.tail _ hc)]
         · rw [if_neg hc]
           by_cases hcb : c = b
           · subst hcb
             rw [if_pos (.head _), a2 c hc, Heap.get_put, Heap.get_put, if_pos rfl, if_pos rfl]
           · rw [if_neg (by simp [hcb, hc]), Heap.get_put, if_neg hcb]
     · cases h
 | .new x k, H, H', J, v, f, m, h, hf0, hf, hm2 => by
   simp only [Eff.runT] at h
   split at h
   · rename_i v2 H2 f2 m2' h2
     simp only [Option.some.injEq, Prod.mk.injEq] at h
     obtain ⟨rfl, rfl, rfl, rfl⟩ := h
     have hp : ∀ X : Heap, pm.pick X = b0 := fun X => by simp [Perm.pick, hnum]
     have hmk : ∀ X : Heap, pm.make X x = X.put b0 x := fun X => by simp [Perm.make, hnum]
     rw [hp, hmk] at h2
     have hm3 : m2 = some b0 := hm2 (by rw [hp]; exact .head _)
     subst hm3
     have hall : ∀ c ∈ f2, c ≠ b0 → (J.put b0 x).get c = (H.put b0 x).get c := fun c hc hcb => by
      rw [Heap.get_put, Heap.get_put, hf c hc hcb]
     obtain ⟨J', e1, e2, e3⟩ := runT_agree hnum (k b0) h2 (J := J.put b0 x) (.inr (by rw [Heap.get_put, Heap.get_put, if_pos rfl, if_pos rfl])) hall (fun _ => rfl)
     obtain ⟨_, a2, _⟩ := runT_keep hnum (k b0) h2
     refine ⟨J', ?_, e2, fun c => ?_⟩
     · simp only [Eff.run, Perm.pick, Perm.make, e1]
     · rw [e3 c, hp]
       by_cases hc : c ∈ m2'
       · rw [if_pos hc, if_pos (.tail _ hc)]
       · rw [if_neg hc]
         by_cases hcb : c = b0
         · subst hcb
           rw [if_pos (.head _), a2 c hc, Heap.get_put, Heap.get_put, if_pos rfl, if_pos rfl]
         · rw [if_neg (by simp [hcb, hc]), Heap.get_put, if_neg hcb]
   · cases h
/-- A recorded run is a run. -/
theorem runT_run {pm : Perm} {x : Eff} {H H' : Heap} {v : Value} {f m : List Nat} (h : x.runT pm H = some (v, H', f, m)) : x.run pm H = some (v, H') := by
 induction x generalizing H f m with
 | ret u => simp only [Eff.runT, Option.some.injEq, Prod.mk.injEq] at h; obtain ⟨rfl, rfl, _, _⟩ := h; rfl
 | fail => cases h
 | get b k ih =>
   simp only [Eff.runT] at h
   split at h
   · rename_i x hx
     split at h
     · rename_i h2
       simp only [Option.some.injEq, Prod.mk.injEq] at h
       obtain ⟨rfl, rfl, _, _⟩ := h
       simp only [Eff.run, hx]
       exact ih _ h2
     · cases h
   · cases h
 | put b x k ih =>
   simp only [Eff.runT] at h
   cases hm : pm.may b with
   | false => rw [hm] at h; cases h
   | true =>
     rw [hm] at h
     simp only [cond_true] at h
     split at h
     · rename_i h2
       simp only [Option.some.injEq, Prod.mk.injEq] at h
       obtain ⟨rfl, rfl, _, _⟩ := h
       simp only [Eff.run, hm, cond_true]
       exact ih h2
     · cases h
 | new x k ih =>
   simp only [Eff.runT] at h
   split at h
   · rename_i h2
     simp only [Option.some.injEq, Prod.mk.injEq] at h
     obtain ⟨rfl, rfl, _, _⟩ := h
     simp only [Eff.run]
     exact ih _ h2
   · cases h
/-- What it wrote is there. -/
theorem runT_made {pm : Perm} {x : Eff} {H H' : Heap} {v : Value} {f m : List Nat} (h : x.runT pm H = some (v, H', f, m)) : (∀ b, (H.get b).isSome → (H'.get b).isSome) ∧ (∀ b ∈ m, (H'.get b).isSome) ∧ ∀ b ∈ f, (H'.get b).isSome := by
 induction x generalizing H f m with
 | ret u => simp only [Eff.runT, Option.some.injEq, Prod.mk.injEq] at h; obtain ⟨rfl, rfl, rfl, rfl⟩ := h; exact ⟨fun _ h => h, (fun _ h => by cases h), (fun _ h => by cases h)⟩
 | fail => cases h
 | get b k ih =>
   simp only [Eff.runT] at h
   split at h
   · rename_i x hx
     split at h
     · rename_i h2
       simp only [Option.some.injEq, Prod.mk.injEq] at h
       obtain ⟨rfl, rfl, rfl, rfl⟩ := h
       obtain ⟨a1, a2, a3⟩ := ih _ h2
       exact ⟨a1, a2, fun c hc => by
        rcases List.mem_cons.1 hc with rfl | hc
        · exact a1 _ (by rw [hx]; rfl)
        · exact a3 c hc⟩
     · cases h
   · cases h
 | put b x k ih =>
   simp only [Eff.runT] at h
   cases hm : pm.may b with
   | false => rw [hm] at h; cases h
   | true =>
     rw [hm] at h
     simp only [cond_true] at h
     split at h
     · rename_i h2
       simp only [Option.some.injEq, Prod.mk.injEq] at h
       obtain ⟨rfl, rfl, rfl, rfl⟩ := h
       obtain ⟨a1, a2, a3⟩ := ih h2
       have hb : ∀ c, (H.get c).isSome ∨ c = b → ((H.put b x).get c).isSome := fun c hc => by
        rw [Heap.get_put]
        by_cases q : c = b
        · rw [if_pos q]; rfl
        · rw [if_neg q]; exact hc.resolve_right q
       exact ⟨fun c hc => a1 c (hb c (.inl hc)), fun c hc => by
        rcases List.mem_cons.1 hc with rfl | hc
        · exact a1 _ (hb _ (.inr rfl))
        · exact a2 c hc, a3⟩
     · cases h
 | new x k ih =>
   simp only [Eff.runT] at h
   split at h
   · rename_i h2
     simp only [Option.some.injEq, Prod.mk.injEq] at h
     obtain ⟨rfl, rfl, rfl, rfl⟩ := h
     obtain ⟨a1, a2, a3⟩ := ih _ h2
     have hb : ∀ c, (H.get c).isSome ∨ c = pm.pick H → ((pm.make H x).get c).isSome := fun c hc => by
      rw [Perm.get_make]
      by_cases q : c = pm.pick H
      · rw [if_pos q]; rfl
      · rw [if_neg q]; exact hc.resolve_right q
     exact ⟨fun c hc => a1 c (hb c (.inl hc)), fun c hc => by
      rcases List.mem_cons.1 hc with rfl | hc
      · exact a1 _ (hb _ (.inr rfl))
      · exact a2 c hc, a3⟩
   · cases h
/-- Rel and Step see a heap through its blocks and its count. -/
theorem Rel.congr {O : OpqT} {base : Nat} {γ : Emb} {H J : Heap} {w : World} (h : Rel O base γ H w) (hg : ∀ b L, γ b = some L → J.get b = H.get b) (hn : H.next ≤ J.next) (hnew : ∀ b, J.next ≤ b → J.get b = none) : Rel O base γ J w := by
 have hfree : ∀ c, Free γ H w c → Free γ J w c ∧ w.heap[c]? = w.heap[c]? := fun c hc => ⟨⟨hc.1, fun b L e r => hc.2 b L e (by rwa [hg b L e] at r)⟩, rfl⟩
 refine ⟨fun b L e => ?_, fun b L e => Nat.lt_of_lt_of_le (h.lt b L e) hn, hnew, fun b b' L L' e1 e2 r1 r2 q => ?_, fun b L e r => ?_, h.size⟩
 · obtain ⟨x, h1, h2⟩ := h.blk b L e
   exact ⟨x, by rw [hg b L e, h1], h2.mono (.refl γ) hfree fun _ => rfl⟩
 · exact h.inj b b' L L' e1 e2 (by rwa [hg b L e1] at r1) (by rwa [hg b' L' e2] at r2) q
 · exact h.low b L e (by rwa [hg b L e] at r)
end
section
open Go
theorem ev_congr {e e' : Env} {r : Rand} (h : ∀ t ∈ r.slots, e'.get t = e.get t) : ev e' r = ev e r := by
 cases r with
 | t n => exact h n (.head _)
 | c v => rfl
theorem evs_congr {e e' : Env} : ∀ {l : List Rand}, (∀ t ∈ l.flatMap Rand.slots, e'.get t = e.get t) → evs e' l = evs e l
 | [], _ => rfl
 | r :: l, h => by
   simp only [List.flatMap_cons, List.mem_append] at h
   simp only [evs, ev_congr (fun t ht => h t (.inl ht)), evs_congr (fun t ht => h t (.inr ht))]
theorem parts_congr {e e' : Env} : ∀ {l : List (Nat × Nat × Rand)}, (∀ t ∈ l.flatMap (fun p => p.2.2.slots), e'.get t = e.get t) → evParts e' l = evParts e l
 | [], _ => rfl
 | (i, n, r) :: l, h => by
   simp only [List.flatMap_cons, List.mem_append] at h
   simp only [evParts, ev_congr (fun t ht => h t (.inl ht)), parts_congr (fun t ht => h t (.inr ht))]
theorem optNat_congr {e e' : Env} {d : Nat} {o : Option Rand} (h : ∀ t ∈ oslots o, e'.get t = e.get t) : optNat e' d o = optNat e d o := by
 cases o with
 | none => rfl
 | some r => simp only [optNat]; rw [ev_congr h]
/-- What an operation does hangs on the slots that it looks at. -/
theorem eff_congr {e e' : Env} {o : DOp} (h : ∀ t ∈ o.slots, e'.get t = e.get t) : o.eff e' = o.eff e := by
 cases o <;> simp only [DOp.slots, List.mem_append] at h <;> simp only [DOp.eff] <;> first
  | rfl
  | rw [ev_congr h]
  | rw [evs_congr h]
  | rw [parts_congr h]
  | rw [ev_congr fun t ht => h t (.inl ht), ev_congr fun t ht => h t (.inr ht)]
  | rw [ev_congr fun t ht => h t (.inl ht), ev_congr fun t ht => h t (.inr (.inl ht)), ev_congr fun t ht => h t (.inr (.inr ht))]
  | rw [ev_congr fun t ht => h t (.inl ht), optNat_congr fun t ht => h t (.inr (.inl ht)), optNat_congr fun t ht => h t (.inr (.inr ht))]
  | skip
 case slStr x lo hi =>
  have h3 : ∀ n, optNat e' n hi = optNat e n hi := fun n => optNat_congr fun t ht => h t (.inr (.inr ht))
  rw [ev_congr fun t ht => h t (.inl ht), optNat_congr fun t ht => h t (.inr (.inl ht))]
  simp only [h3]
 case slSl x lo hi mx =>
  have h2 : ∀ n, optNat e' n lo = optNat e n lo := fun n => optNat_congr fun t ht => h t (.inr (.inl ht))
  have h3 : ∀ n, optNat e' n hi = optNat e n hi := fun n => optNat_congr fun t ht => h t (.inr (.inr (.inl ht)))
  have h4 : ∀ n, optNat e' n mx = optNat e n mx := fun n => optNat_congr fun t ht => h t (.inr (.inr (.inr ht)))
  rw [ev_congr fun t ht => h t (.inl ht)]
  simp only [h2, h3, h4]
theorem wanted_congr {e e' : Env} {o : DOper} (h : ∀ t ∈ o.looks, e'.get t = e.get t) : o.wanted e' = o.wanted e := by
 unfold DOper.wanted
 cases hg : o.guard with
 | none => rfl
 | some p =>
   obtain ⟨j, want⟩ := p
   have := h j (by simp [DOper.looks, hg])
   simp only [this]
theorem op_looks {o : DOper} {e e' : Env} (h : ∀ t ∈ o.looks, e'.get t = e.get t) : ∀ t ∈ o.op.slots, e'.get t = e.get t := fun t ht => h t (by simp [DOper.looks, ht])
theorem args_congr {e e' : Env} {o : DOp} (h : ∀ t ∈ o.slots, e'.get t = e.get t) {K : Orc} {pm : Perm} {H : Heap} : o.run K pm e' H = o.run K pm e H := by
 cases o <;> first
  | (simp only [DOp.slots] at h; simp only [DOp.run, evs_congr h]; done)
  | (simp only [DOp.slots, List.mem_append] at h; simp only [DOp.run, ev_congr fun t ht => h t (.inl ht), evs_congr fun t ht => h t (.inr ht)]; done)
  | exact congrArg (fun x => Eff.run pm x H) (eff_congr h)
end
section
open Go
/-! ## The edges of a region, closed -/
def bitsOf (acc : Array Nat) (o : Oper) : Nat := o.after.foldl (fun s e => if Region.binds .any e then s ||| 2 ^ e.on ||| acc.getD e.on 0 else s) 0
theorem before_eq (ops : Array Oper) : Region.before ops = ops.toList.foldl (fun acc o => acc.push (bitsOf acc o)) #[] := by
 unfold Region.before
 rw [← Array.foldl_toList]
 rfl
theorem before_go : ∀ (l : List Oper) (acc : Array Nat), (∀ k, k < acc.size → (l.foldl (fun acc o => acc.push (bitsOf acc o)) acc)[k]? = acc[k]?) ∧
  ∀ j o, l[j]? = some o → ∃ acc' : Array Nat, acc'.size = acc.size + j ∧ (∀ k, k < acc'.size → (l.foldl (fun acc o => acc.push (bitsOf acc o)) acc)[k]? = acc'[k]?) ∧ (l.foldl (fun acc o => acc.push (bitsOf acc o)) acc)[acc.size + j]? = some (bitsOf acc' o)
 | [], acc => ⟨fun _ _ => rfl, fun j o h => by simp at h⟩
 | x :: l, acc => by
   obtain ⟨h1, h2⟩ := before_go l (acc.push (bitsOf acc x))
   simp only [List.foldl_cons, Array.size_push] at h1 h2 ⊢
   refine ⟨fun k hk => by rw [h1 k (by omega), Array.getElem?_push, if_neg (by omega)], fun j o ho => ?_⟩
   cases j with
   | zero =>
     simp only [List.getElem?_cons_zero, Option.some.injEq] at ho
     subst ho
     refine ⟨acc, rfl, fun k hk => by rw [h1 k (by omega), Array.getElem?_push, if_neg (by omega)], ?_⟩
     rw [Nat.add_zero, h1 acc.size (by omega), Array.getElem?_push, if_pos rfl]
   | succ j =>
     obtain ⟨acc', a1, a2, a3⟩ := h2 j o (by simpa using ho)
     exact ⟨acc', by omega, a2, by rw [show acc.size + (j + 1) = acc.size + 1 + j by omega]; exact a3⟩
theorem bits_spec {acc : Array Nat} {i : Nat} : ∀ (l : List Edge) (s : Nat), (l.foldl (fun s e => if Region.binds .any e then s ||| 2 ^ e.on ||| acc.getD e.on 0 else s) s).testBit i = true →
  s.testBit i = true ∨ ∃ e ∈ l, Region.binds .any e = true ∧ (e.on = i ∨ (acc.getD e.on 0).testBit i = true)
 | [], s, h => .inl h
 | e :: l, s, h => by
   simp only [List.foldl_cons] at h
   rcases bits_spec l _ h with h | ⟨e2, m, r⟩
   · by_cases hb : Region.binds .any e = true
     · rw [if_pos hb] at h
       simp only [Nat.testBit_or, Bool.or_eq_true, Nat.testBit_two_pow, decide_eq_true_eq] at h
       rcases h with (h | h) | h
       · exact .inl h
       · exact .inr ⟨e, .head _, hb, .inl h⟩
       · exact .inr ⟨e, .head _, hb, .inr h⟩
     · rw [if_neg hb] at h
       exact .inl h
   · exact .inr ⟨e2, .tail _ m, r⟩
theorem before_spec {ops : Array Oper} {i j : Nat} {o : Oper} (hd : edgesDown ops = true) (ho : ops[j]? = some o) (h : ((Region.before ops).getD j 0).testBit i = true) :
  ∃ e ∈ o.after, Region.binds .any e = true ∧ (e.on = i ∨ ((Region.before ops).getD e.on 0).testBit i = true) := by
 obtain ⟨acc', a1, a2, a3⟩ := (before_go ops.toList #[]).2 j o (by simpa using ho)
 rw [← before_eq] at a2 a3
 simp only [List.size_toArray, List.length_nil, Nat.zero_add] at a1 a3
 rw [Array.getD_eq_getD_getElem?, a3] at h
 simp only [Option.getD_some, bitsOf] at h
 rw [← Array.foldl_toList] at h
 rcases bits_spec _ _ h with h | ⟨e, m, hb, r⟩
 · simp at h
 · refine ⟨e, by simpa using m, hb, r.imp id fun r => ?_⟩
   have hlt : e.on < j := by
    simp only [edgesDown, List.all_eq_true] at hd
    have := hd (o, j) (by rw [List.mk_mem_zipIdx_iff_getElem?]; simpa using ho)
    simp only [Array.all_eq_true_iff_forall_mem, Bool.or_eq_true, Bool.not_eq_true', decide_eq_true_eq] at this
    exact (this e (by simpa using m)).resolve_left (by simp [hb])
   rw [Array.getD_eq_getD_getElem?] at r ⊢
   rw [a2 e.on (by omega)]
   exact r
/-- A set that is closed under the edges holds all that comes before what is in it, or is ready. -/
theorem before_closed {ops : Array Oper} {T : Nat → Prop} (hd : edgesDown ops = true) (hT : ∀ j o, T j → ops[j]? = some o → ∀ e ∈ o.after, Region.binds .any e = true → T e.on) :
  ∀ (n j i : Nat) (o : Oper), j < n → ops[j]? = some o → (∀ e ∈ o.after, Region.binds .any e = true → T e.on) → ((Region.before ops).getD j 0).testBit i = true → T i
 | 0, _, _, _, h, _, _, _ => by omega
 | n + 1, j, i, o, hj, ho, he, h => by
   obtain ⟨e, m, hb, r⟩ := before_spec hd ho h
   rcases r with rfl | r
   · exact he e m hb
   · have hlt : e.on < j := by
      simp only [edgesDown, List.all_eq_true] at hd
      have := hd (o, j) (by rw [List.mk_mem_zipIdx_iff_getElem?]; simpa using ho)
      simp only [Array.all_eq_true_iff_forall_mem, Bool.or_eq_true, Bool.not_eq_true', decide_eq_true_eq] at this
      exact (this e (by simpa using m)).resolve_left (by simp [hb])
     have hsz := (Array.getElem?_eq_some_iff.1 ho).1
     have ho2 : ops[e.on]? = some ops[e.on] := Array.getElem?_eq_getElem (by omega)
     exact before_closed hd hT n e.on i _ (by omega) ho2 (hT e.on _ (he e m hb) ho2) r
end
section
open Go
section
variable {O : OpqT} {P : Program} {base : Nat} {pm : Perm} {n : Nat} {G : Nat → Bool} {K : Orc}
theorem Step.congr {γ γ0 : Emb} {H H0 J : Heap} {w w0 : World} (h : Step O base pm γ0 H0 w0 γ H w) (hg : ∀ b L, γ b = some L → J.get b = H.get b) (hn : H.next ≤ J.next) (hnew : ∀ b, J.next ≤ b → J.get b = none)
  (hk : ∀ b, b < H0.next → pm.may b = false → J.get b = H0.get b) : Step O base pm γ0 H0 w0 γ J w where
 rel := h.rel.congr hg hn hnew
 ext := h.ext
 fresh := h.fresh
 grow := h.grow
 keep := h.keep
 next := Nat.le_trans h.next hn
 hkeep := hk
 rwm := fun b L e r => h.rwm b L e (by rwa [hg b L (h.ext b L e)] at r)
 known := h.known
 os := h.os
 tape := h.tape
 output := h.output
/-- The region's start: numbers are reserved; a draw. -/
theorem Step.reserve {γ : Emb} {H : Heap} {w : World} (h : Rel O base γ H w) (k d : Nat) : Step O base pm γ H w γ ⟨H.t, H.next + k⟩ { w with drawn := d } :=
 (Step.drawn h d).congr (fun _ _ _ => rfl) (Nat.le_add_right _ _) (fun b hb => h.new b (Nat.le_trans (Nat.le_add_right _ _) hb)) (fun _ _ _ => rfl)
end
end
section
open Go
/-- The reference run, place by place. -/
structure Ref (K : Orc) (lo : Perm) (ops : List DOper) (b : Nat) (fx : List Bool) (e : Env) (H : Heap) (e2 : Env) (H2 : Heap) (recs : List Rec) (E : Nat → Env) (Hh : Nat → Heap) (V : Nat → Value) (F M : Nat → List Nat) : Prop where
 e0 : E 0 = e
 h0 : Hh 0 = H
 eN : E ops.length = e2
 hN : Hh ops.length = H2
 len : recs.length = ops.length
 step : ∀ p o, ops[p]? = some o → (Hh p).get (b + p) = none ∧ o.runT K ⟨lo.lo, lo.ok, some (b + p)⟩ (fx.getD p false) (E p) (Hh p) = some (V p, Hh (p + 1), F p, M p) ∧ E (p + 1) = putDst (E p) o.dst (V p) ∧ recs[p]? = some ⟨F p, M p, Hh p, V p, o.again (E p)⟩
theorem evalT_ref {K : Orc} {lo : Perm} : ∀ {ops : List DOper} {b : Nat} {fx : List Bool} {e e2 : Env} {H H2 : Heap} {recs : List Rec}, evalT K lo ops b fx e H = some (e2, H2, recs) → ∃ E Hh V F M, Ref K lo ops b fx e H e2 H2 recs E Hh V F M
 | [], b, fx, e, e2, H, H2, recs, h => by
   simp only [evalT, Option.some.injEq, Prod.mk.injEq] at h
   obtain ⟨rfl, rfl, rfl⟩ := h
   exact ⟨fun _ => e, fun _ => H, fun _ => noRes, fun _ => [], fun _ => [], rfl, rfl, rfl, rfl, rfl, fun p o h => by simp at h⟩
 | o :: ops, b, fx, e, e2, H, H2, recs, h => by
   simp only [evalT] at h
   split at h
   · rename_i v H1 f m h0 h1
     split at h
     · rename_i e3 H3 l h3
       simp only [Option.some.injEq, Prod.mk.injEq] at h
       obtain ⟨rfl, rfl, rfl⟩ := h
       obtain ⟨E, Hh, V, F, M, r⟩ := evalT_ref h3
       refine ⟨fun | 0 => e | p + 1 => E p, fun | 0 => H | p + 1 => Hh p, fun | 0 => v | p + 1 => V p, fun | 0 => f | p + 1 => F p, fun | 0 => m | p + 1 => M p, rfl, rfl, r.eN, r.hN, by simp [r.len], fun p o2 ho => ?_⟩
       cases p with
       | zero =>
         simp only [List.getElem?_cons_zero, Option.some.injEq] at ho
         subst ho
         refine ⟨h0, ?_, r.e0, rfl⟩
         have : fx.getD 0 false = fx.headD false := by cases fx <;> rfl
         simp only [Nat.add_zero, this, r.h0]
         exact h1
       | succ p =>
         obtain ⟨a0, a1, a2, a3⟩ := r.step p o2 (by simpa using ho)
         refine ⟨by rw [show b + (p + 1) = b + 1 + p by omega]; exact a0, ?_, a2, by simpa using a3⟩
         have : fx.getD (p + 1) false = fx.tail.getD p false := by cases fx <;> simp
         simp only [this, show b + (p + 1) = b + 1 + p by omega]
         exact a1
     · cases h
   · cases h
end
section
open Go
theorem pairsTo_spec {bf : Nat → Nat → Bool} {jo j : Nat} {y : DOper} : ∀ (xs : List (Nat × DOper)) (i : Nat) (L : List (Nat × Nat)), pairsTo bf jo j y xs i = some L →
  ∀ p x, xs[p]? = some x → i + p < j → bf x.1 jo = false → ∃ l, pairOf (i + p) j x.2 y = some l ∧ ∀ z ∈ l, z ∈ L
 | [], i, L, _, p, x, hx, _, _ => by simp at hx
 | x0 :: xs, i, L, h, p, x, hx, hp, hb => by
   simp only [pairsTo, nblt] at h
   have hi : i < j := by omega
   simp only [hi, decide_true, cond_true] at h
   cases hb0 : bf x0.1 jo with
   | true =>
     rw [hb0] at h
     simp only [cond_true] at h
     cases p with
     | zero =>
       simp only [List.getElem?_cons_zero, Option.some.injEq] at hx
       subst hx
       rw [hb0] at hb; cases hb
     | succ p =>
       have := pairsTo_spec xs (i + 1) L h p x (by simpa using hx) (by omega) hb
       rwa [show i + 1 + p = i + (p + 1) by omega] at this
   | false =>
     rw [hb0] at h
     simp only [cond_false] at h
     split at h
     · rename_i l hl
       split at h
       · rename_i r hr
         simp only [Option.some.injEq] at h
         subst h
         cases p with
         | zero =>
           simp only [List.getElem?_cons_zero, Option.some.injEq] at hx
           subst hx
           exact ⟨l, hl, fun z hz => List.mem_append_left _ hz⟩
         | succ p =>
           obtain ⟨l2, e1, e2⟩ := pairsTo_spec xs (i + 1) r hr p x (by simpa using hx) (by omega) hb
           rw [show i + 1 + p = i + (p + 1) by omega] at e1
           exact ⟨l2, e1, fun z hz => List.mem_append_right _ (e2 z hz)⟩
       · cases h
     · cases h
theorem pairsAll_spec {bf : Nat → Nat → Bool} {all : List (Nat × DOper)} : ∀ (ys : List (Nat × DOper)) (j : Nat) (L : List (Nat × Nat)), pairsAll bf all ys j = some L →
  ∀ q y, ys[q]? = some y → ∀ p x, all[p]? = some x → p < j + q → bf x.1 y.1 = false → ∃ l, pairOf p (j + q) x.2 y.2 = some l ∧ ∀ z ∈ l, z ∈ L
 | [], j, L, _, q, y, hy, _, _, _, _, _ => by simp at hy
 | y0 :: ys, j, L, h, q, y, hy, p, x, hx, hp, hb => by
   simp only [pairsAll] at h
   split at h
   · rename_i l hl
     split at h
     · rename_i r hr
       simp only [Option.some.injEq] at h
       subst h
       cases q with
       | zero =>
         simp only [List.getElem?_cons_zero, Option.some.injEq] at hy
         subst hy
         obtain ⟨l2, e1, e2⟩ := pairsTo_spec all 0 l hl p x hx (by omega) hb
         rw [Nat.zero_add] at e1
         exact ⟨l2, e1, fun z hz => List.mem_append_left _ (e2 z hz)⟩
       | succ q =>
         obtain ⟨l2, e1, e2⟩ := pairsAll_spec ys (j + 1) r hr q y (by simpa using hy) p x hx (by omega) hb
         rw [show j + 1 + q = j + (q + 1) by omega] at e1
         exact ⟨l2, e1, fun z hz => List.mem_append_right _ (e2 z hz)⟩
     · cases h
   · cases h
end
section
open Go
/-! ## What the flags say of footprints -/
def Eff.quiet : Eff → Prop
 | .ret _ | .fail => True
 | .get _ k => ∀ x, (k x).quiet
 | .put .. => False
 | .new _ k => ∀ b, (k b).quiet
def Eff.blind : Eff → Prop
 | .ret _ | .fail => True
 | .get .. => False
 | .put _ _ k => k.blind
 | .new _ k => ∀ b, (k b).blind
theorem quiet_mods {pm : Perm} {b0 : Nat} (hnum : pm.num = some b0) : ∀ (x : Eff) {H H' : Heap} {v : Value} {f m : List Nat}, x.quiet → x.runT pm H = some (v, H', f, m) → ∀ b ∈ m, b = b0
 | .ret u, H, H', v, f, m, _, h => by
   simp only [Eff.runT, Option.some.injEq, Prod.mk.injEq] at h
   obtain ⟨rfl, rfl, rfl, rfl⟩ := h
   exact fun _ h => by cases h
 | .fail, H, H', v, f, m, _, h => by cases h
 | .get b k, H, H', v, f, m, hq, h => by
   simp only [Eff.runT] at h
   split at h
   · rename_i x hx
     split at h
     · rename_i v2 H2 f2 m2 h2
       simp only [Option.some.injEq, Prod.mk.injEq] at h
       obtain ⟨rfl, rfl, rfl, rfl⟩ := h
       exact quiet_mods hnum (k x) (hq x) h2
     · cases h
   · cases h
 | .put b x k, H, H', v, f, m, hq, h => hq.elim
 | .new x k, H, H', v, f, m, hq, h => by
   simp only [Eff.runT] at h
   split at h
   · rename_i v2 H2 f2 m2 h2
     simp only [Option.some.injEq, Prod.mk.injEq] at h
     obtain ⟨rfl, rfl, rfl, rfl⟩ := h
     intro c hc
     rcases List.mem_cons.1 hc with rfl | hc
     · simp [Perm.pick, hnum]
     · exact quiet_mods hnum (k (pm.pick H)) (hq _) h2 c hc
   · cases h
theorem blind_foot {pm : Perm} : ∀ (x : Eff) {H H' : Heap} {v : Value} {f m : List Nat}, x.blind → x.runT pm H = some (v, H', f, m) → f = []
 | .ret u, H, H', v, f, m, _, h => by
   simp only [Eff.runT, Option.some.injEq, Prod.mk.injEq] at h
   obtain ⟨rfl, rfl, rfl, rfl⟩ := h
   rfl
 | .fail, H, H', v, f, m, _, h => by cases h
 | .get b k, H, H', v, f, m, hq, h => hq.elim
 | .put b x k, H, H', v, f, m, hq, h => by
   simp only [Eff.runT] at h
   cases hm : pm.may b with
   | false => rw [hm] at h; cases h
   | true =>
     rw [hm] at h
     simp only [cond_true] at h
     split at h
     · rename_i v2 H2 f2 m2 h2
       simp only [Option.some.injEq, Prod.mk.injEq] at h
       obtain ⟨rfl, rfl, rfl, rfl⟩ := h
       exact blind_foot k hq h2
     · cases h
 | .new x k, H, H', v, f, m, hq, h => by
   simp only [Eff.runT] at h
   split at h
   · rename_i v2 H2 f2 m2 h2
     simp only [Option.some.injEq, Prod.mk.injEq] at h
     obtain ⟨rfl, rfl, rfl, rfl⟩ := h
     exact blind_foot (k (pm.pick H)) (hq _) h2
   · cases h
end
section
open Go
theorem quiet_cond {c : Bool} {x y : Eff} (hx : x.quiet) (hy : y.quiet) : (bif c then x else y).quiet := by cases c <;> assumption
theorem blind_cond {c : Bool} {x y : Eff} (hx : x.blind) (hy : y.blind) : (bif c then x else y).blind := by cases c <;> assumption
theorem op_quiet {o : DOp} {e : Env} (h : o.md = false) : (o.eff e).quiet := by
 cases o <;> first | (simp [DOp.md] at h; done) | skip
 all_goals simp only [DOp.eff, with1, retO, effLoad, effConv, withCells, effSlStr, effSlSl, effSlArr, effLookup, effLen, effMin, effMk, effIxSl, effIxArr, effIxStr, effIxAgg]
 all_goals repeat' (first | trivial | (intro _; dsimp only) | (intro _) | (refine quiet_cond ?_ ?_) | split)
theorem op_blind {o : DOp} {e : Env} (h : o.md = false) (h2 : o.rd = false) : (o.eff e).blind := by
 cases o <;> first | (simp [DOp.md] at h; done) | (simp [DOp.rd] at h2; done) | skip
 all_goals simp only [DOp.eff, with1, retO, effSlStr, effSlArr, effMin, effMk, effIxSl, effIxArr, effIxStr, effIxAgg]
 all_goals repeat' (first | trivial | (intro _; dsimp only) | (intro _) | (refine blind_cond ?_ ?_) | split)
end
section
open Go
/-- Two operations that may come in either order. -/
structure Apart (x y : DOper) : Prop where
 dst : ∀ d, x.dst = some d → d ∉ y.looks ∧ y.dst ≠ some d
 dst' : ∀ d, y.dst = some d → d ∉ x.looks
 cl : x.op.cl = false
 cl' : y.op.cl = true → x.op.md = false
theorem pairOf_spec {i j : Nat} {x y : DOper} {l : List (Nat × Nat)} (h : pairOf i j x y = some l) : Apart x y ∧ (((x.op.md || x.op.cl || x.op.nw) && (y.op.rd || y.op.md || y.op.cl)) = true → (i, j) ∈ l) ∧ (((y.op.md || y.op.cl || y.op.nw) && (x.op.rd || x.op.md || x.op.cl)) = true → (j, i) ∈ l) := by
 unfold pairOf at h
 cases hc : (apartB x y && !x.op.cl && !(y.op.cl && x.op.md)) with
 | false => rw [hc] at h; cases h
 | true =>
   rw [hc] at h
   simp only [cond_true, Option.some.injEq] at h
   subst h
   simp only [Bool.and_eq_true, Bool.not_eq_true', Bool.and_eq_false_iff] at hc
   obtain ⟨⟨h1, h2⟩, h3⟩ := hc
   refine ⟨⟨fun d hd => ?_, fun d hd => ?_, h2, fun q => ?_⟩, fun q => ?_, fun q => ?_⟩
   · simp only [apartB, hd, Bool.and_eq_true, Bool.not_eq_true', bne_iff_ne] at h1
     exact ⟨by simpa using h1.1.1, h1.1.2⟩
   · simp only [apartB, hd, Bool.and_eq_true, Bool.not_eq_true'] at h1
     simpa using h1.2
   · rcases h3 with h3 | h3
     · rw [q] at h3; cases h3
     · exact h3
   · rw [q]; simp
   · rw [q]; simp
end
section
open Go
section
variable {O : OpqT} {P : Program} {base : Nat} {pm : Perm} {n : Nat} {G : Nat → Bool} {K : Orc}
/-- Whatever is known of every outcome is true: there is one. -/
theorem OpDone.known {γ : Emb} {H H' : Heap} {w : World} {o : Oper} {a : Act} {r : Value} (h : OpDone O P base pm γ H w o a r H') {C : Prop} (hn : ∀ γ' v' w', VRel γ' r v' → Step O base pm γ H w γ' H' w' → C) : C := by
 have := h (fun _ _ => C) (fun _ _ _ => False) hn
 unfold Oper.wp at this
 generalize (execOp a.eval o).run P w = u at this
 cases u with
 | halt x w' => cases x <;> simp only [Oper.upon] at this
 | ok x w' =>
   cases x <;> simp only [Oper.upon] at this
   case value => exact this
   case skip => exact this
   case defer => exact this
   case enter =>
    obtain ⟨e, w', _, r, _⟩ := this []
    cases e <;> simp only at r
    · exact r
    · obtain ⟨_, _, r⟩ := r
      exact r.elim
   case row row args =>
    obtain ⟨v, w', r, _⟩ := this (Frame.ofRow P row args .normal) []
    exact r
end
end
section
open Go
/-- It writes nothing, makes nothing. -/
def Eff.still : Eff → Prop
 | .ret _ | .fail => True
 | .get _ k => ∀ x, (k x).still
 | .put .. => False
 | .new .. => False
theorem still_mods {pm : Perm} {x : Eff} {H H' : Heap} {v : Value} {f m : List Nat} (hs : x.still) (h : x.runT pm H = some (v, H', f, m)) : m = [] ∧ H' = H := by
 induction x generalizing H f m with
 | ret u => simp only [Eff.runT, Option.some.injEq, Prod.mk.injEq] at h; obtain ⟨_, rfl, _, rfl⟩ := h; exact ⟨rfl, rfl⟩
 | fail => cases h
 | get b k ih =>
   simp only [Eff.runT] at h
   split at h
   · rename_i y hy
     split at h
     · rename_i h2
       simp only [Option.some.injEq, Prod.mk.injEq] at h
       obtain ⟨rfl, rfl, _, rfl⟩ := h
       exact ih y (hs y) h2
     · cases h
   · cases h
 | put b x k ih => exact hs.elim
 | new x k ih => exact hs.elim
theorem still_cond {c : Bool} {x y : Eff} (hx : x.still) (hy : y.still) : (bif c then x else y).still := by cases c <;> assumption
theorem op_still {o : DOp} {e : Env} (h : o.md = false) (h2 : o.nw = false) : (o.eff e).still := by
 cases o <;> first | (simp [DOp.md] at h; done) | (simp [DOp.nw] at h2; done) | skip
 case conv c x =>
  cases c
  case s2b => simp [DOp.nw] at h2
  all_goals
   simp only [DOp.eff, with1, effConv, withCells]
   repeat' (first | trivial | (intro _; dsimp only) | (intro _) | (refine still_cond ?_ ?_) | split)
 all_goals simp only [DOp.eff, with1, retO, effLoad, effSlStr, effSlSl, effSlArr, effLookup, effLen, effMin, effIxSl, effIxArr, effIxStr, effIxAgg]
 all_goals repeat' (first | trivial | (intro _; dsimp only) | (intro _) | (refine still_cond ?_ ?_) | split)
theorem disj_spec {l r : List Nat} (h : disj l r = true) : ∀ b ∈ l, b ∉ r := by
 intro b hb
 simp only [disj, List.all_eq_true] at h
 have := h b hb
 simpa using this
theorem cellBeq_eq {a b : Value} (h : cellBeq a b = true) : a = b := by
 unfold cellBeq at h
 split at h
 all_goals first | (simp only [Bool.and_eq_true, Nat.beq_eq, beq_iff_eq, decide_eq_true_eq] at h) | skip
 all_goals first | rfl | (cases h; done) | skip
 case h_1 => subst h; rfl
 case h_2 => obtain ⟨rfl, h⟩ := h; rw [eqI_eq, beq_iff_eq] at h; subst h; rfl
 case h_3 a b => cases a; cases b; simp only at h; subst h; rfl
 case h_5 => obtain ⟨rfl, rfl⟩ := h; rfl
 case h_6 => obtain ⟨rfl, rfl⟩ := h; rfl
 case h_7 => obtain ⟨⟨rfl, rfl⟩, rfl, rfl⟩ := h; rfl
 case h_9 => subst h; rfl
theorem cellsBeq_eq : ∀ {l r : List Value}, cellsBeq l r = true → l = r
 | [], [], _ => rfl
 | a :: x, b :: y, h => by
   simp only [cellsBeq, Bool.and_eq_true] at h
   rw [cellBeq_eq h.1, cellsBeq_eq h.2]
 | [], _ :: _, h => by cases h
 | _ :: _, [], h => by cases h
theorem valBeq_eq {a b : Value} (h : valBeq a b = true) : a = b := by
 unfold valBeq at h
 split at h
 · rename_i x y
   rw [Array.toList_inj.1 (cellsBeq_eq h)]
 · exact cellBeq_eq h
end
end Go.Dam
namespace Go.Dam
open Go
/-- A drawn region's reference run, place by place, and what has been looked at. -/
structure Sim (P : Program) (G : Nat → Bool) (n : Nat) (ops : Array Oper) (K : Orc) (lo : Perm) where
 N : Nat
 b0 : Nat
 ix : Nat → Nat
 oc : Nat → Oper
 fx : Nat → Bool
 bf : Nat → Nat → Prop
 E : Nat → Env
 Hh : Nat → Heap
 V : Nat → Value
 F : Nat → List Nat
 M : Nat → List Nat
 run : ∀ p, p < N → (cOper P G n ops (oc p)).runT K ⟨lo.lo, lo.ok, some (b0 + p)⟩ (fx p) (E p) (Hh p) = some (V p, Hh (p + 1), F p, M p)
 put : ∀ p, p < N → E (p + 1) = putDst (E p) (cOper P G n ops (oc p)).dst (V p)
 own : ∀ p, p < N → (Hh p).get (b0 + p) = none
 apart : ∀ p q, p < q → q < N → ¬ bf p q → Apart (cOper P G n ops (oc p)) (cOper P G n ops (oc q))
 wr : ∀ p q, p < q → q < N → ¬ bf p q → ((cOper P G n ops (oc p)).op.md || (cOper P G n ops (oc p)).op.cl || (cOper P G n ops (oc p)).op.nw) = true →
  ((cOper P G n ops (oc q)).op.rd || (cOper P G n ops (oc q)).op.md || (cOper P G n ops (oc q)).op.cl) = true →
  (∀ b ∈ M p, b ∉ M q) ∧ ((∀ b ∈ M p, b ∉ F q) ∨ ∀ i, i ≤ N → ∃ u, (cOper P G n ops (oc q)).again (E q) (Hh i) = some u ∧ valBeq u (V q) = true)
 wr' : ∀ p q, p < q → q < N → ¬ bf p q → ((cOper P G n ops (oc q)).op.md || (cOper P G n ops (oc q)).op.cl || (cOper P G n ops (oc q)).op.nw) = true →
  ((cOper P G n ops (oc p)).op.rd || (cOper P G n ops (oc p)).op.md || (cOper P G n ops (oc p)).op.cl) = true →
  (∀ b ∈ M q, b ∉ M p) ∧ ((∀ b ∈ M q, b ∉ F p) ∨ ∀ i, i ≤ N → ∃ u, (cOper P G n ops (oc p)).again (E p) (Hh i) = some u ∧ valBeq u (V p) = true)
 fixed : ∀ p, p < N → fx p = true → ∀ q, q < N → q ≠ p → touches (cOper P G n ops (oc q)) = true → (q < p → bf q p) ∧ (p < q → bf p q)
 made : ∀ q, q < N → ∀ p, p < N → b0 + p ∈ F q → p ≠ q → p < q ∧ b0 + p ∈ M p
namespace Sim
variable {O : OpqT} {P : Program} {base : Nat} {pm : Perm} {n : Nat} {G : Nat → Bool} {K : Orc} {ops : Array Oper}
abbrev D (s : Sim P G n ops K pm) (p : Nat) : DOper := cOper P G n ops (s.oc p)
/-- A call that is done. -/
def cw (s : Sim P G n ops K pm) (p : Nat) : Prop := (s.D p).op.cl = true ∧ (s.D p).wanted (s.E p) = some true
/-- It may write the block. -/
def Wr (s : Sim P G n ops K pm) (p b : Nat) : Prop := b ∈ s.M p ∨ (s.cw p ∧ (s.fx p = true ∨ (s.Hh p).next ≤ b))
/-- What a place's run is. -/
theorem cases (s : Sim P G n ops K pm) {p : Nat} (hp : p < s.N) :
  ((s.D p).wanted (s.E p) = some false ∧ s.V p = noRes ∧ s.Hh (p + 1) = s.Hh p ∧ s.F p = [] ∧ s.M p = []) ∨
  ((s.D p).wanted (s.E p) = some true ∧ (s.D p).op.cl = false ∧ ((s.D p).op.eff (s.E p)).runT ⟨pm.lo, pm.ok, some (s.b0 + p)⟩ (s.Hh p) = some (s.V p, s.Hh (p + 1), s.F p, s.M p)) ∨
  (s.cw p ∧ s.F p = [] ∧ ((s.fx p = true ∧ s.M p = [] ∧ (s.D p).op.run K ⟨pm.lo, pm.ok, none⟩ (s.E p) (s.Hh p) = some (s.V p, s.Hh (p + 1))) ∨
   (s.fx p = false ∧ s.M p = (s.D p).op.gives ⟨pm.lo, pm.ok, some (s.b0 + p)⟩ (s.E p) ∧ (s.D p).op.run K ⟨(s.Hh p).next, s.M p, none⟩ (s.E p) (s.Hh p) = some (s.V p, s.Hh (p + 1))))) := by
 have h := s.run p hp
 unfold DOper.runT at h
 split at h
 · rename_i hw
   unfold DOp.runT at h
   cases hc : (s.D p).op.cl with
   | false =>
     rw [hc] at h
     exact .inr (.inl ⟨hw, rfl, h⟩)
   | true =>
     rw [hc] at h
     simp only [cond_true] at h
     cases hf : s.fx p with
     | true =>
       rw [hf] at h
       simp only [cond_true] at h
       split at h
       · rename_i v H' hr
         simp only [Option.some.injEq, Prod.mk.injEq] at h
         obtain ⟨rfl, rfl, h3, h4⟩ := h
         exact .inr (.inr ⟨⟨hc, hw⟩, h3.symm, .inl ⟨rfl, h4.symm, hr⟩⟩)
       · cases h
     | false =>
       rw [hf] at h
       simp only [cond_false] at h
       split at h
       · rename_i v H' hr
         simp only [Option.some.injEq, Prod.mk.injEq] at h
         obtain ⟨rfl, rfl, h3, h4⟩ := h
         exact .inr (.inr ⟨⟨hc, hw⟩, h3.symm, .inr ⟨rfl, h4.symm, h4 ▸ hr⟩⟩)
       · cases h
 · rename_i hw
   simp only [Option.some.injEq, Prod.mk.injEq] at h
   obtain ⟨h1, h2, h3, h4⟩ := h
   exact .inl ⟨hw, h1.symm, h2.symm, h3.symm, h4.symm⟩
 · cases h
theorem ok (s : Sim P G n ops K pm) {p : Nat} (hp : p < s.N) : okOper P G n ops (s.oc p) = true := by
 by_cases hok : okOper P G n ops (s.oc p) = true
 · exact hok
 · have h := s.run p hp
   rw [cOper, if_neg hok] at h
   simp [DOper.runT, DOper.wanted, DOp.runT, DOp.cl, DOp.eff, Eff.runT] at h
theorem D_op (s : Sim P G n ops K pm) {p : Nat} (hp : p < s.N) : (s.D p).op = cOp P G (s.oc p) ∧ (s.D p).dst = (s.oc p).dst := by
 unfold D
 rw [cOper, if_pos (s.ok hp)]
 exact ⟨rfl, rfl⟩
/-- What each place does to the heap. -/
structure Fact (s : Sim P G n ops K pm) (p : Nat) : Prop where
 next : (s.Hh p).next ≤ (s.Hh (p + 1)).next
 same : ¬ s.cw p → (s.Hh (p + 1)).next = (s.Hh p).next
 keep : ∀ b, ¬ s.Wr p b → (s.Hh (p + 1)).get b = (s.Hh p).get b
 made : ¬ s.cw p → ∀ b, b ∈ s.M p ∨ b ∈ s.F p → ((s.Hh (p + 1)).get b).isSome
 new : ∀ b, (s.Hh (p + 1)).next ≤ b → (s.Hh (p + 1)).get b = none
theorem gives_may {lo : Perm} {e : Env} {o : DOp} {b : Nat} (h : b ∈ o.gives lo e) : lo.may b = true := by
 have key : ∀ l : List Value, b ∈ ptrs lo l → lo.may b = true := by
  intro l
  induction l with
  | nil => intro h; cases h
  | cons v l ih =>
    intro h
    unfold ptrs at h
    split at h
    · rename_i h'; cases h'
    · rename_i a l' heq
      simp only [List.cons.injEq] at heq
      obtain ⟨_, rfl⟩ := heq
      cases hm : lo.may a.block with
      | true =>
        rw [hm] at h
        simp only [cond_true] at h
        rcases List.mem_cons.1 h with rfl | h
        · exact hm
        · exact ih h
      | false =>
        rw [hm] at h
        exact ih h
    · rename_i heq
      simp only [List.cons.injEq] at heq
      obtain ⟨_, rfl⟩ := heq
      exact ih h
 cases o <;> simp only [DOp.gives] at h <;> first
  | (cases h; done)
  | (split at h
     · exact key _ h
     · cases h)
/-- The reference run, done in the order of its places. -/
theorem chain (s : Sim P G n ops K pm) (hK : SoundK O P G K) (hnum : pm.num = none) {γ : Emb} {H : Heap} {w : World} {a : Act} (hb : s.b0 = H.next) (hlo : pm.lo ≤ s.b0) (hH : s.Hh 0 = ⟨H.t, H.next + s.N⟩) (hr : Rel O base γ H w) (hE : ERel γ n (s.E 0) a) (hG : GRel G γ) :
  ∀ p, p ≤ s.N → (∃ γ' a' w', ERel γ' n (s.E p) a' ∧ Step O base pm γ H w γ' (s.Hh p) w' ∧ s.b0 + s.N ≤ (s.Hh p).next ∧ ∀ q, q < s.N → ∀ L, γ' (s.b0 + q) = some L → q < p) ∧ ∀ q, q < p → s.Fact q
 | 0, _ => ⟨⟨γ, a, { w with drawn := w.drawn }, hE, hH ▸ Step.reserve hr s.N _, by rw [hH, hb]; exact Nat.le_refl _, fun q hq L h => by have := hr.lt _ _ h; omega⟩, fun q h => by omega⟩
 | p + 1, hp => by
   obtain ⟨⟨γ', a', w', hE', hS, hn, hq⟩, hF⟩ := chain s hK hnum hb hlo hH hr hE hG p (by omega)
   have hp : p < s.N := hp
   have hok := s.ok hp
   have hD := s.D_op hp
   have hdst : ∀ t, (s.D p).dst = some t → t < n := fun t ht => ok_dst hok t (hD.2 ▸ ht)
   suffices hh : (∃ γ2 a2 w2, ERel γ2 n (s.E (p + 1)) a2 ∧ Step O base pm γ H w γ2 (s.Hh (p + 1)) w2 ∧ s.b0 + s.N ≤ (s.Hh (p + 1)).next ∧ ∀ q, q < s.N → ∀ L, γ2 (s.b0 + q) = some L → q < p + 1) ∧ s.Fact p by
    refine ⟨hh.1, fun q hq => ?_⟩
    by_cases h : q = p
    · exact h ▸ hh.2
    · exact hF q (by omega)
   rcases s.cases hp with ⟨h1, h2, h3, h4, h5⟩ | ⟨h1, h2, h3⟩ | ⟨h1, h2, h3⟩
   · have hcw : ¬ s.cw p := fun h => by rw [h.2] at h1; cases h1
     refine ⟨⟨γ', a'.put (s.D p).dst undef, w', ?_, h3 ▸ hS, h3 ▸ hn, fun q x L y => Nat.lt_succ_of_lt (hq q x L y)⟩, ?_⟩
     · rw [s.put p hp, h2]
       exact hE'.putUndef hdst
     · exact ⟨by rw [h3]; exact Nat.le_refl _, fun _ => by rw [h3], fun b _ => by rw [h3], fun _ b hb => by rw [h4, h5] at hb; simp at hb, fun b hb => by rw [h3] at hb ⊢; exact hS.rel.new b hb⟩
   · have hcw : ¬ s.cw p := fun h => by rw [h.1] at h2; cases h2
     have hk := runT_keep (pm := ⟨pm.lo, pm.ok, some (s.b0 + p)⟩) rfl _ h3
     have hm := runT_made h3
     have hrun := runT_run h3
     rw [hD.1] at hrun
     have hfr : Perm.Fresh ⟨pm.lo, pm.ok, some (s.b0 + p)⟩ γ' (s.Hh p) := by
      intro b e
      cases e
      refine ⟨by omega, ?_, ?_⟩
      · cases hg : γ' (s.b0 + p) with
        | none => rfl
        | some L => have := hq p hp L hg; omega
      · simp only [Perm.may, nble]
        rw [decide_eq_true (show pm.lo ≤ s.b0 + p by omega)]
        rfl
     obtain ⟨nx, v', w2, γ2, e1, e2, e3, e4⟩ := op_sound hS.rel hfr hE' (hG.mono hS.ext) (s.oc p) hrun
     refine ⟨⟨γ2, a'.put (s.D p).dst v', w2, ?_, hS.transN e4 (fun b e => by cases e; exact .inl (by omega)), by rw [hk.1]; exact hn, fun q hqN L hL => ?_⟩, ?_⟩
     · rw [s.put p hp]
       exact (hE'.mono e4.ext).put hdst e3
     · cases hg : γ' (s.b0 + q) with
       | some L' => exact Nat.lt_succ_of_lt (hq q hqN L' hg)
       | none =>
         rcases e4.known _ L hL hg with h | h
         · omega
         · simp only [Option.some.injEq] at h; omega
     · exact ⟨by rw [hk.1]; exact Nat.le_refl _, fun _ => hk.1, fun b hb => hk.2.1 b fun h => hb (.inl h), fun _ b hb => hb.elim (hm.2.1 b) (hm.2.2 b), fun b hb => e4.rel.new b hb⟩
   · have key : ∀ pm' : Perm, pm'.num = none → (∀ b, b < (s.Hh p).next → pm'.may b = true → pm.may b = true) → (s.D p).op.run K pm' (s.E p) (s.Hh p) = some (s.V p, s.Hh (p + 1)) → (∀ b, ¬ s.Wr p b → b < (s.Hh p).next ∧ pm'.may b = false) →
      (∃ γ2 a2 w2, ERel γ2 n (s.E (p + 1)) a2 ∧ Step O base pm γ H w γ2 (s.Hh (p + 1)) w2 ∧ s.b0 + s.N ≤ (s.Hh (p + 1)).next ∧ ∀ q, q < s.N → ∀ L, γ2 (s.b0 + q) = some L → q < p + 1) ∧ s.Fact p := by
      intro pm' hn' hmay hrun hw
      rw [hD.1] at hrun
      have := dop_sound hK hS.rel hn' hE' (hG.mono hS.ext) (s.oc p) (ok_calm hok) hrun
      refine this.known fun γ2 v' w2 e3 e4 => ?_
      refine ⟨⟨γ2, a'.put (s.D p).dst v', w2, ?_, hS.trans (e4.weaken hS.rel hmay fun b e => by rw [hn'] at e; cases e) hr, Nat.le_trans hn e4.next, fun q hqN L hL => ?_⟩, ?_⟩
      · rw [s.put p hp]
        exact (hE'.mono e4.ext).put hdst e3
      · cases hg : γ' (s.b0 + q) with
        | some L' => exact Nat.lt_succ_of_lt (hq q hqN L' hg)
        | none =>
          rcases e4.known _ L hL hg with h | h
          · omega
          · rw [hn'] at h; cases h
      · exact ⟨e4.next, fun h => (h h1).elim, fun b hb => let ⟨x, y⟩ := hw b hb; e4.hkeep b x y, fun h => (h h1).elim, fun b hb => e4.rel.new b hb⟩
     rcases h3 with ⟨h4, h5, h6⟩ | ⟨h4, h5, h6⟩
     · exact key ⟨pm.lo, pm.ok, none⟩ rfl (fun b _ h => h) h6 fun b hb => (hb (.inr ⟨h1, .inl h4⟩)).elim
     · refine key ⟨(s.Hh p).next, s.M p, none⟩ rfl (fun b hb h => ?_) h6 fun b hb => ?_
       · simp only [Perm.may, nble, decide_eq_false (Nat.not_le.2 hb), cond_false] at h
         have h : b ∈ s.M p := by simpa using h
         rw [h5] at h
         have := gives_may h
         exact this
       · have hlt : b < (s.Hh p).next := by
          apply Nat.lt_of_not_le
          intro h
          exact hb (.inr ⟨h1, .inr h⟩)
         refine ⟨hlt, ?_⟩
         simp only [Perm.may, nble, decide_eq_false (Nat.not_le.2 hlt), cond_false]
         have : b ∉ s.M p := fun h => hb (.inl h)
         simpa using this
end Sim
end Go.Dam
namespace Go.Dam
open Go
namespace Sim
variable {O : OpqT} {P : Program} {base : Nat} {pm : Perm} {n : Nat} {G : Nat → Bool} {K : Orc} {ops : Array Oper}
theorem next_mono (s : Sim P G n ops K pm) (hF : ∀ q, q < s.N → s.Fact q) (i : Nat) : ∀ d, i + d ≤ s.N → (s.Hh i).next ≤ (s.Hh (i + d)).next
 | 0, _ => Nat.le_refl _
 | d + 1, h => Nat.le_trans (next_mono s hF i d (by omega)) (hF (i + d) (by omega)).next
theorem keep_range (s : Sim P G n ops K pm) (hF : ∀ q, q < s.N → s.Fact q) {b : Nat} (i : Nat) : ∀ d, i + d ≤ s.N → (∀ k, i ≤ k → k < i + d → ¬ s.Wr k b) → (s.Hh (i + d)).get b = (s.Hh i).get b
 | 0, _, _ => rfl
 | d + 1, h, hw => ((hF (i + d) (by omega)).keep b (hw _ (by omega) (by omega))).trans (keep_range s hF i d (by omega) fun k h1 h2 => hw k h1 (by omega))
theorem next_range (s : Sim P G n ops K pm) (hF : ∀ q, q < s.N → s.Fact q) (i : Nat) : ∀ d, i + d ≤ s.N → (∀ k, i ≤ k → k < i + d → ¬ s.cw k) → (s.Hh (i + d)).next = (s.Hh i).next
 | 0, _, _ => rfl
 | d + 1, h, hw => ((hF (i + d) (by omega)).same (hw _ (by omega) (by omega))).trans (next_range s hF i d (by omega) fun k h1 h2 => hw k h1 (by omega))
theorem env_range (s : Sim P G n ops K pm) {t : Nat} (i : Nat) : ∀ d, i + d ≤ s.N → (∀ k, i ≤ k → k < i + d → (s.D k).dst ≠ some t) → (s.E (i + d)).get t = (s.E i).get t
 | 0, _, _ => rfl
 | d + 1, h, hw => by
   rw [show i + (d + 1) = i + d + 1 by omega, s.put (i + d) (by omega)]
   have hd := hw (i + d) (by omega) (by omega)
   have := env_range s (t := t) i d (by omega) fun k h1 h2 => hw k h1 (by omega)
   cases hq : (s.D (i + d)).dst with
   | none => exact this
   | some t' =>
     simp only [putDst, Tr.get_set]
     rw [if_neg (fun q => hd (by rw [hq, q]))]
     exact this
theorem mods_flag (s : Sim P G n ops K pm) {p b : Nat} (hp : p < s.N) (hc : ¬ s.cw p) (h : b ∈ s.M p) : ((s.D p).op.md = true ∨ (s.D p).op.nw = true) ∧ ((s.D p).op.md = false → b = s.b0 + p) := by
 rcases s.cases hp with ⟨_, _, _, _, h5⟩ | ⟨_, h2, h3⟩ | ⟨h1, _⟩
 · rw [h5] at h; cases h
 · refine ⟨?_, fun hm => ?_⟩
   · cases hm : (s.D p).op.md with
     | true => exact .inl rfl
     | false => cases hn : (s.D p).op.nw with
       | true => exact .inr rfl
       | false =>
         have := (still_mods (op_still (e := s.E p) hm hn) h3).1
         rw [this] at h; cases h
   · exact quiet_mods (pm := ⟨pm.lo, pm.ok, some (s.b0 + p)⟩) rfl _ (op_quiet hm) h3 b h
 · exact (hc h1).elim
theorem foot_flag (s : Sim P G n ops K pm) {p b : Nat} (hp : p < s.N) (h : b ∈ s.F p) : ((s.D p).op.rd = true ∨ (s.D p).op.md = true) ∧ ¬ s.cw p := by
 rcases s.cases hp with ⟨_, _, _, h4, _⟩ | ⟨_, h2, h3⟩ | ⟨_, h2, _⟩
 · rw [h4] at h; cases h
 · refine ⟨?_, fun hc => by rw [hc.1] at h2; cases h2⟩
   cases hm : (s.D p).op.md with
   | true => exact .inr rfl
   | false => cases hn : (s.D p).op.rd with
     | true => exact .inl rfl
     | false =>
       have := blind_foot _ (op_blind (e := s.E p) hm hn) h3
       rw [this] at h; cases h
 · rw [h2] at h; cases h
def Stable (s : Sim P G n ops K pm) (q : Nat) : Prop := ∀ i, i ≤ s.N → ∃ u, (s.D q).again (s.E q) (s.Hh i) = some u ∧ valBeq u (s.V q) = true
/-- A block that was seen at an earlier place is none of those that a later call makes. -/
theorem below (s : Sim P G n ops K pm) (hF : ∀ q, q < s.N → s.Fact q) {p q b : Nat} (hpq : p < q) (hq : q < s.N) (hc : ¬ s.cw p) (h : b ∈ s.M p ∨ b ∈ s.F p) : b < (s.Hh q).next := by
 have h1 := (hF p (by omega)).made hc b h
 have h2 := s.next_mono hF (p + 1) (q - (p + 1)) (by omega)
 rw [show p + 1 + (q - (p + 1)) = q by omega] at h2
 apply Nat.lt_of_lt_of_le _ h2
 apply Nat.lt_of_not_le
 intro h3
 rw [(hF p (by omega)).new b h3] at h1
 cases h1
theorem not_cw (s : Sim P G n ops K pm) {p q : Nat} (hpq : p < q) (hq : q < s.N) (hbf : ¬ s.bf p q) : ¬ s.cw p := fun h => by
 have := (s.apart p q hpq hq hbf).cl
 rw [h.1] at this; cases this
theorem touch_of {o : DOper} (h : o.op.rd = true ∨ o.op.md = true ∨ o.op.nw = true) : touches o = true := by
 unfold touches
 rcases h with h | h | h <;> rw [h] <;> simp
theorem clashWW (s : Sim P G n ops K pm) (hF : ∀ q, q < s.N → s.Fact q) {p q b : Nat} (hpq : p < q) (hq : q < s.N) (hbf : ¬ s.bf p q) (h1 : s.Wr p b) (h2 : s.Wr q b) : False := by
 have hp : p < s.N := by omega
 have hcp := s.not_cw hpq hq hbf
 have h1 : b ∈ s.M p := h1.resolve_right fun h => hcp h.1
 obtain ⟨hm, hm'⟩ := s.mods_flag hp hcp h1
 rcases h2 with h2 | ⟨h2, h3⟩
 · by_cases hq1 : ((s.D q).op.rd || (s.D q).op.md || (s.D q).op.cl) = true
   · have := (s.wr p q hpq hq hbf (by rcases hm with h | h <;> rw [h] <;> simp) hq1).1
     exact this b h1 h2
   · simp only [Bool.or_eq_true, not_or, Bool.not_eq_true] at hq1
     have hcq : ¬ s.cw q := fun h => by rw [h.1] at hq1; cases hq1.2
     obtain ⟨hn, hn'⟩ := s.mods_flag hq hcq h2
     have hb := hn' hq1.1.2
     have hnw : (s.D q).op.nw = true := hn.resolve_left fun h => by rw [hq1.1.2] at h; cases h
     cases hmd : (s.D p).op.md with
     | true =>
       have := (s.wr' p q hpq hq hbf (by rw [hnw]; simp) (by rw [hmd]; simp)).1
       exact this b h2 h1
     | false =>
       have := hm' hmd
       omega
 · rcases h3 with h3 | h3
   · exact hbf ((s.fixed q hq h3 p hp (by omega) (touch_of (by rcases hm with h | h <;> simp [h]))).1 hpq)
   · have := s.below hF hpq hq hcp (.inl h1)
     omega
theorem clashWR (s : Sim P G n ops K pm) {p q b : Nat} (hpq : p < q) (hq : q < s.N) (hbf : ¬ s.bf p q) (h1 : s.Wr p b) (h2 : b ∈ s.F q) : s.Stable q := by
 have hp : p < s.N := by omega
 have hcp := s.not_cw hpq hq hbf
 have h1 : b ∈ s.M p := h1.resolve_right fun h => hcp h.1
 obtain ⟨hm, _⟩ := s.mods_flag hp hcp h1
 obtain ⟨hf, _⟩ := s.foot_flag hq h2
 rcases (s.wr p q hpq hq hbf (by rcases hm with h | h <;> rw [h] <;> simp) (by rcases hf with h | h <;> rw [h] <;> simp)).2 with h | h
 · exact (h b h1 h2).elim
 · exact h
theorem clashRW (s : Sim P G n ops K pm) (hF : ∀ q, q < s.N → s.Fact q) {p q b : Nat} (hpq : p < q) (hq : q < s.N) (hbf : ¬ s.bf p q) (h1 : b ∈ s.F p) (h2 : s.Wr q b) : s.Stable p := by
 have hp : p < s.N := by omega
 have hcp := s.not_cw hpq hq hbf
 obtain ⟨hf, _⟩ := s.foot_flag hp h1
 rcases h2 with h2 | ⟨h2, h3⟩
 · have hfl : ((s.D q).op.md || (s.D q).op.cl || (s.D q).op.nw) = true := by
    by_cases hcq : s.cw q
    · rw [hcq.1]; simp
    · obtain ⟨hm, _⟩ := s.mods_flag hq hcq h2
      rcases hm with h | h <;> rw [h] <;> simp
   rcases (s.wr' p q hpq hq hbf hfl (by rcases hf with h | h <;> rw [h] <;> simp)).2 with h | h
   · exact (h b h2 h1).elim
   · exact h
 · rcases h3 with h3 | h3
   · exact (hbf ((s.fixed q hq h3 p hp (by omega) (touch_of (by rcases hf with h | h <;> simp [h]))).1 hpq)).elim
   · have := s.below hF hpq hq hcp (.inr h1)
     omega
/-! ## The invariant -/
def R (s : Sim P G n ops K pm) (T : Nat → Prop) (b : Nat) : Prop := ∀ p, p < s.N → b = s.b0 + p → T p ∧ b ∈ s.M p
structure Inv (O : OpqT) (base : Nat) (s : Sim P G n ops K pm) (T : Nat → Prop) (γ0 : Emb) (H0 : Heap) (w0 : World) (e : Env) (J : Heap) (γ : Emb) (a : Act) (w : World) : Prop where
 erel : ERel γ n e a
 step : Step O base pm γ0 H0 w0 γ J w
 nx : s.b0 + s.N ≤ J.next
 slots : ∀ t i, i ≤ s.N → (∀ k, k < s.N → (s.D k).dst = some t → (k < i ↔ T k)) → e.get t = (s.E i).get t
 blks : ∀ b i, i ≤ s.N → s.R T b → (∀ k, k < s.N → s.Wr k b → (k < i ↔ T k)) → J.get b = (s.Hh i).get b
 next : ∀ i, i ≤ s.N → (∀ k, k < s.N → s.cw k → (k < i ↔ T k)) → J.next = (s.Hh i).next
 known : ∀ p, p < s.N → ∀ L, γ (s.b0 + p) = some L → T p ∧ s.b0 + p ∈ s.M p
/-- j is ready, at a closed set. -/
structure Ready (s : Sim P G n ops K pm) (T : Nat → Prop) (j : Nat) : Prop where
 lt : j < s.N
 nt : ¬ T j
 closed : ∀ p q, p < s.N → q < s.N → s.bf p q → T q → T p
 pre : ∀ p, p < s.N → s.bf p j → T p
section
variable {s : Sim P G n ops K pm} {T : Nat → Prop} {γ0 γ : Emb} {H0 J : Heap} {w0 w : World} {e : Env} {a : Act} {j : Nat}
theorem Ready.late (h : s.Ready T j) {k : Nat} (hk : k < s.N) (hT : T k) : ¬ s.bf j k := fun hb => h.nt (h.closed j k h.lt hk hb hT)
theorem Ready.early (h : s.Ready T j) {k : Nat} (hk : k < s.N) (hT : ¬ T k) : ¬ s.bf k j := fun hb => hT (h.pre k hk hb)
theorem Inv.looks (hI : Inv O base s T γ0 H0 w0 e J γ a w) (h : s.Ready T j) : ∀ t ∈ (s.D j).looks, e.get t = (s.E j).get t := by
 intro t ht
 refine hI.slots t j (Nat.le_of_lt h.lt) fun k hk hd => ⟨fun hkj => ?_, fun hT => ?_⟩
 · apply Classical.byContradiction
   intro hT
   exact ((s.apart k j hkj h.lt (h.early hk hT)).dst t hd).1 ht
 · apply Classical.byContradiction
   intro hkj
   have : j ≠ k := fun q => h.nt (q ▸ hT)
   exact (s.apart j k (by omega) hk (h.late hk hT)).dst' t hd ht
theorem Inv.slots_next (hI : Inv O base s T γ0 H0 w0 e J γ a w) (h : s.Ready T j) : ∀ t i, i ≤ s.N → (∀ k, k < s.N → (s.D k).dst = some t → (k < i ↔ (T k ∨ k = j))) → (putDst e (s.D j).dst (s.V j)).get t = (s.E i).get t := by
 intro t i hi hk
 by_cases hd : (s.D j).dst = some t
 · have hji : j < i := (hk j h.lt hd).2 (.inr rfl)
   have h1 : (s.E i).get t = (s.E (j + 1)).get t := by
    have := s.env_range (t := t) (j + 1) (i - (j + 1)) (by omega) fun k h1 h2 hdk => by
     have hkN : k < s.N := by omega
     have hT : T k := ((hk k hkN hdk).1 (by omega)).resolve_right (by omega)
     exact ((s.apart j k (by omega) hkN (h.late hkN hT)).dst t hd).2 hdk
    rwa [show j + 1 + (i - (j + 1)) = i by omega] at this
   rw [h1, s.put j h.lt]
   simp only [hd, putDst, Tr.get_set, if_true]
 · have h1 : e.get t = (s.E i).get t := hI.slots t i hi fun k hkN hdk => by
    rw [hk k hkN hdk]
    exact ⟨fun q => q.resolve_right fun q => hd (q ▸ hdk), .inl⟩
   rw [← h1]
   cases hq : (s.D j).dst with
   | none => rfl
   | some t' =>
     simp only [putDst, Tr.get_set]
     rw [if_neg (fun q => hd (by rw [hq, q]))]
/-- After an operation that is no call. -/
theorem Inv.other (hF : ∀ q, q < s.N → s.Fact q) (hb : s.b0 = H0.next) (hI : Inv O base s T γ0 H0 w0 e J γ a w) (h : s.Ready T j) (hc : ¬ s.cw j) {J' : Heap} {γ' : Emb} {a' : Act} {w' : World} {m : Option Nat}
  (hJn : J'.next = J.next) (hJ : ∀ b, J'.get b = if b ∈ s.M j then (s.Hh (j + 1)).get b else J.get b) (hE : ERel γ' n (putDst e (s.D j).dst (s.V j)) a') (hS : Step O base ⟨pm.lo, pm.ok, m⟩ γ J w γ' J' w') (hm : ∀ b, m = some b → b = s.b0 + j ∧ b ∈ s.M j) :
  Inv O base s (fun k => T k ∨ k = j) γ0 H0 w0 (putDst e (s.D j).dst (s.V j)) J' γ' a' w' where
 erel := hE
 step := hI.step.transN hS fun b e => .inl (by have := (hm b e).1; omega)
 nx := by rw [hJn]; exact hI.nx
 slots := hI.slots_next h
 blks := fun b i hi hR hk => by
  rw [hJ b]
  by_cases hbm : b ∈ s.M j
  · rw [if_pos hbm]
    have hji : j < i := (hk j h.lt (.inl hbm)).2 (.inr rfl)
    have := s.keep_range hF (b := b) (j + 1) (i - (j + 1)) (by omega) fun k h1 h2 hw => by
     have hkN : k < s.N := by omega
     have hT : T k := ((hk k hkN hw).1 (by omega)).resolve_right (by omega)
     exact s.clashWW hF (by omega) hkN (h.late hkN hT) (.inl hbm) hw
    rw [show j + 1 + (i - (j + 1)) = i by omega] at this
    exact this.symm
  · rw [if_neg hbm]
    have hnw : ¬ s.Wr j b := fun q => q.elim hbm fun q => hc q.1
    refine hI.blks b i hi (fun p hp e => ?_) fun k hkN hw => ?_
    · obtain ⟨h1, h2⟩ := hR p hp e
      exact ⟨h1.resolve_right fun q => hbm (q ▸ h2), h2⟩
    · rw [hk k hkN hw]
      exact ⟨fun q => q.resolve_right fun q => hnw (q ▸ hw), .inl⟩
 next := fun i hi hk => by
  rw [hJn]
  refine hI.next i hi fun k hkN hw => ?_
  rw [hk k hkN hw]
  exact ⟨fun q => q.resolve_right fun q => hc (q ▸ hw), .inl⟩
 known := fun p hp L hL => by
  cases hg : γ (s.b0 + p) with
  | some L' =>
    obtain ⟨x, y⟩ := hI.known p hp L' hg
    exact ⟨.inl x, y⟩
  | none =>
    rcases hS.known _ L hL hg with q | q
    · have := hI.nx; omega
    · obtain ⟨x, y⟩ := hm _ q
      have : p = j := by omega
      exact ⟨.inr this, this ▸ y⟩
/-- After a call, at the reference run's own heap. -/
theorem Inv.call (hF : ∀ q, q < s.N → s.Fact q) (hI : Inv O base s T γ0 H0 w0 e J γ a w) (h : s.Ready T j) (hc : s.cw j) (hnx : s.b0 + s.N ≤ (s.Hh j).next) (hS0 : Step O base pm γ0 H0 w0 γ (s.Hh j) w) {γ' : Emb} {a' : Act} {w' : World}
  (hE : ERel γ' n (putDst e (s.D j).dst (s.V j)) a') (hS : Step O base pm γ (s.Hh j) w γ' (s.Hh (j + 1)) w') (hnum : pm.num = none) :
  Inv O base s (fun k => T k ∨ k = j) γ0 H0 w0 (putDst e (s.D j).dst (s.V j)) (s.Hh (j + 1)) γ' a' w' := by
 have hlate : ∀ k, k < s.N → j < k → ¬ T k := fun k hk hjk hT => s.not_cw hjk hk (h.late hk hT) hc
 have hearly : ∀ k b, k < j → ¬ T k → s.Wr k b → b = s.b0 + k ∧ b ∈ s.M k := fun k b hkj hT hw => by
  have hkN : k < s.N := by have := h.lt; omega
  have hbf := h.early hkN hT
  have hck := s.not_cw hkj h.lt hbf
  have hb : b ∈ s.M k := hw.resolve_right fun q => hck q.1
  have hmd := (s.apart k j hkj h.lt hbf).cl' hc.1
  exact ⟨(s.mods_flag hkN hck hb).2 hmd, hb⟩
 exact {
  erel := hE
  step := hS0.transN (m := pm.num) hS fun b e => by rw [hnum] at e; cases e
  nx := Nat.le_trans hnx hS.next
  slots := hI.slots_next h
  blks := fun b i hi hR hk => by
   by_cases hij : i ≤ j + 1
   · have := s.keep_range hF (b := b) i (j + 1 - i) (by have := h.lt; omega) fun k h1 h2 hw => by
      have hkN : k < s.N := by have := h.lt; omega
      have hT : ¬ (T k ∨ k = j) := fun q => by have := (hk k hkN hw).2 q; omega
      have hkj : k < j := by
       have : k ≠ j := fun q => hT (.inr q)
       omega
      obtain ⟨x, y⟩ := hearly k b hkj (fun q => hT (.inl q)) hw
      exact hT (hR k hkN x).1
     rw [show i + (j + 1 - i) = j + 1 by omega] at this
     exact this
   · have := s.keep_range hF (b := b) (j + 1) (i - (j + 1)) (by omega) fun k h1 h2 hw => by
      have hkN : k < s.N := by omega
      have hT : T k := ((hk k hkN hw).1 (by omega)).resolve_right (by omega)
      exact hlate k hkN (by omega) hT
     rw [show j + 1 + (i - (j + 1)) = i by omega] at this
     exact this.symm
  next := fun i hi hk => by
   have hji : j < i := (hk j h.lt hc).2 (.inr rfl)
   have := s.next_range hF (j + 1) (i - (j + 1)) (by omega) fun k h1 h2 hw => by
    have hkN : k < s.N := by omega
    have hT : T k := ((hk k hkN hw).1 (by omega)).resolve_right (by omega)
    exact hlate k hkN (by omega) hT
   rw [show j + 1 + (i - (j + 1)) = i by omega] at this
   exact this.symm
  known := fun p hp L hL => by
   cases hg : γ (s.b0 + p) with
   | some L' =>
     obtain ⟨x, y⟩ := hI.known p hp L' hg
     exact ⟨.inl x, y⟩
   | none =>
     rcases hS.known _ L hL hg with q | q
     · omega
     · rw [hnum] at q; cases q }
/-- Before a call the reference run's heap may stand for the one that is. -/
theorem Inv.swap (hF : ∀ q, q < s.N → s.Fact q) (h0 : ∀ b, (s.Hh 0).next ≤ b → (s.Hh 0).get b = none) (hI : Inv O base s T γ0 H0 w0 e J γ a w) (h : s.Ready T j) (hc : s.cw j) (hb : s.b0 = H0.next) :
  Step O base pm γ0 H0 w0 γ (s.Hh j) w ∧ s.b0 + s.N ≤ (s.Hh j).next := by
 have hlate : ∀ k, k < s.N → T k → k < j := fun k hk hT => by
  apply Classical.byContradiction
  intro hkj
  have : k ≠ j := fun q => h.nt (q ▸ hT)
  exact s.not_cw (by omega) hk (h.late hk hT) hc
 have hearly : ∀ k b, k < j → ¬ T k → s.Wr k b → b = s.b0 + k := fun k b hkj hT hw => by
  have hkN : k < s.N := by have := h.lt; omega
  have hbf := h.early hkN hT
  have hck := s.not_cw hkj h.lt hbf
  exact (s.mods_flag hkN hck (hw.resolve_right fun q => hck q.1)).2 ((s.apart k j hkj h.lt hbf).cl' hc.1)
 have hg : ∀ b, s.R T b → J.get b = (s.Hh j).get b := fun b hR => hI.blks b j (Nat.le_of_lt h.lt) hR fun k hk hw => ⟨fun hkj => by
  apply Classical.byContradiction
  intro hT
  exact hT (hR k hk (hearly k b hkj hT hw)).1, hlate k hk⟩
 have hn : J.next = (s.Hh j).next := hI.next j (Nat.le_of_lt h.lt) fun k hk hw => ⟨fun hkj => by
  apply Classical.byContradiction
  intro hT
  exact s.not_cw hkj h.lt (h.early hk hT) hw, hlate k hk⟩
 refine ⟨hI.step.congr (fun b L hL => (hg b fun p hp e => ?_).symm) (Nat.le_of_eq hn) (fun b hb => ?_) fun b hb' hm => ?_, hn ▸ hI.nx⟩
 · subst e
   exact hI.known p hp L hL
 · cases j with
   | zero => exact h0 b hb
   | succ j => exact (hF j (by have := h.lt; omega)).new b hb
 · rw [← hg b fun p hp e => by omega]
   exact hI.step.hkeep b hb' hm
end
end Sim
end Go.Dam
namespace Go.Dam
open Go
theorem exists_cut (S T : Nat → Prop) : ∀ N, (∀ k k', k < k' → k' < N → S k → S k' → T k' → T k) → ∃ i, i ≤ N ∧ ∀ k, k < N → S k → (k < i ↔ T k)
 | 0, _ => ⟨0, Nat.le_refl _, fun k h => by omega⟩
 | N + 1, h => by
   obtain ⟨i, h1, h2⟩ := exists_cut S T N fun k k' a b => h k k' a (by omega)
   by_cases hc : S N ∧ T N
   · refine ⟨N + 1, Nat.le_refl _, fun k hk hS => ⟨fun _ => ?_, fun _ => hk⟩⟩
     by_cases q : k = N
     · exact q ▸ hc.2
     · exact h k N (by omega) (by omega) hS hc.1 hc.2
   · refine ⟨i, by omega, fun k hk hS => ?_⟩
     by_cases q : k = N
     · subst q
       exact ⟨fun q => by omega, fun q => (hc ⟨hS, q⟩).elim⟩
     · exact h2 k (by omega) hS
theorem load_run {pm : Perm} {J : Heap} {agg : Bool} {m : Nat} {x : Option Value} {v : Value} (h : loadOf J agg m x = some v) : (effLoad agg m x).run pm J = some (v, J) := by
 unfold loadOf at h
 split at h
 · rename_i a
   split at h
   · rename_i y hy
     split at h
     · rename_i cs hc
       simp only [effLoad, Eff.run, hy, hc, h, retO]
     · cases h
   · cases h
 · cases h
theorem load_congr {J H : Heap} {agg : Bool} {m : Nat} {a : Addr} (h : J.get a.block = H.get a.block) : loadOf J agg m (some (.pointer (some a))) = loadOf H agg m (some (.pointer (some a))) := by
 simp only [loadOf, h]
namespace Sim
variable {O : OpqT} {P : Program} {base : Nat} {pm : Perm} {n : Nat} {G : Nat → Bool} {K : Orc} {ops : Array Oper}
variable {s : Sim P G n ops K pm} {T : Nat → Prop} {γ0 γ : Emb} {H0 J : Heap} {w0 w : World} {e : Env} {a : Act} {j : Nat}
/-- An operation that is no call does here what it does in the reference run. -/
theorem Inv.same (hF : ∀ q, q < s.N → s.Fact q) (h0 : ∀ b, s.b0 ≤ b → (s.Hh 0).get b = none) (hI : Inv O base s T γ0 H0 w0 e J γ a w) (h : s.Ready T j) (hw : (s.D j).wanted (s.E j) = some true) (hcl : (s.D j).op.cl = false)
  (hrun : ((s.D j).op.eff (s.E j)).runT ⟨pm.lo, pm.ok, some (s.b0 + j)⟩ (s.Hh j) = some (s.V j, s.Hh (j + 1), s.F j, s.M j)) (m2 : Option Nat) (hm2 : s.b0 + j ∈ s.M j → m2 = some (s.b0 + j)) :
  ∃ J', ((s.D j).op.eff (s.E j)).run ⟨pm.lo, pm.ok, m2⟩ J = some (s.V j, J') ∧ J'.next = J.next ∧ ∀ b, J'.get b = if b ∈ s.M j then (s.Hh (j + 1)).get b else J.get b := by
 by_cases hst : s.Stable j
 · obtain ⟨u, hu, _⟩ := hst 0 (Nat.zero_le _)
   unfold DOper.again at hu
   rw [hw] at hu
   split at hu
   · rename_i agg m x _ heq
     have hmods := still_mods (op_still (e := s.E j) (o := (s.D j).op) (by rw [heq]; rfl) (by rw [heq]; rfl)) hrun
     have hag : ∀ i, (s.D j).again (s.E j) (s.Hh i) = loadOf (s.Hh i) agg m (ev (s.E j) x) := fun i => by
      unfold DOper.again
      rw [hw, heq]
     have hv : ∀ i, i ≤ s.N → loadOf (s.Hh i) agg m (ev (s.E j) x) = some (s.V j) := fun i hi => by
      obtain ⟨u, h1, h2⟩ := hst i hi
      rw [hag] at h1
      rw [h1, valBeq_eq h2]
     have hJ : loadOf J agg m (ev (s.E j) x) = some (s.V j) := by
      have hz := hv 0 (Nat.zero_le _)
      cases hx : ev (s.E j) x with
      | none => rw [hx] at hz; cases hz
      | some y =>
        rw [hx] at hz hv
        cases y <;> try (cases hz; done)
        rename_i p
        cases p with
        | none => cases hz
        | some ad =>
          have hb : ad.block < s.b0 := by
           apply Nat.lt_of_not_le
           intro hle
           simp only [loadOf, h0 _ hle] at hz
           cases hz
          obtain ⟨i, hi, hcut⟩ := exists_cut (fun k => s.Wr k ad.block) T s.N fun k k' a1 a2 a3 a4 a5 => by
           apply Classical.byContradiction
           intro hT
           have hbf : ¬ s.bf k k' := fun q => hT (h.closed k k' (by omega) a2 q a5)
           exact s.clashWW hF a1 a2 hbf a3 a4
          rw [load_congr (hI.blks ad.block i hi (fun p _ q => by omega) hcut)]
          exact hv i hi
     refine ⟨J, ?_, rfl, fun b => by rw [hmods.1]; simp⟩
     rw [heq]
     exact load_run hJ
   · cases hu
 · have hnc : ¬ s.cw j := fun q => by rw [q.1] at hcl; cases hcl
   refine runT_agree (pm := ⟨pm.lo, pm.ok, some (s.b0 + j)⟩) rfl _ hrun (.inl (s.own j h.lt)) (fun b hb hne => ?_) hm2
   refine hI.blks b j (Nat.le_of_lt h.lt) (fun p hp hbp => ?_) fun k hk hwr => ⟨fun hkj => ?_, fun hT => ?_⟩
   · subst hbp
     obtain ⟨h1, h2⟩ := s.made j h.lt p hp hb (by omega)
     refine ⟨?_, h2⟩
     apply Classical.byContradiction
     intro hT
     exact hst (s.clashWR h1 h.lt (h.early hp hT) (.inl h2) hb)
   · apply Classical.byContradiction
     intro hT
     exact hst (s.clashWR hkj h.lt (h.early hk hT) hwr hb)
   · apply Classical.byContradiction
     intro hkj
     have : k ≠ j := fun q => h.nt (q ▸ hT)
     exact hst (s.clashRW hF (by omega) hk (h.late hk hT) hb hwr)
theorem Inv.oper (hF : ∀ q, q < s.N → s.Fact q) (hb : s.b0 = H0.next) (hlo : pm.lo ≤ s.b0) (h0 : ∀ b, s.b0 ≤ b → (s.Hh 0).get b = none) (hn0 : s.b0 ≤ (s.Hh 0).next) (hK : SoundK O P G K) (hnum : pm.num = none) (hG : GRel G γ0)
  (hI : Inv O base s T γ0 H0 w0 e J γ a w) (h : s.Ready T j) {next : Act → World → Prop} {Q : Exit → Act → World → Prop}
  (hn : ∀ e' J' γ' a' w', Inv O base s (fun k => T k ∨ k = j) γ0 H0 w0 e' J' γ' a' w' → next a' w') :
  if Region.wanted (s.oc j) (yielded ops a.tmps) then (s.oc j).wp P a w next Q ∨ ((s.oc j).asks P a w ∧ LetsOut Q) else next (a.put (s.oc j).dst undef) w := by
 have hlk := hI.looks h
 have hok := s.ok h.lt
 have hD := s.D_op h.lt
 have hdst : ∀ t, (s.D j).dst = some t → t < n := fun t ht => ok_dst hok t (hD.2 ▸ ht)
 have hwd : (s.D j).wanted e = (s.D j).wanted (s.E j) := wanted_congr hlk
 have hGG := hG.mono hI.step.ext
 rcases s.cases h.lt with ⟨h1, h2, h3, h4, h5⟩ | ⟨h1, h2, h3⟩ | ⟨h1, h2, h3⟩
 · rw [wanted_eq hI.erel hok (hwd.trans h1)]
   have hcw : ¬ s.cw j := fun q => by rw [q.2] at h1; cases h1
   refine hn _ J γ _ w (hI.other hF hb h hcw (J' := J) (m := none) rfl (fun b => by rw [h5]; simp) ?_ (Step.refl hI.step.rel) fun b q => by cases q)
   rw [h2, hD.2]
   exact hI.erel.putUndef fun t ht => hdst t (hD.2 ▸ ht)
 · rw [wanted_eq hI.erel hok (hwd.trans h1), if_pos rfl]
   have hcw : ¬ s.cw j := fun q => by rw [q.1] at h2; cases h2
   by_cases hmk : s.b0 + j ∈ s.M j
   all_goals
    obtain ⟨m2, hm2⟩ : ∃ m2 : Option Nat, (s.b0 + j ∈ s.M j → m2 = some (s.b0 + j)) ∧ ∀ b, m2 = some b → b = s.b0 + j ∧ b ∈ s.M j := by
     first
      | exact ⟨some (s.b0 + j), fun _ => rfl, fun b q => by cases q; exact ⟨rfl, hmk⟩⟩
      | exact ⟨none, fun q => (hmk q).elim, fun b q => by cases q⟩
    obtain ⟨J', e1, e2, e3⟩ := hI.same hF h0 h h1 h2 h3 m2 hm2.1
    rw [← eff_congr (op_looks hlk), hD.1] at e1
    have hfr : Perm.Fresh ⟨pm.lo, pm.ok, m2⟩ γ J := by
     intro b q
     obtain ⟨rfl, x2⟩ := hm2.2 b q
     have := hI.nx
     have := h.lt
     refine ⟨by omega, ?_, ?_⟩
     · cases hg : γ (s.b0 + j) with
       | none => rfl
       | some L => exact (h.nt (hI.known j h.lt L hg).1).elim
     · simp only [Perm.may, nble]
       rw [decide_eq_true (show pm.lo ≤ s.b0 + j by omega)]
       rfl
    refine .inl ((op_sound hI.step.rel hfr hI.erel hGG (s.oc j) e1).done next Q fun γ' v' w' q1 q2 => ?_)
    refine hn _ J' γ' _ w' (hI.other hF hb h hcw e2 e3 ?_ q2 hm2.2)
    rw [hD.2]
    exact (hI.erel.mono q2.ext).put (fun t ht => hdst t (hD.2 ▸ ht)) q1
 · rw [wanted_eq hI.erel hok (hwd.trans h1.2), if_pos rfl]
   obtain ⟨hS0, hnx⟩ := hI.swap hF (fun b hb' => h0 b (by omega)) h h1 hb
   have key : ∀ pm' : Perm, pm'.num = none → (∀ b, b < (s.Hh j).next → pm'.may b = true → pm.may b = true) → (s.D j).op.run K pm' (s.E j) (s.Hh j) = some (s.V j, s.Hh (j + 1)) → (s.oc j).wp P a w next Q := by
    intro pm' hn' hmay hrun
    rw [← args_congr (op_looks hlk), hD.1] at hrun
    refine dop_sound hK hS0.rel hn' hI.erel hGG (s.oc j) (ok_calm hok) hrun next Q fun γ' v' w' q1 q2 => ?_
    have q3 := q2.weaken hS0.rel hmay fun b e => by rw [hn'] at e; cases e
    refine hn _ _ γ' _ w' (hI.call hF h h1 hnx hS0 ?_ q3 hnum)
    rw [hD.2]
    exact (hI.erel.mono q2.ext).put (fun t ht => hdst t (hD.2 ▸ ht)) q1
   rcases h3 with ⟨h4, h5, h6⟩ | ⟨h4, h5, h6⟩
   · exact .inl (key ⟨pm.lo, pm.ok, none⟩ rfl (fun b _ h => h) h6)
   · refine .inl (key ⟨(s.Hh j).next, s.M j, none⟩ rfl (fun b hb' hm => ?_) h6)
     simp only [Perm.may, nble, decide_eq_false (Nat.not_le.2 hb'), cond_false] at hm
     have hm : b ∈ s.M j := by simpa using hm
     rw [h5] at hm
     have := gives_may hm
     exact this
end Sim
end Go.Dam
namespace Go.Dam
section
open Go
def nf : List Bool → Nat
 | [] => 0
 | true :: l => nf l
 | false :: l => nf l + 1
theorem nf_set : ∀ {l : List Bool} {i : Nat}, l[i]? = some false → nf (l.set i true) + 1 = nf l
 | [], i, h => by simp at h
 | b :: l, 0, h => by
   simp only [List.getElem?_cons_zero, Option.some.injEq] at h
   subst h
   rfl
 | b :: l, i + 1, h => by
   have := nf_set (l := l) (i := i) (by simpa using h)
   cases b <;> simp only [List.set_cons_succ, nf] <;> omega
theorem nf_zero : ∀ {l : List Bool} {i : Nat}, nf l = 0 → l[i]? = some false → False
 | [], i, _, h => by simp at h
 | b :: l, 0, h0, h => by
   simp only [List.getElem?_cons_zero, Option.some.injEq] at h
   subst h
   simp [nf] at h0
 | b :: l, i + 1, h0, h => by
   cases b
   · simp [nf] at h0
   · exact nf_zero (l := l) (i := i) (by simpa [nf] using h0) (by simpa using h)
theorem nf_rep : ∀ N, nf (List.replicate N false) = N
 | 0 => rfl
 | N + 1 => by simp [List.replicate_succ, nf, nf_rep N]
theorem edge_down {ops : Array Oper} (hd : edgesDown ops = true) {j : Nat} {o : Oper} (ho : ops[j]? = some o) {e : Edge} (he : e ∈ o.after) (hb : Region.binds .any e = true) : e.on < j := by
 simp only [edgesDown, List.all_eq_true] at hd
 have := hd (o, j) (by rw [List.mk_mem_zipIdx_iff_getElem?]; simpa using ho)
 simp only [Array.all_eq_true_iff_forall_mem, Bool.or_eq_true, Bool.not_eq_true', decide_eq_true_eq] at this
 exact (this e he).resolve_left (by simp [hb])
theorem inOrd_mem {ds : List DOper} {ord : List Nat} {x : Nat × DOper} (h : x ∈ inOrd ds ord) : ds[x.1]? = some x.2 ∧ x.1 ∈ ord := by
 unfold inOrd at h
 obtain ⟨i, hi, h⟩ := List.mem_filterMap.1 h
 cases hd : ds[i]? with
 | none => rw [hd] at h; cases h
 | some o =>
   rw [hd] at h
   simp only [Option.map_some, Option.some.injEq] at h
   subst h
   exact ⟨hd, hi⟩
theorem inOrd_nodup {ds : List DOper} {ord : List Nat} (h : ord.Nodup) : (inOrd ds ord).Pairwise fun x y => x.1 ≠ y.1 := by
 unfold inOrd
 rw [List.pairwise_filterMap]
 refine List.Pairwise.imp ?_ h
 intro i j hij x hx y hy
 cases hi : ds[i]? with
 | none => rw [hi] at hx; cases hx
 | some o =>
   cases hj : ds[j]? with
   | none => rw [hj] at hy; cases hy
   | some o' =>
     rw [hi] at hx
     rw [hj] at hy
     simp only [Option.map_some, Option.some.injEq] at hx hy
     subst hx; subst hy
     exact hij
theorem fixedAll_spec {bf : Nat → Nat → Bool} {all : List (Nat × DOper)} : ∀ (ys : List (Nat × DOper)) (j p : Nat) (y : Nat × DOper), ys[p]? = some y → (fixedAll bf all ys j).getD p false = true → fixedAt bf y.1 (j + p) all 0 = true
 | [], j, p, y, h, _ => by simp at h
 | y0 :: ys, j, 0, y, h, h2 => by
   simp only [List.getElem?_cons_zero, Option.some.injEq] at h
   subst h
   simpa [fixedAll] using h2
 | y0 :: ys, j, p + 1, y, h, h2 => by
   have := fixedAll_spec (bf := bf) (all := all) ys (j + 1) p y (by simpa using h) (by simpa [fixedAll] using h2)
   rwa [show j + 1 + p = j + (p + 1) by omega] at this
theorem fixedAt_spec {bf : Nat → Nat → Bool} {jo j : Nat} : ∀ (xs : List (Nat × DOper)) (i q : Nat) (x : Nat × DOper), xs[q]? = some x → fixedAt bf jo j xs i = true → i + q ≠ j → touches x.2 = true → (i + q < j → bf x.1 jo = true) ∧ (j < i + q → bf jo x.1 = true)
 | [], i, q, x, h, _, _, _ => by simp at h
 | x0 :: xs, i, 0, x, h, h2, hne, ht => by
   simp only [List.getElem?_cons_zero, Option.some.injEq] at h
   subst h
   simp only [fixedAt, Bool.and_eq_true, Bool.or_eq_true, Nat.beq_eq, Bool.not_eq_true', ht, nblt] at h2
   have h2 := h2.1.resolve_left (fun q => q.elim (fun q => hne (by omega)) (fun q => by cases q))
   rw [Nat.add_zero] at *
   refine ⟨fun q => ?_, fun q => ?_⟩
   · simpa [q] using h2
   · simpa [show ¬ i < j by omega] using h2
 | x0 :: xs, i, q + 1, x, h, h2, hne, ht => by
   simp only [fixedAt, Bool.and_eq_true] at h2
   have := fixedAt_spec xs (i + 1) q x (by simpa using h) h2.2 (by omega) ht
   rwa [show i + 1 + q = i + (q + 1) by omega] at this
theorem madeB_spec {l : List Rec} {b0 : Nat} : ∀ (rs : List Rec) (i q : Nat) (r : Rec), rs[q]? = some r → madeB l b0 rs i = true → ∀ p, p < l.length → b0 + p ∈ r.foot → p ≠ i + q → p < i + q ∧ ∃ x, l[p]? = some x ∧ b0 + p ∈ x.mods
 | [], i, q, r, h, _, _, _, _, _ => by simp at h
 | r0 :: rs, i, 0, r, h, h2, p, hp, hf, hne => by
   simp only [List.getElem?_cons_zero, Option.some.injEq] at h
   subst h
   simp only [madeB, Bool.and_eq_true, List.all_eq_true] at h2
   have := h2.1 (b0 + p) hf
   simp only [Bool.or_eq_true, nblt, nble, nbeq, decide_eq_true_eq, Bool.and_eq_true] at this
   rcases this with ((q | q) | q) | ⟨q, q'⟩
   · omega
   · omega
   · omega
   · refine ⟨by omega, ?_⟩
     rw [show b0 + p - b0 = p by omega] at q'
     split at q'
     · rename_i x hx
       exact ⟨x, hx, by simpa using q'⟩
     · cases q'
 | r0 :: rs, i, q + 1, r, h, h2, p, hp, hf, hne => by
   simp only [madeB, Bool.and_eq_true] at h2
   have := madeB_spec rs (i + 1) q r (by simpa using h) h2.2 p hp hf (by omega)
   rwa [show i + 1 + q = i + (q + 1) by omega] at this
theorem sameIn_spec {again : Heap → Option Value} {v : Value} {H : Heap} (h : sameIn again v H = true) : ∃ u, again H = some u ∧ valBeq u v = true := by
 unfold sameIn at h
 split at h
 · rename_i u hu; exact ⟨u, hu, h⟩
 · cases h
end
section
open Go
section
variable {O : OpqT} {P : Program} {base : Nat} {pm : Perm} {n : Nat} {G : Nat → Bool} {K : Orc}
def noOper : Oper := ⟨none, .move (.tmp 0), 0, "", #[], none⟩
def befB (ops : Array Oper) (i j : Nat) : Bool := ((Region.before ops).getD j 0).testBit i
/-- What confOf says. -/
structure ConfOk (ops : Array Oper) (ds : List DOper) (c : Conf) : Prop where
 down : edgesDown ops = true
 nd : c.ord.Nodup
 cover : ∀ i, i < ds.length → i ∈ c.ord
 len : (inOrd ds c.ord).length = ds.length
 pairs : pairsAll (befB ops) (inOrd ds c.ord) (inOrd ds c.ord) 0 = some c.pairs
 fixed : c.fixed = fixedAll (befB ops) (inOrd ds c.ord) (inOrd ds c.ord) 0
theorem confOf_ok {ops : Array Oper} {ds : List DOper} {c : Conf} (h : confOf ops ds = some c) : ConfOk ops ds c := by
 unfold confOf at h
 simp only at h
 split at h
 · rename_i hc
   simp only [Bool.and_eq_true, decide_eq_true_eq, List.all_eq_true, List.mem_range, beq_iff_eq] at hc
   split at h
   · rename_i l hl
     simp only [Option.some.injEq] at h
     subst h
     exact ⟨hc.1.1.1, hc.1.1.2, fun i hi => by simpa using hc.1.2 i hi, hc.2, hl, rfl⟩
   · cases h
 · cases h
def atD {α : Type} (l : List α) (d : α) (i : Nat) : α := (l[i]?).getD d
theorem evalDraw_inv {ops : List DOper} {conf : Option Conf} {e e2 : Env} {H H2 : Heap} (h : evalDraw K pm ops conf e H = some (e2, H2)) :
  ∃ c recs, conf = some c ∧ pm.lo ≤ H.next ∧ evalT K pm ((inOrd ops c.ord).map (·.2)) H.next c.fixed e ⟨H.t, H.next + ops.length⟩ = some (e2, H2, recs) ∧ confFine recs H2 c.pairs = true ∧ madeB recs H.next recs 0 = true := by
 unfold evalDraw at h
 split at h
 · rename_i c
   rw [nble] at h
   by_cases hlo : pm.lo ≤ H.next
   · simp only [hlo, decide_true, cond_true] at h
     split at h
     · rename_i e' H' l hl
       cases hc : (confFine l H' c.pairs && madeB l H.next l 0) with
       | false => rw [hc] at h; cases h
       | true =>
         rw [hc] at h
         simp only [cond_true, Option.some.injEq, Prod.mk.injEq] at h
         obtain ⟨rfl, rfl⟩ := h
         simp only [Bool.and_eq_true] at hc
         exact ⟨c, l, rfl, hlo, hl, hc.1, hc.2⟩
     · cases h
   · simp only [hlo, decide_false, cond_false] at h
     cases h
 · cases h
theorem fine_spec {recs : List Rec} {H2 : Heap} {c : List (Nat × Nat)} (h : confFine recs H2 c = true) {i j : Nat} (hm : (i, j) ∈ c) : ∃ x y, recs[i]? = some x ∧ recs[j]? = some y ∧ (∀ b ∈ x.mods, b ∉ y.mods) ∧ ((∀ b ∈ x.mods, b ∉ y.foot) ∨
  ((∀ r ∈ recs, ∃ u, y.again r.heap = some u ∧ valBeq u y.val = true) ∧ ∃ u, y.again H2 = some u ∧ valBeq u y.val = true)) := by
 simp only [confFine, List.all_eq_true] at h
 have := h (i, j) hm
 simp only at this
 split at this
 · rename_i x y hx hy
   simp only [Bool.and_eq_true, Bool.or_eq_true] at this
   refine ⟨x, y, hx, hy, disj_spec this.1, this.2.imp (fun q => disj_spec q) fun q => ?_⟩
   simp only [stable, Bool.and_eq_true, List.all_eq_true] at q
   exact ⟨fun r hr => sameIn_spec (q.1 r hr), sameIn_spec q.2⟩
 · cases this
/-- The region's reference run. -/
theorem sim_of {ops : Array Oper} {c : Conf} (hc : ConfOk ops (cOps P G n ops) c) {e e2 : Env} {H H2 : Heap} {recs : List Rec}
  (h : evalT K pm ((inOrd (cOps P G n ops) c.ord).map (·.2)) H.next c.fixed e ⟨H.t, H.next + (cOps P G n ops).length⟩ = some (e2, H2, recs)) (hfine : confFine recs H2 c.pairs = true) (hmade : madeB recs H.next recs 0 = true) :
  ∃ s : Sim P G n ops K pm, s.N = ops.size ∧ s.b0 = H.next ∧ s.E 0 = e ∧ s.Hh 0 = ⟨H.t, H.next + s.N⟩ ∧ s.E s.N = e2 ∧ s.Hh s.N = H2 ∧ (∀ p q, s.bf p q → befB ops (s.ix p) (s.ix q) = true) ∧ (∀ p, p < s.N → ops[s.ix p]? = some (s.oc p)) ∧
    (∀ p q, p < s.N → q < s.N → s.ix p = s.ix q → p = q) ∧ (∀ i, i < ops.size → ∃ p, p < s.N ∧ s.ix p = i) := by
 obtain ⟨E, Hh, V, F, M, hR⟩ := evalT_ref h
 generalize hrs : inOrd (cOps P G n ops) c.ord = rs at *
 have hdl : (cOps P G n ops).length = ops.size := by simp [cOps]
 have hlen : rs.length = ops.size := by have := hc.len; rw [hrs] at this; omega
 have hrecs : recs.length = ops.size := by have := hR.len; simpa [hlen] using this
 let ix : Nat → Nat := fun p => (atD rs (0, ⟨none, none, .bad ""⟩) p).1
 let oc : Nat → Oper := fun p => (ops[ix p]?).getD noOper
 have hrsp : ∀ p, p < ops.size → rs[p]? = some (ix p, cOper P G n ops (oc p)) ∧ ops[ix p]? = some (oc p) := by
  intro p hp
  have hp' : p < rs.length := by omega
  have h1 : rs[p]? = some rs[p] := List.getElem?_eq_getElem hp'
  have h2 : rs[p] ∈ inOrd (cOps P G n ops) c.ord := by rw [hrs]; exact List.getElem_mem hp'
  obtain ⟨h3, h4⟩ := inOrd_mem h2
  have hix : ix p = rs[p].1 := by simp only [ix, atD, h1, Option.getD_some]
  rw [← hix] at h3
  simp only [cOps, List.getElem?_map, Array.getElem?_toList] at h3
  cases ho : ops[ix p]? with
  | none => rw [ho] at h3; cases h3
  | some o =>
    have hoc : oc p = o := by simp only [oc, ho, Option.getD_some]
    rw [ho] at h3
    simp only [Option.map_some, Option.some.injEq] at h3
    rw [hoc, h1]
    refine ⟨?_, rfl⟩
    rw [h3, hix]
 have hstep : ∀ p, p < ops.size → _ := fun p hp => hR.step p (cOper P G n ops (oc p)) (by rw [List.getElem?_map, (hrsp p hp).1]; rfl)
 have hpair : ∀ p q, p < q → q < ops.size → ¬ befB ops (ix p) (ix q) = true → ∃ l, pairOf p q (cOper P G n ops (oc p)) (cOper P G n ops (oc q)) = some l ∧ ∀ z ∈ l, z ∈ c.pairs := by
  intro p q hpq hq hb
  have := pairsAll_spec rs 0 c.pairs (hrs ▸ hc.pairs) q _ (hrsp q hq).1 p _ (hrsp p (by omega)).1 (by omega) (by simpa using hb)
  rwa [Nat.zero_add] at this
 have hheap : ∀ i, i ≤ ops.size → i = ops.size ∨ ∃ r ∈ recs, r.heap = Hh i := by
  intro i hi
  by_cases q : i = ops.size
  · exact .inl q
  · obtain ⟨_, _, _, h4⟩ := hstep i (by omega)
    exact .inr ⟨_, List.mem_of_getElem? h4, rfl⟩
 have hN : Hh ops.size = H2 := by have := hR.hN; simpa [hlen] using this
 have hEN : E ops.size = e2 := by have := hR.eN; simpa [hlen] using this
 have hfin : ∀ p q, p < ops.size → q < ops.size → (p, q) ∈ c.pairs → (∀ b ∈ M p, b ∉ M q) ∧ ((∀ b ∈ M p, b ∉ F q) ∨ ∀ i, i ≤ ops.size → ∃ u, (cOper P G n ops (oc q)).again (E q) (Hh i) = some u ∧ valBeq u (V q) = true) := by
  intro p q hp hq hm
  obtain ⟨x, y, hx, hy, h1, h2⟩ := fine_spec hfine hm
  obtain ⟨_, _, _, h4⟩ := hstep p hp
  obtain ⟨_, _, _, h5⟩ := hstep q hq
  rw [h4] at hx
  rw [h5] at hy
  cases hx
  cases hy
  refine ⟨h1, h2.imp id fun ⟨q1, q2⟩ i hi => ?_⟩
  rcases hheap i hi with r | ⟨r, hr, hh⟩
  · rw [r, hN]; exact q2
  · rw [← hh]; exact q1 r hr
 refine ⟨{ N := ops.size, b0 := H.next, ix := ix, oc := oc, fx := fun p => c.fixed.getD p false, bf := fun p q => befB ops (ix p) (ix q) = true, E := E, Hh := Hh, V := V, F := F, M := M, run := ?_, put := ?_, own := ?_, apart := ?_, wr := ?_, wr' := ?_, fixed := ?_, made := ?_ }, rfl, rfl, hR.e0, ?_, hEN, hN, fun p q h => h, fun p hp => (hrsp p hp).2, fun p q hp hq hpq => ?_, fun i hi => ?_⟩
 · intro p hp; exact (hstep p hp).2.1
 · intro p hp; exact (hstep p hp).2.2.1
 · intro p hp; exact (hstep p hp).1
 · intro p q hpq hq hb
   obtain ⟨l, h1, _⟩ := hpair p q hpq hq hb
   exact (pairOf_spec h1).1
 · intro p q hpq hq hb f1 f2
   obtain ⟨l, h1, h2⟩ := hpair p q hpq hq hb
   exact hfin p q (by omega) hq (h2 _ ((pairOf_spec h1).2.1 (by rw [f1, f2]; rfl)))
 · intro p q hpq hq hb f1 f2
   obtain ⟨l, h1, h2⟩ := hpair p q hpq hq hb
   exact hfin q p hq (by omega) (h2 _ ((pairOf_spec h1).2.2 (by rw [f1, f2]; rfl)))
 · intro p hp hf q hq hne ht
   rw [hc.fixed, hrs] at hf
   have := fixedAll_spec rs 0 p _ (hrsp p hp).1 hf
   rw [Nat.zero_add] at this
   have := fixedAt_spec rs 0 q _ (hrsp q hq).1 this (by omega) ht
   rwa [Nat.zero_add] at this
 · intro q hq p hp hf hne
   obtain ⟨_, _, _, h4⟩ := hstep q hq
   have := madeB_spec recs 0 q _ h4 hmade p (by omega) hf (by omega)
   rw [Nat.zero_add] at this
   obtain ⟨h5, x, h6, h7⟩ := this
   obtain ⟨_, _, _, h8⟩ := hstep p hp
   rw [h8] at h6
   cases h6
   exact ⟨h5, h7⟩
 · show Hh 0 = ⟨H.t, H.next + ops.size⟩
   rw [hR.h0, hdl]
 · have hnd := inOrd_nodup (ds := cOps P G n ops) hc.nd
   rw [hrs, List.pairwise_iff_getElem] at hnd
   apply Classical.byContradiction
   intro hne
   have hp' : p < rs.length := by simp only at hp; omega
   have hq' : q < rs.length := by simp only at hq; omega
   have e1 : ix p = rs[p].1 := by simp only [ix, atD, List.getElem?_eq_getElem hp', Option.getD_some]
   have e2 : ix q = rs[q].1 := by simp only [ix, atD, List.getElem?_eq_getElem hq', Option.getD_some]
   simp only [e1, e2] at hpq
   rcases Nat.lt_or_gt_of_ne hne with r | r
   · exact hnd p q hp' hq' r hpq
   · exact hnd q p hq' hp' r hpq.symm
 · have h1 := hc.cover i (by omega)
   obtain ⟨o, ho⟩ : ∃ o, (cOps P G n ops)[i]? = some o := ⟨_, List.getElem?_eq_getElem (by omega)⟩
   have hx : (i, o) ∈ rs := by
    rw [← hrs]
    unfold inOrd
    rw [List.mem_filterMap]
    exact ⟨i, h1, by rw [ho]; rfl⟩
   obtain ⟨p, hp, hxp⟩ := List.getElem_of_mem hx
   refine ⟨p, by simp only; omega, ?_⟩
   simp only [ix, atD, List.getElem?_eq_getElem hp, Option.getD_some, hxp]
theorem Sim.facts {ops : Array Oper} (s : Sim P G n ops K pm) (hK : SoundK O P G K) (hnum : pm.num = none) {γ : Emb} {H : Heap} {w : World} {a : Act} (hb : s.b0 = H.next) (hlo : pm.lo ≤ s.b0) (hH : s.Hh 0 = ⟨H.t, H.next + s.N⟩) (hr : Rel O base γ H w) (hE : ERel γ n (s.E 0) a) (hG : GRel G γ) : ∀ q, q < s.N → s.Fact q :=
 (s.chain hK hnum hb hlo hH hr hE hG s.N (Nat.le_refl _)).2
theorem getD_set_iff {listed : Array Bool} {i j : Nat} (hi : i < listed.size) : (listed.setIfInBounds i true).getD j true = true ↔ listed.getD j true = true ∨ j = i := by
 simp only [Array.getD_eq_getD_getElem?]
 by_cases h : i = j
 · subst h
   simp [hi]
 · rw [Array.getElem?_setIfInBounds_ne h]
   exact ⟨.inl, fun q => q.resolve_right (fun q => h q.symm)⟩
theorem ERel.congr {γ : Emb} {e e' : Env} {a : Act} (h : ERel γ n e a) (hg : ∀ t, e'.get t = e.get t) : ERel γ n e' a := ⟨h.size, h.lim, h.defers, fun t v q => h.get t v (by rw [← hg t]; exact q)⟩
/-- All that is left of a drawn region, from a set of done ones. -/
theorem any_sound {ops : Array Oper} {s : Sim P G n ops K pm} {γ0 : Emb} {H0 : Heap} {w0 : World} {Q : Exit → Act → World → Prop} (hdown : edgesDown ops = true) (hsz : s.N = ops.size) (hbf : ∀ p q, s.bf p q → befB ops (s.ix p) (s.ix q) = true) (hoc : ∀ p, p < s.N → ops[s.ix p]? = some (s.oc p))
  (hinj : ∀ p q, p < s.N → q < s.N → s.ix p = s.ix q → p = q) (hsur : ∀ i, i < ops.size → ∃ p, p < s.N ∧ s.ix p = i)
  (hF : ∀ q, q < s.N → s.Fact q) (hb : s.b0 = H0.next) (hlo : pm.lo ≤ s.b0) (h0 : ∀ b, s.b0 ≤ b → (s.Hh 0).get b = none) (hn0 : s.b0 ≤ (s.Hh 0).next) (hK : SoundK O P G K) (hnum : pm.num = none) (hG : GRel G γ0)
  (hQ : ∀ γ2 a2 w2, ERel γ2 n (s.E s.N) a2 → Step O base pm γ0 H0 w0 γ2 (s.Hh s.N) w2 → Q .normal a2 w2) :
  ∀ (d : Nat) (listed : Array Bool) (e : Env) (J : Heap) (γ : Emb) (a : Act) (w : World), listed.size = ops.size → nf listed.toList ≤ d →
    (∀ j o, listed.getD j true = true → ops[j]? = some o → ∀ e ∈ o.after, Region.binds .any e = true → listed.getD e.on true = true) →
    Sim.Inv O base s (fun p => listed.getD (s.ix p) true = true) γ0 H0 w0 e J γ a w → wpAny P .any ops Q d listed a w := by
 intro d
 have hix : ∀ p, p < s.N → s.ix p < ops.size := fun p hp => (Array.getElem?_eq_some_iff.1 (hoc p hp)).1
 -- all done
 have hend : ∀ (listed : Array Bool) (e : Env) (J : Heap) (γ : Emb) (a : Act) (w : World), (∀ i, i < ops.size → listed.getD i true = true) → Sim.Inv O base s (fun p => listed.getD (s.ix p) true = true) γ0 H0 w0 e J γ a w → Q .normal a w := by
  intro listed e J γ a w hall hI
  have hT : ∀ p, p < s.N → (p < s.N ↔ listed.getD (s.ix p) true = true) := fun p hp => ⟨fun _ => hall _ (hix p hp), fun _ => hp⟩
  have hnx := hI.next s.N (Nat.le_refl _) fun k hk _ => hT k hk
  refine hQ γ a w (hI.erel.congr fun t => (hI.slots t s.N (Nat.le_refl _) fun k hk _ => hT k hk).symm) ?_
  refine hI.step.congr (fun b L hL => (hI.blks b s.N (Nat.le_refl _) (fun p hp q => ?_) fun k hk _ => hT k hk).symm) (Nat.le_of_eq hnx) (fun b hb' => ?_) fun b hb' hm => ?_
  · subst q
    exact hI.known p hp L hL
  · cases hs : s.N with
    | zero =>
      rw [hs] at hb'
      exact h0 b (by omega)
    | succ k =>
      rw [hs] at hb'
      exact (hF k (by omega)).new b hb'
  · rw [← hI.blks b s.N (Nat.le_refl _) (fun p hp q => by omega) fun k hk _ => hT k hk]
    exact hI.step.hkeep b hb' hm
 -- none ready: all done
 have hall : ∀ (listed : Array Bool), listed.size = ops.size → Region.ready .any ops listed = [] → ∀ m i, i < m → i < ops.size → listed.getD i true = true := by
  intro listed hls hr m
  induction m with
  | zero => intro i h; omega
  | succ m ih =>
    intro i hi his
    cases hl : listed.getD i true with
    | true => rfl
    | false =>
      have ho : ops[i]? = some ops[i] := Array.getElem?_eq_getElem his
      have : i ∈ Region.ready .any ops listed := mem_ready.2 ⟨hl, _, ho, fun e he hb' => by
       have hlt := edge_down hdown ho he hb'
       have := ih e.on (by omega) (by omega)
       rw [Array.getD_eq_getD_getElem?, Array.getElem?_eq_getElem (by omega)] at this ⊢
       exact this⟩
      rw [hr] at this
      cases this
 have hzero : ∀ (listed : Array Bool), listed.size = ops.size → nf listed.toList = 0 → ∀ i, i < ops.size → listed.getD i true = true := by
  intro listed hls hz i hi
  cases hl : listed.getD i true with
  | true => rfl
  | false =>
    rw [Array.getD_eq_getD_getElem?, Array.getElem?_eq_getElem (by omega)] at hl
    refine (nf_zero (i := i) hz ?_).elim
    rw [Array.getElem?_toList, Array.getElem?_eq_getElem (by omega)]
    exact congrArg some hl
 induction d with
 | zero =>
   intro listed e J γ a w hls hnf hcl hI
   have hz := hzero listed hls (by omega)
   refine ⟨?_, hend listed e J γ a w hz hI⟩
   cases hr : Region.ready .any ops listed with
   | nil => rfl
   | cons x xs =>
     have hx : x ∈ Region.ready .any ops listed := by rw [hr]; exact .head _
     obtain ⟨h1, o, h2, _⟩ := mem_ready.1 hx
     rw [hz x (Array.getElem?_eq_some_iff.1 h2).1] at h1
     cases h1
 | succ d ih =>
   intro listed e J γ a w hls hnf hcl hI
   refine ⟨fun hr => hend listed e J γ a w (fun i hi => hall listed hls hr (i + 1) i (by omega) hi) hI, fun i hi => ?_⟩
   obtain ⟨hun, o, ho, hedge⟩ := mem_ready.1 hi
   have hisz := (Array.getElem?_eq_some_iff.1 ho).1
   obtain ⟨j, hj, hij⟩ := hsur i hisz
   have hoj : o = s.oc j := by
    have := hoc j hj
    rw [hij, ho] at this
    exact Option.some.inj this
   have hedge' : ∀ e ∈ o.after, Region.binds .any e = true → listed.getD e.on true = true := fun e he hb' => by
    have := hedge e he hb'
    have hlt := edge_down hdown ho he hb'
    rw [Array.getD_eq_getD_getElem?, Array.getElem?_eq_getElem (by omega)] at this ⊢
    exact this
   have hR : s.Ready (fun p => listed.getD (s.ix p) true = true) j := by
    refine ⟨hj, by rw [hij, hun]; simp, fun p q hp hq hb' hT => ?_, fun p hp hb' => ?_⟩
    · have := hbf p q hb'
      exact before_closed (T := fun i => listed.getD i true = true) hdown hcl _ (s.ix q) (s.ix p) _ (Nat.lt_succ_self _) (hoc q hq) (hcl _ _ hT (hoc q hq)) this
    · have := hbf p j hb'
      rw [hij] at this
      exact before_closed (T := fun i => listed.getD i true = true) hdown hcl _ i (s.ix p) o (Nat.lt_succ_self _) ho hedge' this
   have hset : ∀ k, (listed.setIfInBounds i true).getD k true = true ↔ listed.getD k true = true ∨ k = i := fun k => getD_set_iff (by omega)
   have hlf : listed[i]? = some false := by
    rw [Array.getD_eq_getD_getElem?, Array.getElem?_eq_getElem (by omega)] at hun
    rw [Array.getElem?_eq_getElem (by omega)]
    exact congrArg some hun
   unfold wpOp
   rw [ho]
   simp only
   rw [hoj]
   refine hI.oper hF hb hlo h0 hn0 hK hnum hG hR fun e' J' γ' a' w' hI' => ?_
   refine ih (listed.setIfInBounds i true) e' J' γ' a' w' (by simpa using hls) ?_ ?_ ?_
   · have := nf_set (l := listed.toList) (i := i) (by simpa using hlf)
     rw [Array.toList_setIfInBounds]
     omega
   · intro k ok hk hok ed he hb'
     rw [hset] at hk ⊢
     rcases hk with hk | hk
     · exact .inl (hcl k ok hk hok ed he hb')
     · subst hk
       rw [ho] at hok
       cases hok
       exact .inl (hedge' ed he hb')
   · have hTT : (fun p => (listed.getD (s.ix p) true = true) ∨ p = j) = fun p => p < s.N ∧ (listed.setIfInBounds i true).getD (s.ix p) true = true ∨ ¬ p < s.N ∧ ((listed.getD (s.ix p) true = true) ∨ p = j) := by
      funext p
      by_cases hp : p < s.N
      · simp only [hp, true_and, not_true_eq_false, false_and, or_false, hset, eq_iff_iff]
        refine or_congr Iff.rfl ⟨fun q => q ▸ hij, fun q => hinj p j hp hj (q.trans hij.symm)⟩
      · simp [hp]
     have hiff : ∀ p, p < s.N → (((listed.getD (s.ix p) true = true) ∨ p = j) ↔ (listed.setIfInBounds i true).getD (s.ix p) true = true) := fun p hp => by
      rw [hset]
      exact or_congr Iff.rfl ⟨fun q => q ▸ hij, fun q => hinj p j hp hj (q.trans hij.symm)⟩
     exact ⟨hI'.erel, hI'.step, hI'.nx, fun t i hi hk => hI'.slots t i hi fun k hkN hd => (hk k hkN hd).trans (hiff k hkN).symm,
      fun b i hi hRb hk => hI'.blks b i hi (fun p hp q => ⟨(hiff p hp).2 (hRb p hp q).1, (hRb p hp q).2⟩) fun k hkN hw => (hk k hkN hw).trans (hiff k hkN).symm,
      fun i hi hk => hI'.next i hi fun k hkN hw => (hk k hkN hw).trans (hiff k hkN).symm,
      fun p hp L hL => ⟨(hiff p hp).1 (hI'.known p hp L hL).1, (hI'.known p hp L hL).2⟩⟩
/-- A region whose order is drawn does what the reference run does. -/
theorem draw_ok (hmix : P.follows .mixedOrders = true) : DrawOk O P G := by
 intro K hK pm hnum n id ops Q base e e2 a γ H H2 w h hr hE hG hQ
 obtain ⟨c, recs, h1, hlo, h3, h4, h5⟩ := evalDraw_inv h
 have hc := confOf_ok h1
 obtain ⟨s, e1, e2', e3, e4, e5, e6, e7, e8, e9, e10⟩ := sim_of hc h3 h4 h5
 have hE0 : ERel γ n (s.E 0) a := e3 ▸ hE
 have hF := s.facts hK hnum e2' (by omega) e4 hr hE0 hG
 have h0 : ∀ b, s.b0 ≤ b → (s.Hh 0).get b = none := fun b hb => by rw [e4]; exact hr.new b (by omega)
 refine wp_region_any hmix ?_
 refine any_sound (γ0 := γ) (H0 := H) (w0 := w) hc.down e1 e7 e8 e9 e10 hF e2' (by omega) h0 (by rw [e4, e2']; exact Nat.le_add_right _ _) hK hnum hG (fun γ2 a2 w2 q1 q2 => hQ γ2 a2 w2 (e5 ▸ q1) (e6 ▸ q2)) ops.size (Array.replicate ops.size false) e ⟨H.t, H.next + s.N⟩ γ a _ (by simp) (by simp [nf_rep]) ?_ ?_
 · intro j o hj ho
   exfalso
   have := (Array.getElem?_eq_some_iff.1 ho).1
   rw [Array.getD_eq_getD_getElem?] at hj
   simp [this] at hj
 · have hnt : ∀ p, p < s.N → ¬ ((Array.replicate ops.size false).getD (s.ix p) true = true) := fun p hp => by
    have := (Array.getElem?_eq_some_iff.1 (e8 p hp)).1
    rw [Array.getD_eq_getD_getElem?]
    simp [this]
   have hz : ∀ i, i ≤ s.N → ∀ d, d = i → True := fun _ _ _ _ => trivial
   refine ⟨hE, Step.reserve hr s.N _, by rw [e2']; exact Nat.le_refl _, fun t i hi hk => ?_, fun b i hi hRb hk => ?_, fun i hi hk => ?_, fun p hp L hL => ?_⟩
   · have := s.env_range (t := t) 0 i (by omega) fun k _ hk' hd => hnt k (by omega) ((hk k (by omega) hd).1 (by omega))
     rw [Nat.zero_add] at this
     rw [this, e3]
   · have := s.keep_range hF (b := b) 0 i (by omega) fun k _ hk' hw => hnt k (by omega) ((hk k (by omega) hw).1 (by omega))
     rw [Nat.zero_add] at this
     rw [this, e4]
   · have := s.next_range hF 0 i (by omega) fun k _ hk' hw => hnt k (by omega) ((hk k (by omega) hw).1 (by omega))
     rw [Nat.zero_add] at this
     rw [this, e4]
   · have := hr.lt _ _ hL
     omega
end
end
section
open Go
/-! ## The same evaluator, laid out for the kernel: what hangs on the code alone is compiled into closed structures, whose forms the kernel keeps; answers are handed on. -/
def pathF : Nat → Nat → List Bool
 | 0, _ => []
 | f + 1, k => bif Nat.beq k 0 then [] else bif Nat.beq (Nat.mod k 2) 1 then true :: pathF f (Nat.div k 2) else false :: pathF f (Nat.sub (Nat.div k 2) 1)
structure GC where
 g : Env → (Value → Out) → Out
structure SC where
 s : Value → Env → Env
structure OC where
 f : Orc → Perm → Env → Heap → (Value → Heap → Out) → Out
structure RC where
 f : Orc → Perm → Env → Heap → (Env → Heap → Out) → Out
structure CC where
 f : Orc → Perm → Nat → Env → Heap → (Ex → Env → Heap → Out) → Out
structure BC where
 f : Value → Value → (Value → Out) → Out
structure UC where
 f : Value → (Value → Out) → Out
structure LC where
 f : Env → (List Value → Out) → Out
noncomputable def bindO {α : Type} (o : Option α) (k : α → Out) : Out := @Option.rec α (fun _ => Out) none k o
noncomputable def getP : List Bool → GC := @List.rec Bool (fun _ => GC) ⟨fun e k => @Tr.rec Value (fun _ => Out) none (fun _ v _ _ _ => @Option.rec Value (fun _ => Out) none k v) e⟩
 (fun b _ ih => @Bool.rec (fun _ => GC) ⟨fun e k => @Tr.rec Value (fun _ => Out) none (fun _ _ r _ _ => ih.g r k) e⟩ ⟨fun e k => @Tr.rec Value (fun _ => Out) none (fun l _ _ _ _ => ih.g l k) e⟩ b)
noncomputable def setP : List Bool → SC := @List.rec Bool (fun _ => SC) ⟨fun x => @Tr.rec Value (fun _ => Env) (.nd .lf (some x) .lf) (fun l _ r _ _ => .nd l (some x) r)⟩
 (fun b _ ih => @Bool.rec (fun _ => SC) ⟨fun x => @Tr.rec Value (fun _ => Env) (.nd .lf none (ih.s x .lf)) (fun l v r _ _ => .nd l v (ih.s x r))⟩ ⟨fun x => @Tr.rec Value (fun _ => Env) (.nd (ih.s x .lf) none .lf) (fun l v r _ _ => .nd (ih.s x l) v r)⟩ b)
noncomputable def slotG (n : Nat) : GC := getP (pathF (n + 1) n)
noncomputable def slotS (n : Nat) : SC := setP (pathF (n + 1) n)
noncomputable def evC : Rand → GC := @Rand.rec (fun _ => GC) slotG (fun v => ⟨fun _ k => k v⟩)
noncomputable def putC : Option Nat → SC := @Option.rec Nat (fun _ => SC) ⟨fun _ e => e⟩ slotS
noncomputable def evsC : List Rand → LC := @List.rec Rand (fun _ => LC) ⟨fun _ k => k []⟩ (fun r _ ih => ⟨fun e k => (evC r).g e fun v => ih.f e fun l => k (v :: l)⟩)
/-! ### Values looked into -/
noncomputable def dNum (v : Value) (ki : IntKind → Int → Out) (ks : ByteArray → Out) : Out :=
 @Value.rec (fun _ => Out) (fun _ => PUnit) (fun _ => PUnit) (fun _ => none) ki (fun _ _ => none) (fun _ _ _ => none) ks (fun _ => none) (fun _ _ _ => none) (fun _ => none) (fun _ => none) (fun _ _ _ _ _ => none) none (fun _ _ _ => none) none (fun _ _ => none) (fun _ _ => none) (fun _ _ => ⟨⟩) ⟨⟩ (fun _ _ _ _ => ⟨⟩) v
noncomputable def dInt (v : Value) (ki : IntKind → Int → Out) : Out := dNum v ki fun _ => none
noncomputable def dStr (v : Value) (ks : ByteArray → Out) : Out := dNum v (fun _ _ => none) ks
noncomputable def dBool (v : Value) (kb : Bool → Out) : Out :=
 @Value.rec (fun _ => Out) (fun _ => PUnit) (fun _ => PUnit) kb (fun _ _ => none) (fun _ _ => none) (fun _ _ _ => none) (fun _ => none) (fun _ => none) (fun _ _ _ => none) (fun _ => none) (fun _ => none) (fun _ _ _ _ _ => none) none (fun _ _ _ => none) none (fun _ _ => none) (fun _ _ => none) (fun _ _ => ⟨⟩) ⟨⟩ (fun _ _ _ _ => ⟨⟩) v
noncomputable def dPtrO (v : Value) (kp : Option Addr → Out) (ksl : Option Addr → Nat → Nat → Out) : Out :=
 @Value.rec (fun _ => Out) (fun _ => PUnit) (fun _ => PUnit) (fun _ => none) (fun _ _ => none) (fun _ _ => none) (fun _ _ _ => none) (fun _ => none) kp ksl (fun _ => none) (fun _ => none) (fun _ _ _ _ _ => none) none (fun _ _ _ => none) none (fun _ _ => none) (fun _ _ => none) (fun _ _ => ⟨⟩) ⟨⟩ (fun _ _ _ _ => ⟨⟩) v
noncomputable def dPtr (v : Value) (k : Addr → Out) : Out := dPtrO v (fun o => bindO o k) (fun _ _ _ => none)
noncomputable def dSl (v : Value) (k : Option Addr → Nat → Nat → Out) : Out := dPtrO v (fun _ => none) k
noncomputable def dAgg (v : Value) (k : Array Value → Out) (kt : Array Value → Out) : Out :=
 @Value.rec (fun _ => Out) (fun _ => PUnit) (fun _ => PUnit) (fun _ => none) (fun _ _ => none) (fun _ _ => none) (fun _ _ _ => none) (fun _ => none) (fun _ => none) (fun _ _ _ => none) (fun _ => none) (fun _ => none) (fun _ _ _ _ _ => none) none (fun _ _ _ => none) none (fun a _ => k a) (fun a _ => kt a) (fun _ _ => ⟨⟩) ⟨⟩ (fun _ _ _ _ => ⟨⟩) v
noncomputable def dNat (v : Value) (k : Nat → Out) : Out := dInt v fun _ n => @Int.rec (fun _ => Out) k (fun _ => none) n
noncomputable def ifC (b : Bool) (x y : Out) : Out := @Bool.rec (fun _ => Out) y x b
noncomputable def kIx : IntKind → Nat := @IntKind.rec (fun _ => Nat) 0 1 2 3 4 5 6 7
noncomputable def kEq (a b : IntKind) : Bool := Nat.beq (kIx a) (kIx b)
noncomputable def nthC {α : Type} (l : List α) : Nat → (α → Out) → Out := @List.rec α (fun _ => Nat → (α → Out) → Out) (fun _ _ => none) (fun v _ ih n k => @Nat.rec (fun _ => Out) (k v) (fun m _ => ih m k) n) l
noncomputable def setC (x : Value) (l : List Value) : Nat → (List Value → Out) → Out := @List.rec Value (fun _ => Nat → (List Value → Out) → Out) (fun _ _ => none) (fun v t ih n k => @Nat.rec (fun _ => Out) (k (x :: t)) (fun m _ => ih m fun r => k (v :: r)) n) l
noncomputable def arithB (f : Int → Int → Int) : Value → Value → (Value → Out) → Out := fun x y k => dInt x fun ka a => dInt y fun kb b => ifC (kEq ka kb) (k (.int ka (wr ka (f a b)))) none
noncomputable def cmpB (op : BinOp) (f : Int → Int → Bool) : Value → Value → (Value → Out) → Out := fun x y k => dNum x (fun ka a => dInt y fun kb b => ifC (kEq ka kb) (k (.bool (f a b))) none) fun s => dStr y fun t => bindO (strOp op s t) k
def bytesEq : List UInt8 → List UInt8 → Bool
 | [], [] => true
 | a :: x, b :: y => bif Nat.beq a.toNat b.toNat then bytesEq x y else false
 | _, _ => false
noncomputable def eqB (neg : Bool) : EqK → BC := @EqK.rec (fun _ => BC)
 ⟨fun x y k => dNum x (fun ka a => dInt y fun kb b => ifC (kEq ka kb) (k (.bool (xor neg (eqI a b)))) none) fun s => dStr y fun t => k (.bool (xor neg (bytesEq s.data.toList t.data.toList)))⟩
 ⟨fun x y k => dBool x fun a => dBool y fun b => k (.bool (xor neg (a == b)))⟩
 (fun n => ⟨fun x y k => bindO (eqNil n x y) fun b => k (.bool (xor neg b))⟩)
 (fun ks => ⟨fun x y k => bindO (valEq (.cells ks) x y) fun b => k (.bool (xor neg b))⟩)
noncomputable def binC : BinOp → EqK → BC
 | .add => fun _ => ⟨fun x y k => dNum x (fun ka a => dInt y fun kb b => ifC (kEq ka kb) (k (.int ka (wr ka (Int.add a b)))) none) fun s => dStr y fun t => bindO (strOp .add s t) k⟩
 | .sub => fun _ => ⟨arithB Int.sub⟩
 | .mul => fun _ => ⟨arithB Int.mul⟩
 | .lss => fun _ => ⟨cmpB .lss ltI⟩
 | .leq => fun _ => ⟨cmpB .leq fun a b => !ltI b a⟩
 | .gtr => fun _ => ⟨cmpB .gtr fun a b => ltI b a⟩
 | .geq => fun _ => ⟨cmpB .geq fun a b => !ltI a b⟩
 | .eql => fun q => eqB false q
 | .neq => fun q => eqB true q
 | op => fun q => ⟨fun x y k => bindO (binOp op q x y) k⟩
/-- A heap's block. -/
noncomputable def getF : Nat → Nat → Tr Blk → (Blk → Out) → Out :=
 @Nat.rec (fun _ => Nat → Tr Blk → (Blk → Out) → Out) (fun _ _ _ => none) (fun _ ih b t k => @Tr.rec Blk (fun _ => Out) none (fun l v r _ _ =>
  ifC (Nat.beq b 0) (bindO v k) (ifC (Nat.beq (Nat.mod b 2) 1) (ih (Nat.div b 2) l k) (ih (Nat.sub (Nat.div b 2) 1) r k))) t)
noncomputable def blkC (H : Heap) (b : Nat) (k : Blk → Out) : Out := getF (Nat.succ b) b H.t k
noncomputable def dRow (x : Blk) (k : List Value → Out) : Out := @Blk.rec (fun _ => Out) (fun cs _ => k cs) k (fun _ _ => none) (fun _ _ => none) (fun _ => none) none (fun _ _ => none) x
noncomputable def dCells (x : Blk) (k : List Value → Zk → Out) : Out := @Blk.rec (fun _ => Out) k (fun _ => none) (fun _ _ => none) (fun _ _ => none) (fun _ => none) none (fun _ _ => none) x
noncomputable def anyC (o : DOp) : OC := ⟨fun K lo e H k => bindO (o.run K lo e H) fun p => k p.1 p.2⟩
noncomputable def one1 : Value → Bool := @Value.rec (fun _ => Bool) (fun _ => PUnit) (fun _ => PUnit) (fun _ => true) (fun _ _ => true) (fun _ _ => true) (fun _ _ _ => true) (fun _ => true) (fun _ => true) (fun _ _ _ => true) (fun _ => true) (fun _ => true) (fun _ _ _ _ _ => true) true (fun _ _ _ => true) true (fun _ _ => false) (fun _ _ => false) (fun _ _ => ⟨⟩) ⟨⟩ (fun _ _ _ _ => ⟨⟩)
noncomputable def retC (x : Rand) (f : Value → (Value → Out) → Out) : OC := ⟨fun _ _ e H k => (evC x).g e fun v => f v fun u => k u H⟩
noncomputable def opC : DOp → OC
 | .mv x => ⟨fun _ _ e H k => (evC x).g e fun v => k v H⟩
 | .bin op q x y => ⟨fun _ _ e H k => (evC x).g e fun a => (evC y).g e fun b => (binC op q).f a b fun v => k v H⟩
 | .call f args => ⟨fun K lo e H k => (evsC args).f e fun l => bindO (K lo f l H) fun p => k p.1 p.2⟩
 | .len .l x => retC x fun v k => dSl v fun _ n _ => k (.int .i64 (.ofNat n))
 | .len .s x => retC x fun v k => dStr v fun s => k (.int .i64 (.ofNat s.size))
 | .load agg n a => @Bool.rec (fun _ => OC) ⟨fun _ _ e H k => (evC a).g e fun v => dPtr v fun ad => blkC H ad.block fun x => dRow x fun cs => nthC cs ad.off fun u => k u H⟩ (anyC (.load agg n a)) agg
 | .store n a x => @Bool.rec (fun _ => OC) (anyC (.store n a x)) ⟨fun _ lo e H k => (evC a).g e fun v => dPtr v fun ad => (evC x).g e fun u => ifC (one1 u) (blkC H ad.block fun y => dCells y fun cs z => setC u cs ad.off fun cs => ifC (lo.may ad.block) (k noRes (H.put ad.block (.cells cs z))) none) (bindO ((DOp.store n a x).run (fun _ _ _ _ => none) lo e H) fun p => k p.1 p.2)⟩ (Nat.beq n 1)
 | .pick c a b => ⟨fun _ _ e H k => (evC c).g e fun v => dBool v fun t => ifC t ((evC a).g e fun u => k u H) ((evC b).g e fun u => k u H)⟩
 | .ixSl esz x i => ⟨fun _ _ e H k => (evC x).g e fun v => (evC i).g e fun u => dSl v fun o len _ => bindO o fun ad => dNat u fun j => ifC (Nat.ble (Nat.succ j) len) (k (.pointer (some ⟨ad.block, Nat.add ad.off (Nat.mul j esz), none⟩)) H) none⟩
 | .ixArr n esz x i => ⟨fun _ _ e H k => (evC x).g e fun v => (evC i).g e fun u => dPtr v fun ad => dNat u fun j => ifC (Nat.ble (Nat.succ j) n) (k (.pointer (some ⟨ad.block, Nat.add ad.off (Nat.mul j esz), none⟩)) H) none⟩
 | .ixStr x i => ⟨fun _ _ e H k => (evC x).g e fun v => (evC i).g e fun u => dStr v fun s => dNat u fun j => nthC s.data.toList j fun b => k (.int .u8 (.ofNat b.toNat)) H⟩
 | .extract x i => retC x fun v k => dAgg v (fun _ => none) fun vs => nthC vs.toList i k
 | .fieldAddr off x => retC x fun v k => dPtr v fun ad => k (.pointer (some ⟨ad.block, Nat.add ad.off off, none⟩))
 | .nilCheck x => retC x fun v k => dPtr v fun ad => k (.pointer (some ad))
 | .conv (.int kd) x => retC x fun v k => dInt v fun _ n => k (.int kd (wr kd n))
 | .box t x => ⟨fun _ lo e H k => (evC x).g e fun v => k (ptr (lo.pick H)) (lo.make H (.cells v.cells.toList (.t t)))⟩
 | o => anyC o
noncomputable def operC (o : DOper) : OC := @Option.rec (Nat × Bool) (fun _ => OC) (opC o.op) (fun p => ⟨fun K lo e H k => (slotG p.1).g e fun v => bindO (@Value.rec (fun _ => Option Bool) (fun _ => PUnit) (fun _ => PUnit) (fun b => some (b == p.2)) (fun _ _ => some false) (fun _ _ => some false) (fun _ _ _ => some false) (fun _ => some false) (fun _ => some false) (fun _ _ _ => some false) (fun _ => some false) (fun _ => some false) (fun _ _ _ _ _ => some false) (some false) (fun _ _ _ => some false) (some false) (fun _ _ => some false) (fun _ _ => some false) (fun _ _ => ⟨⟩) ⟨⟩ (fun _ _ _ _ => ⟨⟩) v) fun w => ifC w ((opC o.op).f K lo e H k) (k noRes H)⟩) o.guard
noncomputable def opsC : List DOper → RC := @List.rec DOper (fun _ => RC) ⟨fun _ _ e H k => k e H⟩ (fun o _ ih => ⟨fun K lo e H k => (operC o).f K lo e H fun v H => ih.f K lo ((putC o.dst).s v e) H k⟩)
noncomputable def iterC (f : Env → Heap → (Ex → Env → Heap → Out) → Out) (k : Ex → Env → Heap → Out) : Nat → Env → Heap → Out :=
 @Nat.rec (fun _ => Env → Heap → Out) (fun _ _ => none) (fun _ ih e H => f e H fun x => @Ex.rec (fun _ => Env → Heap → Out) ih (fun i => k (.exit i)) (k .ret) x)
noncomputable def codeC : DCode → CC :=
 @DCode.rec (fun _ => CC)
  ⟨fun _ _ _ e H k => k .normal e H⟩
  (fun ops => ⟨fun K lo _ e H k => (opsC ops).f K lo e H fun e H => k .normal e H⟩)
  (fun ops conf => ⟨fun K lo _ e H k => bindO (evalDraw K lo ops conf e H) fun p => k .normal p.1 p.2⟩)
  (fun _ _ ia ib => ⟨fun K lo fuel e H k => ia.f K lo fuel e H fun x => @Ex.rec (fun _ => Env → Heap → Out) (fun e H => ib.f K lo fuel e H k) (fun i => k (.exit i)) (k .ret) x⟩)
  (fun c _ _ ia ib => ⟨fun K lo fuel e H k => (evC c).g e fun v => dBool v fun b => ifC b (ia.f K lo fuel e H k) (ib.f K lo fuel e H k)⟩)
  (fun id _ ib => ⟨fun K lo fuel e H k => ib.f K lo fuel e H fun x => @Ex.rec (fun _ => Env → Heap → Out) (k .normal) (fun i e H => ifC (Nat.beq i id) (k .normal e H) (k (.exit i) e H)) (k .ret) x⟩)
  (fun _ ib => ⟨fun K lo fuel e H k => iterC (ib.f K lo fuel) k fuel e H⟩)
  (fun id => ⟨fun _ _ _ e H k => k (.exit id) e H⟩)
  ⟨fun _ _ _ e H k => k .ret e H⟩
  (fun _ => ⟨fun _ _ _ _ _ _ => none⟩)
structure FC where
 f : Orc → Perm → Nat → List Value → Heap → Out
noncomputable def envC : List Value → Nat → Env → Env := @List.rec Value (fun _ => Nat → Env → Env) (fun _ e => e) (fun v _ ih n e => ih (Nat.succ n) ((slotS n).s v e))
noncomputable def resC : List DRes → Env → Heap → (List Value → Out) → Out := @List.rec DRes (fun _ => Env → Heap → (List Value → Out) → Out) (fun _ _ k => k [])
 (fun r _ ih e H k => @DRes.rec (fun _ => Out) (fun t => (slotG t).g e fun v => ih e H fun l => k (v :: l)) (fun t g n => bindO (loadOf H g n (e.get t)) fun v => ih e H fun l => k (v :: l)) r)
noncomputable def funC (F : DFunc) : FC := ⟨fun K lo fuel args H => ifC (Nat.ble args.length F.nt) ((codeC F.body).f K lo fuel (envC args 0 .lf) H fun x e H => @Ex.rec (fun _ => Out) (resC F.res e H fun l => some (.normal, .nd .lf (some (tupOf l)) .lf, H)) (fun _ => none) (resC F.res e H fun l => some (.normal, .nd .lf (some (tupOf l)) .lf, H)) x) none⟩
noncomputable def outV (o : Out) : Option (Value × Heap) := @Option.rec (Ex × Env × Heap) (fun _ => Option (Value × Heap)) none (fun p => @Tr.rec Value (fun _ => Option (Value × Heap)) none (fun _ v _ _ _ => @Option.rec Value (fun _ => Option (Value × Heap)) none (fun v => some (v, p.2.2)) v) p.2.1) o
noncomputable def runF (T : Nat → Option DFunc) (S : Orc → Orc) (fuel : Nat) : Nat → Orc :=
 @Nat.rec (fun _ => Orc) (fun _ _ _ _ => none) (fun _ ih => S fun lo f args H => @Option.rec DFunc (fun _ => Option (Value × Heap)) none (fun F => outV ((funC F).f ih lo fuel args H)) (T f))
end
section
open Go
theorem beq_ne {a b : Nat} (h : a ≠ b) : Nat.beq a b = false := by rw [nbeq]; simp [h]
theorem bindO_some {α : Type} (x : α) (k : α → Out) : bindO (some x) k = k x := rfl
theorem ifC_eq (b : Bool) (x y : Out) : ifC b x y = bif b then x else y := by cases b <;> rfl
theorem pathF_zero (f : Nat) : pathF (f + 1) 0 = [] := rfl
theorem pathF_odd (f j : Nat) : pathF (f + 1) (2 * j + 1) = true :: pathF f j := by
 have h1 : Nat.beq (2 * j + 1) 0 = false := beq_ne (by omega)
 have h2 : Nat.beq (Nat.mod (2 * j + 1) 2) 1 = true := by
  rw [show Nat.mod (2 * j + 1) 2 = (2 * j + 1) % 2 from rfl, show (2 * j + 1) % 2 = 1 by omega]; rfl
 have h3 : Nat.div (2 * j + 1) 2 = j := by rw [show Nat.div (2 * j + 1) 2 = (2 * j + 1) / 2 from rfl]; omega
 simp only [pathF, h1, h2, h3, cond_true, cond_false]
theorem pathF_even (f j : Nat) : pathF (f + 1) (2 * j + 2) = false :: pathF f j := by
 have h1 : Nat.beq (2 * j + 2) 0 = false := beq_ne (by omega)
 have h2 : Nat.beq (Nat.mod (2 * j + 2) 2) 1 = false := by
  rw [show Nat.mod (2 * j + 2) 2 = (2 * j + 2) % 2 from rfl, show (2 * j + 2) % 2 = 0 by omega]; rfl
 have h3 : Nat.sub (Nat.div (2 * j + 2) 2) 1 = j := by rw [show Nat.div (2 * j + 2) 2 = (2 * j + 2) / 2 from rfl, show ∀ a b, Nat.sub a b = a - b from fun _ _ => rfl]; omega
 simp only [pathF, h1, h2, h3, cond_false]
theorem three (k : Nat) : k = 0 ∨ (∃ j, k = 2 * j + 1) ∨ ∃ j, k = 2 * j + 2 := by
 rcases Nat.eq_zero_or_pos k with h | h
 · exact .inl h
 · rcases Nat.mod_two_eq_zero_or_one k with h2 | h2
   · exact .inr (.inr ⟨k / 2 - 1, by omega⟩)
   · exact .inr (.inl ⟨k / 2, by omega⟩)
theorem get_odd {α : Type} (l r : Tr α) (v : Option α) (j : Nat) : (Tr.nd l v r).get (2 * j + 1) = l.get j := by
 have h1 : Nat.beq (2 * j + 1) 0 = false := beq_ne (by omega)
 have h2 : Nat.beq ((2 * j + 1) % 2) 1 = true := by rw [show (2 * j + 1) % 2 = 1 by omega]; rfl
 simp only [Tr.get, h1, h2, cond_true, cond_false, show (2 * j + 1) / 2 = j by omega]
theorem get_even {α : Type} (l r : Tr α) (v : Option α) (j : Nat) : (Tr.nd l v r).get (2 * j + 2) = r.get j := by
 have h1 : Nat.beq (2 * j + 2) 0 = false := beq_ne (by omega)
 have h2 : Nat.beq ((2 * j + 2) % 2) 1 = false := by rw [show (2 * j + 2) % 2 = 0 by omega]; rfl
 simp only [Tr.get, h1, h2, cond_false, show (2 * j + 2) / 2 - 1 = j by omega]
theorem getP_spec : ∀ (f k : Nat) (e : Env) (c : Value → Out), k < f → (getP (pathF f k)).g e c = bindO (e.get k) c
 | 0, _, _, _, h => by omega
 | f + 1, k, e, c, h => by
   rcases three k with rfl | ⟨j, rfl⟩ | ⟨j, rfl⟩
   · rw [pathF_zero]
     cases e <;> rfl
   · rw [pathF_odd]
     cases e with
     | lf => rfl
     | nd l v r =>
       rw [get_odd]
       exact getP_spec f j l c (by omega)
   · rw [pathF_even]
     cases e with
     | lf => rfl
     | nd l v r =>
       rw [get_even]
       exact getP_spec f j r c (by omega)
theorem slotG_spec (n : Nat) (e : Env) (c : Value → Out) : (slotG n).g e c = bindO (e.get n) c := getP_spec (n + 1) n e c (Nat.lt_succ_self n)
theorem set_odd {α : Type} (x : α) (l r : Tr α) (v : Option α) (j : Nat) : (Tr.nd l v r).set x (2 * j + 1) = .nd (l.set x j) v r := by
 have h1 : Nat.beq (2 * j + 1) 0 = false := beq_ne (by omega)
 have h2 : Nat.beq ((2 * j + 1) % 2) 1 = true := by rw [show (2 * j + 1) % 2 = 1 by omega]; rfl
 simp only [Tr.set, h1, h2, cond_true, cond_false, show (2 * j + 1) / 2 = j by omega]
theorem set_even {α : Type} (x : α) (l r : Tr α) (v : Option α) (j : Nat) : (Tr.nd l v r).set x (2 * j + 2) = .nd l v (r.set x j) := by
 have h1 : Nat.beq (2 * j + 2) 0 = false := beq_ne (by omega)
 have h2 : Nat.beq ((2 * j + 2) % 2) 1 = false := by rw [show (2 * j + 2) % 2 = 0 by omega]; rfl
 simp only [Tr.set, h1, h2, cond_false, show (2 * j + 2) / 2 - 1 = j by omega]
theorem one_fuel {α : Type} (x : α) : ∀ (f g k : Nat), k < f → k < g → Tr.one x f k = Tr.one x g k
 | 0, _, _, h, _ => by omega
 | _, 0, _, _, h => by omega
 | f + 1, g + 1, k, h1, h2 => by
   simp only [Tr.one]
   cases hb : Nat.beq k 0 with
   | true => rfl
   | false =>
     have hk : k ≠ 0 := by rw [nbeq] at hb; simpa using hb
     simp only [cond_false]
     rw [one_fuel x f g (k / 2) (by omega) (by omega), one_fuel x f g (k / 2 - 1) (by omega) (by omega)]
theorem set_lf {α : Type} (x : α) (k : Nat) : (Tr.lf : Tr α).set x k = Tr.one x (k + 1) k := rfl
theorem one_odd {α : Type} (x : α) (f j : Nat) : Tr.one x (f + 1) (2 * j + 1) = .nd (Tr.one x f j) none .lf := by
 have h1 : Nat.beq (2 * j + 1) 0 = false := beq_ne (by omega)
 have h2 : Nat.beq ((2 * j + 1) % 2) 1 = true := by rw [show (2 * j + 1) % 2 = 1 by omega]; rfl
 simp only [Tr.one, h1, h2, cond_true, cond_false, show (2 * j + 1) / 2 = j by omega]
theorem one_even {α : Type} (x : α) (f j : Nat) : Tr.one x (f + 1) (2 * j + 2) = .nd .lf none (Tr.one x f j) := by
 have h1 : Nat.beq (2 * j + 2) 0 = false := beq_ne (by omega)
 have h2 : Nat.beq ((2 * j + 2) % 2) 1 = false := by rw [show (2 * j + 2) % 2 = 0 by omega]; rfl
 simp only [Tr.one, h1, h2, cond_false, show (2 * j + 2) / 2 - 1 = j by omega]
theorem setP_spec : ∀ (f k : Nat) (x : Value) (e : Env), k < f → (setP (pathF f k)).s x e = e.set x k
 | 0, _, _, _, h => by omega
 | f + 1, k, x, e, h => by
   rcases three k with rfl | ⟨j, rfl⟩ | ⟨j, rfl⟩
   · rw [pathF_zero]
     cases e <;> rfl
   · rw [pathF_odd]
     cases e with
     | lf =>
       rw [set_lf, one_odd, one_fuel x (2 * j + 1) (j + 1) j (by omega) (by omega), ← set_lf]
       exact congrArg (fun t => Tr.nd t none Tr.lf) (setP_spec f j x .lf (by omega))
     | nd l v r =>
       rw [set_odd]
       exact congrArg (fun t => Tr.nd t v r) (setP_spec f j x l (by omega))
   · rw [pathF_even]
     cases e with
     | lf =>
       rw [set_lf, one_even, one_fuel x (2 * j + 2) (j + 1) j (by omega) (by omega), ← set_lf]
       exact congrArg (fun t => Tr.nd Tr.lf none t) (setP_spec f j x .lf (by omega))
     | nd l v r =>
       rw [set_even]
       exact congrArg (fun t => Tr.nd l v t) (setP_spec f j x r (by omega))
theorem slotS_spec (n : Nat) (x : Value) (e : Env) : (slotS n).s x e = e.set x n := setP_spec (n + 1) n x e (Nat.lt_succ_self n)
theorem evC_spec (r : Rand) (e : Env) (c : Value → Out) : (evC r).g e c = bindO (ev e r) c := by
 cases r with
 | t n => exact slotG_spec n e c
 | c v => rfl
theorem putC_spec (d : Option Nat) (v : Value) (e : Env) : (putC d).s v e = putDst e d v := by
 cases d with
 | none => rfl
 | some d => exact slotS_spec d v e
theorem evsC_spec : ∀ (l : List Rand) (e : Env) (c : List Value → Out), (evsC l).f e c = bindO (evs e l) c
 | [], e, c => rfl
 | r :: l, e, c => by
   show (evC r).g e (fun v => (evsC l).f e fun t => c (v :: t)) = _
   rw [evC_spec]
   simp only [evs]
   cases ev e r with
   | none => rfl
   | some v =>
     simp only [bindO_some]
     rw [evsC_spec l]
     cases evs e l <;> rfl
theorem getF_spec : ∀ (f b : Nat) (t : Tr Blk) (k : Blk → Out), b < f → getF f b t k = bindO (t.get b) k
 | 0, _, _, _, h => by omega
 | f + 1, b, t, k, h => by
   cases t with
   | lf => rfl
   | nd l v r =>
     show ifC (Nat.beq b 0) (bindO v k) (ifC (Nat.beq (Nat.mod b 2) 1) (getF f (Nat.div b 2) l k) (getF f (Nat.sub (Nat.div b 2) 1) r k)) = _
     have hm : ∀ a, Nat.mod a 2 = a % 2 := fun _ => rfl
     have hd : ∀ a, Nat.div a 2 = a / 2 := fun _ => rfl
     have hs : ∀ a, Nat.sub a 1 = a - 1 := fun _ => rfl
     rcases three b with rfl | ⟨j, rfl⟩ | ⟨j, rfl⟩
     · rfl
     · rw [get_odd, hm, hd, show (2 * j + 1) % 2 = 1 by omega, show (2 * j + 1) / 2 = j by omega]
       have h1 : Nat.beq (2 * j + 1) 0 = false := beq_ne (by omega)
       rw [h1]
       exact getF_spec f j l k (by omega)
     · rw [get_even, hm, hd, hs, show (2 * j + 2) % 2 = 0 by omega, show (2 * j + 2) / 2 - 1 = j by omega]
       have h1 : Nat.beq (2 * j + 2) 0 = false := beq_ne (by omega)
       rw [h1]
       exact getF_spec f j r k (by omega)
theorem blkC_spec (H : Heap) (b : Nat) (k : Blk → Out) : blkC H b k = bindO (H.get b) k := getF_spec (b + 1) b H.t k (Nat.lt_succ_self b)
theorem nthC_spec {α : Type} : ∀ (l : List α) (n : Nat) (k : α → Out), nthC l n k = bindO l[n]? k
 | [], n, k => by simp [nthC, bindO]
 | x :: l, 0, k => rfl
 | x :: l, n + 1, k => by
   rw [List.getElem?_cons_succ]
   exact nthC_spec l n k
theorem setC_spec (x : Value) : ∀ (l : List Value) (n : Nat) (k : List Value → Out), setC x l n k = bindO (setCells l n [x]) k
 | [], n, k => by simp [setC, setCells, bindO, nble]
 | y :: l, 0, k => by
   simp only [setCells, nble, List.length_cons, List.length_nil]
   rw [decide_eq_true (by omega)]
   rfl
 | y :: l, n + 1, k => by
   show setC x l n (fun r => k (y :: r)) = _
   rw [setC_spec x l n]
   simp only [setCells, nble, List.length_cons, List.length_nil]
   by_cases h : n + (0 + 1) ≤ l.length
   · rw [decide_eq_true h, decide_eq_true (by omega)]
     simp only [cond_true, bindO_some, List.take_succ_cons]
     rw [show n + 1 + (0 + 1) = (n + (0 + 1)) + 1 by omega, List.drop_succ_cons]
     rfl
   · rw [decide_eq_false h, decide_eq_false (by omega)]
     rfl
end
section
open Go
theorem kEq_eq (a b : IntKind) : kEq a b = decide (a = b) := by cases a <;> cases b <;> rfl
theorem bytesEq_eq : ∀ (a b : List UInt8), bytesEq a b = (a == b)
 | [], [] => rfl
 | [], _ :: _ => rfl
 | _ :: _, [] => rfl
 | a :: x, b :: y => by
   have h : Nat.beq a.toNat b.toNat = (a == b) := by
    rw [nbeq]
    by_cases q : a = b
    · subst q; simp
    · rw [decide_eq_false (fun e => q (UInt8.toNat_inj.1 e))]
      simp [q]
   simp only [bytesEq, h, bytesEq_eq x y]
   show _ = (a == b && x == y)
   cases (a == b) <;> rfl
theorem arithB_spec (op : BinOp) (f : Int → Int → Int) (hf : ∀ k a b, intOp op k a b = some (.int k (wr k (f a b)))) (hs : ∀ s t, strOp op s t = none) (x y : Value) (k : Value → Out) : arithB f x y k = bindO (plainOp op x y) k := by
 cases x <;> first | rfl | skip
 case int ka a =>
  cases y <;> first | rfl | skip
  case int kb b =>
   show ifC (kEq ka kb) (k (.int ka (wr ka (f a b)))) none = bindO (if ka = kb then intOp op ka a b else none) k
   rw [kEq_eq, ifC_eq, hf]
   by_cases h : ka = kb <;> simp [h, bindO]
 case string s =>
  cases y <;> first | rfl | skip
  case string t =>
   show none = bindO (strOp op s t) k
   rw [hs]; rfl
theorem cmpB_spec (op : BinOp) (f : Int → Int → Bool) (hf : ∀ k a b, intOp op k a b = some (.bool (f a b))) (x y : Value) (k : Value → Out) : cmpB op f x y k = bindO (plainOp op x y) k := by
 cases x <;> first | rfl | skip
 case int ka a =>
  cases y <;> first | rfl | skip
  case int kb b =>
   show ifC (kEq ka kb) (k (.bool (f a b))) none = bindO (if ka = kb then intOp op ka a b else none) k
   rw [kEq_eq, ifC_eq, hf]
   by_cases h : ka = kb <;> simp [h, bindO]
 case string s =>
  cases y <;> rfl
theorem eqB_spec (neg : Bool) (q : EqK) (x y : Value) (k : Value → Out) : (eqB neg q).f x y k = bindO (match valEq q x y with | some b => some (.bool (xor neg b)) | none => none) k := by
 cases q with
 | prim =>
   cases x <;> first | rfl | skip
   case int ka a =>
    cases y <;> first | rfl | skip
    case int kb b =>
     show ifC (kEq ka kb) (k (.bool (xor neg (eqI a b)))) none = bindO (match (if ka = kb then some (eqI a b) else none) with | some b => some (.bool (xor neg b)) | none => none) k
     rw [kEq_eq, ifC_eq]
     by_cases h : ka = kb <;> simp [h, bindO]
   case string s =>
    cases y <;> first | rfl | skip
    case string t =>
     show k (.bool (xor neg (bytesEq s.data.toList t.data.toList))) = bindO (match some (s.toList == t.toList) with | some b => some (Value.bool (xor neg b)) | none => none) k
     rw [bytesEq_eq, Go.ByteArray.toList_eq, Go.ByteArray.toList_eq]
     rfl
 | bool =>
   cases x <;> first | rfl | skip
   cases y <;> rfl
 | nil n =>
   show bindO (eqNil n x y) (fun b => k (.bool (xor neg b))) = bindO (match eqNil n x y with | some b => some (.bool (xor neg b)) | none => none) k
   cases eqNil n x y <;> rfl
 | cells ks =>
   show bindO (valEq (.cells ks) x y) (fun b => k (.bool (xor neg b))) = _
   cases valEq (.cells ks) x y <;> rfl
theorem binC_spec (op : BinOp) (q : EqK) (x y : Value) (k : Value → Out) : (binC op q).f x y k = bindO (binOp op q x y) k := by
 cases op <;> first | rfl | skip
 case add =>
  cases x <;> first | rfl | skip
  case int ka a =>
   cases y <;> first | rfl | skip
   case int kb b =>
    show ifC (kEq ka kb) (k (.int ka (wr ka (Int.add a b)))) none = bindO (if ka = kb then intOp .add ka a b else none) k
    rw [kEq_eq, ifC_eq]
    by_cases h : ka = kb
    · rw [decide_eq_true h, if_pos h]; rfl
    · rw [decide_eq_false h, if_neg h]; rfl
  case string s => cases y <;> rfl
 case sub => exact arithB_spec .sub _ (fun _ _ _ => rfl) (fun _ _ => rfl) x y k
 case mul => exact arithB_spec .mul _ (fun _ _ _ => rfl) (fun _ _ => rfl) x y k
 case lss => exact cmpB_spec .lss _ (fun _ _ _ => rfl) x y k
 case leq => exact cmpB_spec .leq _ (fun _ _ _ => rfl) x y k
 case gtr => exact cmpB_spec .gtr _ (fun _ _ _ => rfl) x y k
 case geq => exact cmpB_spec .geq _ (fun _ _ _ => rfl) x y k
 case eql =>
  show (eqB false q).f x y k = _
  rw [eqB_spec]
  show _ = bindO (match valEq q x y with | some b => some (.bool b) | none => none) k
  cases valEq q x y with
  | none => rfl
  | some b => cases b <;> rfl
 case neq =>
  show (eqB true q).f x y k = _
  rw [eqB_spec]
  show _ = bindO (match valEq q x y with | some b => some (.bool (!b)) | none => none) k
  cases valEq q x y with
  | none => rfl
  | some b => cases b <;> rfl
theorem one1_eq (v : Value) : one1 v = oneCellV v := by cases v <;> rfl
theorem anyC_spec (o : DOp) (K : Orc) (lo : Perm) (e : Env) (H : Heap) (k : Value → Heap → Out) : (anyC o).f K lo e H k = bindO (o.run K lo e H) fun p => k p.1 p.2 := rfl
/-- An operation that gives a value and does nothing else. -/
theorem ret_spec {o : Option Value} {lo : Perm} {H : Heap} {k : Value → Heap → Out} : bindO ((retO o).run lo H) (fun p => k p.1 p.2) = bindO o fun u => k u H := by cases o <;> rfl
theorem with1_spec {o : Option Value} {f : Value → Eff} {lo : Perm} {H : Heap} {k : Value × Heap → Out} : bindO ((with1 o f).run lo H) k = bindO o fun v => bindO ((f v).run lo H) k := by cases o <;> rfl
end
section
open Go
theorem opC_spec (o : DOp) (K : Orc) (lo : Perm) (e : Env) (H : Heap) (k : Value → Heap → Out) : (opC o).f K lo e H k = bindO (o.run K lo e H) fun p => k p.1 p.2 := by
 cases o <;> try exact anyC_spec _ K lo e H k
 case mv x =>
  show (evC x).g e (fun v => k v H) = bindO ((retO (ev e x)).run lo H) fun p => k p.1 p.2
  rw [evC_spec, ret_spec]
 case pick c a b =>
  show (evC c).g e (fun v => dBool v fun t => ifC t ((evC a).g e fun u => k u H) ((evC b).g e fun u => k u H)) = bindO ((DOp.eff e (.pick c a b)).run lo H) fun p => k p.1 p.2
  simp only [DOp.eff, evC_spec, with1_spec]
  congr 1; funext v
  cases v <;> try rfl
  case bool t =>
   cases t
   · exact ret_spec.symm
   · exact ret_spec.symm
 case box t x =>
  show (evC x).g e (fun v => k (ptr (lo.pick H)) (lo.make H (.cells v.cells.toList (.t t)))) = bindO ((DOp.eff e (.box t x)).run lo H) fun p => k p.1 p.2
  simp only [DOp.eff, evC_spec, with1_spec]
  rfl
 case load agg n a =>
  cases agg with
  | true => exact anyC_spec _ K lo e H k
  | false =>
    show (evC a).g e (fun v => dPtr v fun ad => blkC H ad.block fun x => dRow x fun cs => nthC cs ad.off fun u => k u H) = bindO ((DOp.eff e (.load false n a)).run lo H) fun p => k p.1 p.2
    simp only [DOp.eff, evC_spec]
    cases ev e a with
    | none => rfl
    | some v =>
      simp only [bindO_some]
      cases v <;> try rfl
      case pointer p =>
       cases p with
       | none => rfl
       | some ad =>
         show blkC H ad.block (fun x => dRow x fun cs => nthC cs ad.off fun u => k u H) = _
         rw [blkC_spec]
         simp only [effLoad, Eff.run]
         cases H.get ad.block with
         | none => rfl
         | some x =>
           simp only [bindO_some]
           cases x <;> try rfl
           case cells cs z =>
            show nthC cs ad.off (fun u => k u H) = bindO ((retO cs[ad.off]?).run lo H) fun p => k p.1 p.2
            rw [nthC_spec, ret_spec]
           case ro cs =>
            show nthC cs ad.off (fun u => k u H) = bindO ((retO cs[ad.off]?).run lo H) fun p => k p.1 p.2
            rw [nthC_spec, ret_spec]
 case store n a x =>
  show (@Bool.rec (fun _ => OC) (anyC (.store n a x)) _ (Nat.beq n 1)).f K lo e H k = _
  cases hn : Nat.beq n 1 with
  | false => exact anyC_spec _ K lo e H k
  | true =>
    have hn1 : n = 1 := by rw [nbeq] at hn; simpa using hn
    subst hn1
    show (evC a).g e (fun v => dPtr v fun ad => (evC x).g e fun u => ifC (one1 u) (blkC H ad.block fun y => dCells y fun cs z => setC u cs ad.off fun cs => ifC (lo.may ad.block) (k noRes (H.put ad.block (.cells cs z))) none) (bindO ((DOp.store 1 a x).run (fun _ _ _ _ => none) lo e H) fun p => k p.1 p.2)) = bindO ((DOp.eff e (.store 1 a x)).run lo H) fun p => k p.1 p.2
    simp only [evC_spec]
    cases ha : ev e a with
    | none => simp [DOp.eff, ha, effStore, Eff.run, bindO]
    | some v =>
      simp only [bindO_some]
      cases v <;> try (simp only [DOp.eff, ha, effStore]; rfl)
      case pointer p =>
       cases p with
       | none => simp only [DOp.eff, ha, effStore]; rfl
       | some ad =>
         show bindO (ev e x) _ = _
         cases hx : ev e x with
         | none => simp only [DOp.eff, ha, hx, effStore]; rfl
         | some u =>
           simp only [bindO_some]
           rw [ifC_eq]
           cases h1 : one1 u with
           | false => rfl
           | true =>
             have hcs : u.cells = #[u] := by cases u <;> first | rfl | (exact absurd h1 (by rw [one1_eq]; simp [oneCellV]))
             simp only [cond_true, DOp.eff, ha, hx, effStore, hcs]
             show _ = bindO ((putRow ad [u] (.ret noRes)).run lo H) fun p => k p.1 p.2
             simp only [putRow, Eff.run]
             rw [blkC_spec]
             cases H.get ad.block with
             | none => rfl
             | some y =>
               simp only [bindO_some]
               cases y <;> try rfl
               case cells cs z =>
                show setC u cs ad.off (fun cs => ifC (lo.may ad.block) (k noRes (H.put ad.block (.cells cs z))) none) = _
                have hall : [u].all oneCellV = true := by simp [← one1_eq, h1]
                simp only [hall, cond_true]
                rw [setC_spec]
                cases setCells cs ad.off [u] with
                | none => rfl
                | some cs =>
                  simp only [bindO_some, Eff.run]
                  rw [ifC_eq]
                  cases lo.may ad.block <;> rfl
 case nilCheck x =>
  show (evC x).g e (fun v => dPtr v fun ad => k (.pointer (some ad)) H) = bindO ((DOp.eff e (.nilCheck x)).run lo H) fun p => k p.1 p.2
  simp only [DOp.eff, evC_spec, with1_spec]
  congr 1; funext v
  cases v <;> try rfl
  case pointer p => cases p <;> rfl
 case bin op q x y =>
  show (evC x).g e (fun a => (evC y).g e fun b => (binC op q).f a b fun v => k v H) = bindO ((DOp.eff e (.bin op q x y)).run lo H) fun p => k p.1 p.2
  simp only [DOp.eff, evC_spec, with1_spec, binC_spec, ret_spec]
 case conv c x =>
  cases c <;> try exact anyC_spec _ K lo e H k
  case int kd =>
   show (evC x).g e (fun v => dInt v fun _ n => k (.int kd (wr kd n)) H) = bindO ((DOp.eff e (.conv (.int kd) x)).run lo H) fun p => k p.1 p.2
   simp only [DOp.eff, evC_spec, with1_spec]
   congr 1; funext v
   cases v <;> rfl
 case fieldAddr off x =>
  show (evC x).g e (fun v => dPtr v fun ad => k (.pointer (some ⟨ad.block, Nat.add ad.off off, none⟩)) H) = bindO ((DOp.eff e (.fieldAddr off x)).run lo H) fun p => k p.1 p.2
  simp only [DOp.eff, evC_spec, with1_spec]
  congr 1; funext v
  cases v <;> try rfl
  case pointer p => cases p <;> rfl
 case ixSl esz x i =>
  show (evC x).g e (fun v => (evC i).g e fun u => dSl v fun o len _ => bindO o fun ad => dNat u fun j => ifC (Nat.ble (Nat.succ j) len) (k (.pointer (some ⟨ad.block, Nat.add ad.off (Nat.mul j esz), none⟩)) H) none) = bindO ((DOp.eff e (.ixSl esz x i)).run lo H) fun p => k p.1 p.2
  simp only [DOp.eff, evC_spec]
  cases ev e x with
  | none => rfl
  | some v =>
    cases ev e i with
    | none => cases v <;> try rfl
              case slice b _ _ => cases b <;> rfl
    | some u =>
      simp only [bindO_some]
      cases v <;> try rfl
      case slice b ln cp =>
       cases b with
       | none => rfl
       | some ad =>
         cases u <;> try rfl
         case int ki n =>
          cases n with
          | negSucc m => rfl
          | ofNat j =>
            show ifC (Nat.ble (Nat.succ j) ln) _ none = bindO ((bif Nat.blt j ln then Eff.ret (.pointer (some ⟨ad.block, ad.off + j * esz, none⟩)) else .fail).run lo H) fun p => k p.1 p.2
            rw [ifC_eq]
            show (bif Nat.blt j ln then _ else _) = _
            cases Nat.blt j ln <;> rfl
 case ixArr n esz x i =>
  show (evC x).g e (fun v => (evC i).g e fun u => dPtr v fun ad => dNat u fun j => ifC (Nat.ble (Nat.succ j) n) (k (.pointer (some ⟨ad.block, Nat.add ad.off (Nat.mul j esz), none⟩)) H) none) = bindO ((DOp.eff e (.ixArr n esz x i)).run lo H) fun p => k p.1 p.2
  simp only [DOp.eff, evC_spec]
  cases ev e x with
  | none => rfl
  | some v =>
    cases ev e i with
    | none => cases v <;> try rfl
              case pointer b => cases b <;> rfl
    | some u =>
      simp only [bindO_some]
      cases v <;> try rfl
      case pointer b =>
       cases b with
       | none => rfl
       | some ad =>
         cases u <;> try rfl
         case int ki m =>
          cases m with
          | negSucc m => rfl
          | ofNat j =>
            show ifC (Nat.ble (Nat.succ j) n) _ none = bindO ((bif Nat.blt j n then Eff.ret (.pointer (some ⟨ad.block, ad.off + j * esz, none⟩)) else .fail).run lo H) fun p => k p.1 p.2
            rw [ifC_eq]
            show (bif Nat.blt j n then _ else _) = _
            cases Nat.blt j n <;> rfl
 case ixStr x i =>
  show (evC x).g e (fun v => (evC i).g e fun u => dStr v fun s => dNat u fun j => nthC s.data.toList j fun b => k (.int .u8 (.ofNat b.toNat)) H) = bindO ((DOp.eff e (.ixStr x i)).run lo H) fun p => k p.1 p.2
  simp only [DOp.eff, evC_spec]
  cases ev e x with
  | none => rfl
  | some v =>
    cases ev e i with
    | none => cases v <;> rfl
    | some u =>
      simp only [bindO_some]
      cases v <;> try rfl
      case string s =>
       cases u <;> try rfl
       case int ki m =>
        cases m with
        | negSucc m => rfl
        | ofNat j =>
          show nthC s.data.toList j (fun b => k (.int .u8 (.ofNat b.toNat)) H) = bindO ((match s.data.toList[j]? with | some b => Eff.ret (.int .u8 (b.toNat : Int)) | none => .fail).run lo H) fun p => k p.1 p.2
          rw [nthC_spec]
          cases s.data.toList[j]? <;> rfl
 case extract x i =>
  show (evC x).g e (fun v => dAgg v (fun _ => none) (fun vs => nthC vs.toList i fun u => k u H)) = bindO ((DOp.eff e (.extract x i)).run lo H) fun p => k p.1 p.2
  simp only [DOp.eff, evC_spec, with1_spec]
  congr 1; funext v
  cases v <;> try rfl
  case tuple vs =>
   show nthC vs.toList i (fun u => k u H) = bindO ((retO vs.toList[i]?).run lo H) fun p => k p.1 p.2
   rw [nthC_spec, ret_spec]
 case call f args =>
  show (evsC args).f e (fun l => bindO (K lo f l H) fun p => k p.1 p.2) = bindO (match evs e args with | some l => K lo f l H | none => none) fun p => k p.1 p.2
  rw [evsC_spec]
  cases evs e args <;> rfl
 case len c x =>
  cases c
  case m => exact anyC_spec _ K lo e H k
  case s =>
   show (evC x).g e (fun v => dStr v fun s => k (.int .i64 (.ofNat s.size)) H) = bindO ((DOp.eff e (.len .s x)).run lo H) fun p => k p.1 p.2
   simp only [DOp.eff, evC_spec]
   cases ev e x with
   | none => rfl
   | some v => cases v <;> rfl
  case l =>
   show (evC x).g e (fun v => dSl v fun _ n _ => k (.int .i64 (.ofNat n)) H) = bindO ((DOp.eff e (.len .l x)).run lo H) fun p => k p.1 p.2
   simp only [DOp.eff, evC_spec]
   cases ev e x with
   | none => rfl
   | some v => cases v <;> rfl
end
section
open Go
theorem operC_spec (o : DOper) (K : Orc) (lo : Perm) (e : Env) (H : Heap) (k : Value → Heap → Out) : (operC o).f K lo e H k = bindO (o.run K lo e H) fun p => k p.1 p.2 := by
 obtain ⟨d, g, op⟩ := o
 cases g with
 | none => exact opC_spec op K lo e H k
 | some p =>
   obtain ⟨j, want⟩ := p
   show (slotG j).g e _ = _
   rw [slotG_spec]
   simp only [DOper.run, DOper.wanted]
   cases e.get j with
   | none => rfl
   | some v =>
     simp only [bindO_some]
     cases v <;> try rfl
     case bool b =>
      show ifC (b == want) ((opC op).f K lo e H k) (k noRes H) = bindO (match some (b == want) with | some true => op.run K lo e H | some false => some (noRes, H) | none => none) fun p => k p.1 p.2
      rw [ifC_eq]
      cases (b == want) with
      | true => exact opC_spec op K lo e H k
      | false => rfl
theorem opsC_spec : ∀ (l : List DOper) (K : Orc) (lo : Perm) (e : Env) (H : Heap) (k : Env → Heap → Out), (opsC l).f K lo e H k = bindO (evalOps K lo l e H) fun p => k p.1 p.2
 | [], _, _, _, _, _ => rfl
 | o :: l, K, lo, e, H, k => by
   show (operC o).f K lo e H (fun v H => (opsC l).f K lo ((putC o.dst).s v e) H k) = _
   rw [operC_spec]
   simp only [evalOps]
   cases o.run K lo e H with
   | none => rfl
   | some p =>
     obtain ⟨v, H1⟩ := p
     simp only [bindO_some]
     rw [putC_spec]
     exact opsC_spec l K lo _ H1 k
theorem iterC_spec (f : Env → Heap → Out) (fc : Env → Heap → (Ex → Env → Heap → Out) → Out) (hf : ∀ e H k, fc e H k = bindO (f e H) fun p => k p.1 p.2.1 p.2.2) (k : Ex → Env → Heap → Out) : ∀ (n : Nat) (e : Env) (H : Heap), iterC fc k n e H = bindO (iter f n e H) fun p => k p.1 p.2.1 p.2.2
 | 0, _, _ => rfl
 | n + 1, e, H => by
   show fc e H (fun x => @Ex.rec (fun _ => Env → Heap → Out) (iterC fc k n) (fun i => k (.exit i)) (k .ret) x) = _
   rw [hf]
   simp only [iter]
   cases f e H with
   | none => rfl
   | some p =>
     obtain ⟨x, e1, H1⟩ := p
     cases x with
     | normal => exact iterC_spec f fc hf k n e1 H1
     | exit i => rfl
     | ret => rfl
theorem codeC_spec (K : Orc) (lo : Perm) (fuel : Nat) : ∀ (c : DCode) (e : Env) (H : Heap) (k : Ex → Env → Heap → Out), (codeC c).f K lo fuel e H k = bindO (eval K lo fuel c e H) fun p => k p.1 p.2.1 p.2.2 := by
 intro c
 induction c with
 | skip => intro e H k; rfl
 | reg ops =>
   intro e H k
   show (opsC ops).f K lo e H (fun e H => k .normal e H) = _
   rw [opsC_spec]
   simp only [eval]
   cases evalOps K lo ops e H <;> rfl
 | draw ops conf =>
   intro e H k
   show bindO (evalDraw K lo ops conf e H) (fun p => k .normal p.1 p.2) = _
   simp only [eval]
   cases evalDraw K lo ops conf e H <;> rfl
 | seq a b iha ihb =>
   intro e H k
   show (codeC a).f K lo fuel e H (fun x => @Ex.rec (fun _ => Env → Heap → Out) (fun e H => (codeC b).f K lo fuel e H k) (fun i => k (.exit i)) (k .ret) x) = _
   rw [iha]
   simp only [eval]
   cases eval K lo fuel a e H with
   | none => rfl
   | some p =>
     obtain ⟨x, e1, H1⟩ := p
     cases x with
     | normal => exact ihb e1 H1 k
     | exit i => rfl
     | ret => rfl
 | cond c a b iha ihb =>
   intro e H k
   show (evC c).g e (fun v => dBool v fun t => ifC t ((codeC a).f K lo fuel e H k) ((codeC b).f K lo fuel e H k)) = _
   rw [evC_spec]
   simp only [eval]
   cases ev e c with
   | none => rfl
   | some v =>
     simp only [bindO_some]
     cases v <;> try rfl
     case bool t =>
      cases t
      · exact ihb e H k
      · exact iha e H k
 | block id b ih =>
   intro e H k
   show (codeC b).f K lo fuel e H (fun x => @Ex.rec (fun _ => Env → Heap → Out) (k .normal) (fun i e H => ifC (Nat.beq i id) (k .normal e H) (k (.exit i) e H)) (k .ret) x) = _
   rw [ih]
   simp only [eval]
   cases eval K lo fuel b e H with
   | none => rfl
   | some p =>
     obtain ⟨x, e1, H1⟩ := p
     cases x with
     | normal => rfl
     | exit i =>
       simp only [bindO_some]
       show ifC (Nat.beq i id) (k .normal e1 H1) (k (.exit i) e1 H1) = _
       rw [ifC_eq]
       cases Nat.beq i id <;> rfl
     | ret => rfl
 | loop b ih =>
   intro e H k
   exact iterC_spec (eval K lo fuel b) ((codeC b).f K lo fuel) ih k fuel e H
 | exit id => intro e H k; rfl
 | ret => intro e H k; rfl
 | bad w => intro e H k; rfl
theorem envC_spec : ∀ (l : List Value) (n : Nat) (e : Env), envC l n e = envOf l n e
 | [], _, _ => rfl
 | v :: l, n, e => by
   show envC l (n + 1) ((slotS n).s v e) = _
   rw [slotS_spec]
   exact envC_spec l (n + 1) _
theorem resC_spec : ∀ (l : List DRes) (e : Env) (H : Heap) (k : List Value → Out), resC l e H k = bindO (resOf e H l) k
 | [], _, _, _ => rfl
 | r :: l, e, H, k => by
   cases r with
   | slot t =>
     show (slotG t).g e (fun v => resC l e H fun l => k (v :: l)) = _
     rw [slotG_spec]
     simp only [resOf]
     cases e.get t with
     | none => rfl
     | some v =>
       simp only [bindO_some]
       rw [resC_spec l]
       cases resOf e H l <;> rfl
   | cell t g n =>
     show bindO (loadOf H g n (e.get t)) (fun v => resC l e H fun l => k (v :: l)) = _
     simp only [resOf]
     cases loadOf H g n (e.get t) with
     | none => rfl
     | some v =>
       simp only [bindO_some]
       rw [resC_spec l]
       cases resOf e H l <;> rfl
theorem funC_spec (F : DFunc) (K : Orc) (lo : Perm) (fuel : Nat) (args : List Value) (H : Heap) : outV ((funC F).f K lo fuel args H) = evalF K lo fuel F args H := by
 show outV (ifC (Nat.ble args.length F.nt) ((codeC F.body).f K lo fuel (envC args 0 .lf) H _) none) = _
 rw [ifC_eq]
 unfold evalF
 cases Nat.ble args.length F.nt with
 | false => rfl
 | true =>
   simp only [cond_true, Bool.not_true, cond_false]
   rw [codeC_spec, envC_spec]
   cases eval K lo fuel F.body (envOf args 0 .lf) H with
   | none => rfl
   | some p =>
     obtain ⟨x, e1, H1⟩ := p
     cases x with
     | normal =>
       simp only [bindO_some]
       rw [resC_spec]
       cases resOf e1 H1 F.res <;> rfl
     | exit i => rfl
     | ret =>
       simp only [bindO_some]
       rw [resC_spec]
       cases resOf e1 H1 F.res <;> rfl
/-- The fast evaluator is the evaluator. -/
theorem runF_eq (T : Nat → Option DFunc) (S : Orc → Orc) (fuel : Nat) : ∀ n, runF T S fuel n = runK T S fuel n
 | 0 => rfl
 | n + 1 => by
   show S _ = S _
   congr 1
   funext lo f args H
   show @Option.rec DFunc (fun _ => Option (Value × Heap)) none (fun F => outV ((funC F).f (runF T S fuel n) lo fuel args H)) (T f) = _
   rw [runF_eq T S fuel n]
   cases T f with
   | none => rfl
   | some F => exact funC_spec F _ lo fuel args H
end
section
open Go
/-! ## A call whose outcome is known: its arguments, and what they point to, written with small numbers -/
/-- A value of one cell, its numbers turned. -/
def reA (σ : Nat → Option Nat) : Value → Option Value
 | .pointer (some ⟨i, o, none⟩) => (match σ i with | some b => some (.pointer (some ⟨b, o, none⟩)) | none => none)
 | .slice (some ⟨i, o, none⟩) n c => (match σ i with | some b => some (.slice (some ⟨b, o, none⟩) n c) | none => none)
 | v => bif plainCell v then some v else none
def reL (σ : Nat → Option Nat) : List Value → Option (List Value)
 | [] => some []
 | v :: l => match reA σ v, reL σ l with
   | some a, some r => some (a :: r)
   | _, _ => none
def reB (σ : Nat → Option Nat) : Blk → Option Blk
 | .cells cs z => (match reL σ cs with | some l => some (.cells l z) | none => none)
 | .ro cs => (match reL σ cs with | some l => some (.ro l) | none => none)
 | _ => none
/-- A struct, or a value of one cell. -/
def reE (σ : Nat → Option Nat) : Value → Option Value
 | .agg cs => (match reL σ cs.toList with | some l => some (.agg l.toArray) | none => none)
 | v => reA σ v
def reEs (σ : Nat → Option Nat) : List Value → Option (List Value)
 | [] => some []
 | v :: l => match reE σ v, reEs σ l with
   | some a, some r => some (a :: r)
   | _, _ => none
def reT (σ : Nat → Option Nat) : Value → Option Value
 | .tuple vs => (match reEs σ vs.toList with | some l => some (.tuple l.toArray) | none => none)
 | v => reE σ v
/-- The place of a number in a list. -/
def idx (b : Nat) : List Nat → Nat → Option Nat
 | [], _ => none
 | c :: l, i => bif Nat.beq c b then some i else idx b l (i + 1)
def cN (b : Nat) (ρ : List Nat) : Nat × List Nat := match idx b ρ 0 with
 | some i => (i, ρ)
 | none => (ρ.length, ρ ++ [b])
def cA (v : Value) (ρ : List Nat) : Option (Value × List Nat) := match v with
 | .pointer (some ⟨b, o, none⟩) => some (.pointer (some ⟨(cN b ρ).1, o, none⟩), (cN b ρ).2)
 | .slice (some ⟨b, o, none⟩) n c => some (.slice (some ⟨(cN b ρ).1, o, none⟩) n c, (cN b ρ).2)
 | v => bif plainCell v then some (v, ρ) else none
def cL : List Value → List Nat → Option (List Value × List Nat)
 | [], ρ => some ([], ρ)
 | v :: l, ρ => match cA v ρ with
   | some (a, ρ) => (match cL l ρ with | some (r, ρ) => some (a :: r, ρ) | none => none)
   | none => none
def cE (v : Value) (ρ : List Nat) : Option (Value × List Nat) := match v with
 | .agg cs => (match cL cs.toList ρ with | some (l, ρ) => some (.agg l.toArray, ρ) | none => none)
 | v => cA v ρ
def cEs : List Value → List Nat → Option (List Value × List Nat)
 | [], ρ => some ([], ρ)
 | v :: l, ρ => match cE v ρ with
   | some (a, ρ) => (match cEs l ρ with | some (r, ρ) => some (a :: r, ρ) | none => none)
   | none => none
def cB (x : Blk) (ρ : List Nat) : Option (Blk × List Nat) := match x with
 | .cells cs z => (match cL cs ρ with | some (l, ρ) => some (.cells l z, ρ) | none => none)
 | .ro cs => (match cL cs ρ with | some (l, ρ) => some (.ro l, ρ) | none => none)
 | _ => none
def cH (H : Heap) : Nat → Nat → List Nat → Option (List Blk × List Nat)
 | 0, _, _ => none
 | f + 1, i, ρ => match ρ[i]? with
   | none => some ([], ρ)
   | some b => (match H.get b with
     | some x => (match cB x ρ with
       | some (y, ρ) => (match cH H f (i + 1) ρ with | some (l, ρ) => some (y :: l, ρ) | none => none)
       | none => none)
     | none => none)
def at? (ρ : List Nat) (i : Nat) : Option Nat := ρ[i]?
theorem idx_spec {b : Nat} : ∀ {l : List Nat} {k i : Nat}, idx b l k = some i → k ≤ i ∧ l[i - k]? = some b
 | [], _, _, h => by cases h
 | c :: l, k, i, h => by
   unfold idx at h
   rw [nbeq] at h
   by_cases hc : c = b
   · simp only [hc, decide_true, cond_true, Option.some.injEq] at h
     subst h
     simp [hc]
   · simp only [hc, decide_false, cond_false] at h
     obtain ⟨h1, h2⟩ := idx_spec h
     refine ⟨by omega, ?_⟩
     rw [show i - k = (i - (k + 1)) + 1 by omega, List.getElem?_cons_succ]
     exact h2
theorem idx_none {b : Nat} : ∀ {l : List Nat} {k : Nat}, idx b l k = none → b ∉ l
 | [], _, _ => by simp
 | c :: l, k, h => by
   unfold idx at h
   rw [nbeq] at h
   by_cases hc : c = b
   · simp only [hc, decide_true, cond_true, reduceCtorEq] at h
   · simp only [hc, decide_false, cond_false] at h
     have := idx_none h
     simp only [List.mem_cons, not_or]
     exact ⟨fun q => hc q.symm, this⟩
/-- It goes on from ρ to ρ'. -/
structure Grows (ρ ρ' : List Nat) : Prop where
 le : ∀ i b, at? ρ i = some b → at? ρ' i = some b
 nd : ρ.Nodup → ρ'.Nodup
theorem Grows.refl (ρ : List Nat) : Grows ρ ρ := ⟨fun _ _ h => h, id⟩
theorem Grows.trans {a b c : List Nat} (h : Grows a b) (g : Grows b c) : Grows a c := ⟨fun i x e => g.le i x (h.le i x e), fun e => g.nd (h.nd e)⟩
theorem cN_spec (b : Nat) (ρ : List Nat) : Grows ρ (cN b ρ).2 ∧ at? (cN b ρ).2 (cN b ρ).1 = some b := by
 unfold cN
 cases h : idx b ρ 0 with
 | some i => exact ⟨.refl _, by simpa [at?] using (idx_spec h).2⟩
 | none =>
   refine ⟨⟨fun i x e => ?_, fun hn => ?_⟩, by simp [at?]⟩
   · unfold at? at *
     rw [List.getElem?_append_left (List.getElem?_eq_some_iff.1 e).1]
     exact e
   · rw [List.nodup_append]
     refine ⟨hn, by simp, fun a ha c hc e => ?_⟩
     simp only [List.mem_singleton] at hc
     subst hc; subst e
     exact idx_none h ha
theorem reA_mono {σ σ' : Nat → Option Nat} (hg : ∀ i b, σ i = some b → σ' i = some b) {p v : Value} (h : reA σ p = some v) : reA σ' p = some v := by
 unfold reA at *
 split at h
 · rename_i i o
   split at h
   · rename_i b hb
     simp only [hg i b hb]; exact h
   · cases h
 · rename_i i o n c
   split at h
   · rename_i b hb
     simp only [hg i b hb]; exact h
   · cases h
 · exact h
theorem reL_mono {σ σ' : Nat → Option Nat} (hg : ∀ i b, σ i = some b → σ' i = some b) : ∀ {l r : List Value}, reL σ l = some r → reL σ' l = some r
 | [], r, h => h
 | v :: l, r, h => by
   simp only [reL] at h ⊢
   split at h
   · rename_i a t h1 h2
     rw [reA_mono hg h1, reL_mono hg h2]
     exact h
   · cases h
theorem reB_mono {σ σ' : Nat → Option Nat} (hg : ∀ i b, σ i = some b → σ' i = some b) {p x : Blk} (h : reB σ p = some x) : reB σ' p = some x := by
 unfold reB at *
 split at h
 · split at h
   · rename_i hl
     simp only [reL_mono hg hl]; exact h
   · cases h
 · split at h
   · rename_i hl
     simp only [reL_mono hg hl]; exact h
   · cases h
 · cases h
theorem cA_spec {v p : Value} {ρ ρ' : List Nat} (h : cA v ρ = some (p, ρ')) : Grows ρ ρ' ∧ reA (at? ρ') p = some v := by
 unfold cA at h
 split at h
 · rename_i b o
   simp only [Option.some.injEq, Prod.mk.injEq] at h
   obtain ⟨rfl, rfl⟩ := h
   obtain ⟨h1, h2⟩ := cN_spec b ρ
   exact ⟨h1, by simp only [reA, h2]⟩
 · rename_i b o n c
   simp only [Option.some.injEq, Prod.mk.injEq] at h
   obtain ⟨rfl, rfl⟩ := h
   obtain ⟨h1, h2⟩ := cN_spec b ρ
   exact ⟨h1, by simp only [reA, h2]⟩
 · cases hp : plainCell v with
   | false => rw [hp] at h; cases h
   | true =>
     rw [hp] at h
     simp only [cond_true, Option.some.injEq, Prod.mk.injEq] at h
     obtain ⟨rfl, rfl⟩ := h
     refine ⟨.refl _, ?_⟩
     unfold reA
     split
     · simp [plainCell] at hp
     · simp [plainCell] at hp
     · rw [hp]; rfl
theorem cL_spec : ∀ {l p : List Value} {ρ ρ' : List Nat}, cL l ρ = some (p, ρ') → Grows ρ ρ' ∧ reL (at? ρ') p = some l
 | [], p, ρ, ρ', h => by
   simp only [cL, Option.some.injEq, Prod.mk.injEq] at h
   obtain ⟨rfl, rfl⟩ := h
   exact ⟨.refl _, rfl⟩
 | v :: l, p, ρ, ρ', h => by
   simp only [cL] at h
   split at h
   · rename_i a ρ1 h1
     split at h
     · rename_i r ρ2 h2
       simp only [Option.some.injEq, Prod.mk.injEq] at h
       obtain ⟨rfl, rfl⟩ := h
       obtain ⟨g1, e1⟩ := cA_spec h1
       obtain ⟨g2, e2⟩ := cL_spec h2
       exact ⟨g1.trans g2, by simp only [reL, reA_mono g2.le e1, e2]⟩
     · cases h
   · cases h
theorem reE_mono {σ σ' : Nat → Option Nat} (hg : ∀ i b, σ i = some b → σ' i = some b) {p v : Value} (h : reE σ p = some v) : reE σ' p = some v := by
 unfold reE at *
 split at h
 · split at h
   · rename_i hl
     simp only [reL_mono hg hl]; exact h
   · cases h
 · exact reA_mono hg h
theorem reEs_mono {σ σ' : Nat → Option Nat} (hg : ∀ i b, σ i = some b → σ' i = some b) : ∀ {l r : List Value}, reEs σ l = some r → reEs σ' l = some r
 | [], r, h => h
 | v :: l, r, h => by
   simp only [reEs] at h ⊢
   split at h
   · rename_i a t h1 h2
     rw [reE_mono hg h1, reEs_mono hg h2]
     exact h
   · cases h
theorem cE_spec {v p : Value} {ρ ρ' : List Nat} (h : cE v ρ = some (p, ρ')) : Grows ρ ρ' ∧ reE (at? ρ') p = some v := by
 unfold cE at h
 split at h
 · rename_i cs
   split at h
   · rename_i l ρ1 h1
     simp only [Option.some.injEq, Prod.mk.injEq] at h
     obtain ⟨rfl, rfl⟩ := h
     obtain ⟨g1, e1⟩ := cL_spec h1
     refine ⟨g1, ?_⟩
     simp only [reE, e1]
   · cases h
 · rename_i hna
   obtain ⟨g1, e1⟩ := cA_spec h
   refine ⟨g1, ?_⟩
   unfold reE
   split
   · unfold cA at h
     split at h <;> try (simp only [Option.some.injEq, Prod.mk.injEq, reduceCtorEq, false_and] at h)
     rename_i hq _ _
     cases hp : plainCell v with
     | false => rw [hp] at h; cases h
     | true =>
       rw [hp] at h
       simp only [cond_true, Option.some.injEq, Prod.mk.injEq] at h
       exact absurd h.1 (hna _)
   · exact e1
theorem cEs_spec : ∀ {l p : List Value} {ρ ρ' : List Nat}, cEs l ρ = some (p, ρ') → Grows ρ ρ' ∧ reEs (at? ρ') p = some l
 | [], p, ρ, ρ', h => by
   simp only [cEs, Option.some.injEq, Prod.mk.injEq] at h
   obtain ⟨rfl, rfl⟩ := h
   exact ⟨.refl _, rfl⟩
 | v :: l, p, ρ, ρ', h => by
   simp only [cEs] at h
   split at h
   · rename_i a ρ1 h1
     split at h
     · rename_i r ρ2 h2
       simp only [Option.some.injEq, Prod.mk.injEq] at h
       obtain ⟨rfl, rfl⟩ := h
       obtain ⟨g1, e1⟩ := cE_spec h1
       obtain ⟨g2, e2⟩ := cEs_spec h2
       exact ⟨g1.trans g2, by simp only [reEs, reE_mono g2.le e1, e2]⟩
     · cases h
   · cases h
theorem cB_spec {x p : Blk} {ρ ρ' : List Nat} (h : cB x ρ = some (p, ρ')) : Grows ρ ρ' ∧ reB (at? ρ') p = some x := by
 unfold cB at h
 split at h
 · split at h
   · rename_i h1
     simp only [Option.some.injEq, Prod.mk.injEq] at h
     obtain ⟨rfl, rfl⟩ := h
     obtain ⟨g1, e1⟩ := cL_spec h1
     exact ⟨g1, by simp only [reB, e1]⟩
   · cases h
 · split at h
   · rename_i h1
     simp only [Option.some.injEq, Prod.mk.injEq] at h
     obtain ⟨rfl, rfl⟩ := h
     obtain ⟨g1, e1⟩ := cL_spec h1
     exact ⟨g1, by simp only [reB, e1]⟩
   · cases h
 · cases h
theorem cH_spec {H : Heap} : ∀ {f i : Nat} {ρ ρ' : List Nat} {l : List Blk}, cH H f i ρ = some (l, ρ') → i ≤ ρ.length → Grows ρ ρ' ∧ i + l.length = ρ'.length ∧ ∀ j y, l[j]? = some y → ∃ b x, at? ρ' (i + j) = some b ∧ H.get b = some x ∧ reB (at? ρ') y = some x
 | 0, _, _, _, _, h, _ => by cases h
 | f + 1, i, ρ, ρ', l, h, hi => by
   simp only [cH] at h
   split at h
   · rename_i hn
     simp only [Option.some.injEq, Prod.mk.injEq] at h
     obtain ⟨rfl, rfl⟩ := h
     have : ρ.length ≤ i := by simpa using hn
     exact ⟨.refl _, by simp; omega, fun j y h => by simp at h⟩
   · rename_i b hb
     split at h
     · rename_i x hx
       split at h
       · rename_i y ρ1 h1
         split at h
         · rename_i l2 ρ2 h2
           simp only [Option.some.injEq, Prod.mk.injEq] at h
           obtain ⟨rfl, rfl⟩ := h
           obtain ⟨g1, e1⟩ := cB_spec h1
           have hlt := (List.getElem?_eq_some_iff.1 hb).1
           have hb1 := g1.le i b hb
           have hlt1 : i < ρ1.length := (List.getElem?_eq_some_iff.1 (show ρ1[i]? = some b from hb1)).1
           obtain ⟨g2, e2, e3⟩ := cH_spec h2 (by omega)
           refine ⟨g1.trans g2, by simp only [List.length_cons]; omega, fun j z hz => ?_⟩
           cases j with
           | zero =>
             simp only [List.getElem?_cons_zero, Option.some.injEq] at hz
             subst hz
             exact ⟨b, x, g2.le i b hb1, hx, reB_mono g2.le e1⟩
           | succ j =>
             obtain ⟨b', x', q1, q2, q3⟩ := e3 j z (by simpa using hz)
             exact ⟨b', x', by rw [show i + (j + 1) = i + 1 + j by omega]; exact q1, q2, q3⟩
         · cases h
       · cases h
     · cases h
/-- What is known of a call: arguments and what they point to (small numbers); the outcome; the new blocks that it hangs on, as they lie at the small run's end. -/
structure Ent where
 args : List Value
 blks : List Blk
 res : Value
 news : List (Nat × List Value × Zk)
def zkBeq : Zk → Zk → Bool
 | .n a, .n b => Nat.beq a b
 | .t a, .t b => Nat.beq a b
 | _, _ => false
def blkBeq : Blk → Blk → Bool
 | .cells a z, .cells b y => zkBeq z y && cellsBeq a b
 | .ro a, .ro b => cellsBeq a b
 | _, _ => false
def blksBeq : List Blk → List Blk → Bool
 | [], [] => true
 | a :: x, b :: y => blkBeq a b && blksBeq x y
 | _, _ => false
/-- A new number of the small run, of the great one. -/
def newIx (n : Nat) : List (Nat × List Value × Zk) → Nat → Option Nat
 | [], _ => none
 | x :: l, b => bif Nat.beq x.1 n then some b else newIx n l (b + 1)
def sig (ρ : List Nat) (news : List (Nat × List Value × Zk)) (b0 : Nat) (i : Nat) : Option Nat := bif Nat.blt i ρ.length then ρ[i]? else newIx i news b0
def addNews (σ : Nat → Option Nat) : List (Nat × List Value × Zk) → Heap → Option Heap
 | [], H => some H
 | x :: l, H => match reL σ x.2.1 with
   | some cs => addNews σ l (H.new (.cells cs x.2.2))
   | none => none
def Ent.out (E : Ent) (ρ : List Nat) (H : Heap) : Option (Value × Heap) :=
 match reT (sig ρ E.news H.next) E.res, addNews (sig ρ E.news H.next) E.news H with
 | some v, some H' => some (v, H')
 | _, _ => none
def valsBeq : List Value → List Value → Bool
 | [], [] => true
 | a :: x, b :: y => valBeq a b && valsBeq x y
 | _, _ => false
def findE (a : List Value) (bl : List Blk) : List Ent → Option Ent
 | [] => none
 | E :: l => bif valsBeq E.args a && blksBeq E.blks bl then some E else findE a bl l
def Ent.apply (es : List Ent) (args : List Value) (H : Heap) : Option (Value × Heap) :=
 match cEs args [] with
 | some (a, ρ) => (match cH H 40 0 ρ with
   | some (bl, ρ) => (match findE a bl es with
     | some E => E.out ρ H
     | none => none)
   | none => none)
 | none => none
def heapOf : List Blk → Nat → Tr Blk → Tr Blk
 | [], _, t => t
 | x :: l, i, t => heapOf l (i + 1) (t.set x i)
/-- The small run. -/
def Ent.run (K : Orc) (f : Nat) (E : Ent) : Option (Value × Heap) := K ⟨E.blks.length, [], none⟩ f E.args ⟨heapOf E.blks 0 .lf, E.blks.length⟩
def resBeq : Value → Value → Bool
 | .tuple a, .tuple b => valsBeq a.toList b.toList
 | a, b => valBeq a b
def newsOk (H : Heap) (k : Nat) : List (Nat × List Value × Zk) → Bool
 | [] => true
 | x :: l => Nat.ble k x.1 && ((match H.get x.1 with | some y => blkBeq y (.cells x.2.1 x.2.2) | none => false) && ((newIx x.1 l 0).isNone && newsOk H k l))
def Ent.ok (K : Orc) (f : Nat) (E : Ent) : Bool := match E.run K f with
 | some (v, H) => resBeq v E.res && newsOk H E.blks.length E.news
 | none => false
end
section
open Go
theorem plain_rel {γ : Emb} {p v' : Value} (hp : plainCell p = true) (h : VRel γ p v') : v' = p := by
 cases h <;> first | rfl | (simp [plainCell] at hp)
theorem reA_plain {σ : Nat → Option Nat} {p v : Value} (h : reA σ p = some v) : (plainCell p = true ∧ v = p) ∨ (∃ i o b, p = .pointer (some ⟨i, o, none⟩) ∧ σ i = some b ∧ v = .pointer (some ⟨b, o, none⟩)) ∨ ∃ i o n c b, p = .slice (some ⟨i, o, none⟩) n c ∧ σ i = some b ∧ v = .slice (some ⟨b, o, none⟩) n c := by
 unfold reA at h
 split at h
 · rename_i i o
   split at h
   · rename_i b hb
     simp only [Option.some.injEq] at h
     exact .inr (.inl ⟨i, o, b, rfl, hb, h.symm⟩)
   · cases h
 · rename_i i o n c
   split at h
   · rename_i b hb
     simp only [Option.some.injEq] at h
     exact .inr (.inr ⟨i, o, n, c, b, rfl, hb, h.symm⟩)
   · cases h
 · cases hp : plainCell p with
   | false => rw [hp] at h; cases h
   | true =>
     rw [hp] at h
     simp only [cond_true, Option.some.injEq] at h
     exact .inl ⟨rfl, h.symm⟩
theorem reA_pull {σ : Nat → Option Nat} {γ : Emb} {p v v' : Value} (h : reA σ p = some v) (hv : VRel γ v v') : VRel (fun i => (σ i).bind γ) p v' := by
 rcases reA_plain h with ⟨hp, rfl⟩ | ⟨i, o, b, rfl, hb, rfl⟩ | ⟨i, o, n, c, b, rfl, hb, rfl⟩
 · rw [plain_rel hp hv]
   exact VRel.plainCell hp
 · cases hv with
   | ptr hL => exact .ptr (by simp [hb, hL])
 · cases hv with
   | slc hL h1 h2 h3 => exact .slc (by simp [hb, hL]) h1 h2 h3
   | slc0 hL => exact .slc0 (L := _) (by simp only [hb, Option.bind_some]; exact hL)
theorem reA_push {σ : Nat → Option Nat} {γ γ' : Emb} {p v v' : Value} (h : reA σ p = some v) (hσ : ∀ i b L, σ i = some b → γ i = some L → γ' b = some L) (hv : VRel γ p v') : VRel γ' v v' := by
 rcases reA_plain h with ⟨hp, rfl⟩ | ⟨i, o, b, rfl, hb, rfl⟩ | ⟨i, o, n, c, b, rfl, hb, rfl⟩
 · rw [plain_rel hp hv]
   exact VRel.plainCell hp
 · cases hv with
   | ptr hL => exact .ptr (hσ _ _ _ hb hL)
 · cases hv with
   | slc hL h1 h2 h3 => exact .slc (hσ _ _ _ hb hL) h1 h2 h3
   | slc0 hL => exact .slc0 (hσ _ _ _ hb hL)
theorem reL_get {σ : Nat → Option Nat} : ∀ {l r : List Value}, reL σ l = some r → r.length = l.length ∧ (∀ (i : Nat) (v : Value), r[i]? = some v → ∃ p, l[i]? = some p ∧ reA σ p = some v) ∧ ∀ (i : Nat) (p : Value), l[i]? = some p → ∃ v, r[i]? = some v ∧ reA σ p = some v
 | [], r, h => by
   simp only [reL, Option.some.injEq] at h
   subst h
   exact ⟨rfl, fun i v h => by simp at h, fun i v h => by simp at h⟩
 | x :: l, r, h => by
   simp only [reL] at h
   split at h
   · rename_i a t h1 h2
     simp only [Option.some.injEq] at h
     subst h
     obtain ⟨e1, e2, e3⟩ := reL_get h2
     refine ⟨by simp [e1], fun i v hi => ?_, fun i p hi => ?_⟩
     · cases i with
       | zero =>
         simp only [List.getElem?_cons_zero, Option.some.injEq] at hi
         exact ⟨x, rfl, hi ▸ h1⟩
       | succ i => simpa using e2 i v (by simpa using hi)
     · cases i with
       | zero =>
         simp only [List.getElem?_cons_zero, Option.some.injEq] at hi
         exact ⟨a, rfl, hi ▸ h1⟩
       | succ i => simpa using e3 i p (by simpa using hi)
   · cases h
theorem reL_pull {σ : Nat → Option Nat} {γ : Emb} {l r l' : List Value} (h : reL σ l = some r) (hv : VRels γ r l') : VRels (fun i => (σ i).bind γ) l l' := by
 obtain ⟨h1, _, h3⟩ := reL_get h
 refine VRels.of_get (by rw [← h1]; exact hv.length) fun i v v' e1 e2 => ?_
 obtain ⟨u, q1, q2⟩ := h3 i v e1
 obtain ⟨u', q3, q4⟩ := hv.get q1
 rw [e2] at q3
 cases q3
 exact reA_pull q2 q4
theorem reL_push {σ : Nat → Option Nat} {γ γ' : Emb} {l r l' : List Value} (h : reL σ l = some r) (hσ : ∀ i b L, σ i = some b → γ i = some L → γ' b = some L) (hv : VRels γ l l') : VRels γ' r l' := by
 obtain ⟨h1, h2, _⟩ := reL_get h
 refine VRels.of_get (by rw [h1]; exact hv.length) fun i v v' e1 e2 => ?_
 obtain ⟨p, q1, q2⟩ := h2 i v e1
 obtain ⟨u', q3, q4⟩ := hv.get q1
 rw [e2] at q3
 cases q3
 exact reA_push q2 hσ q4
theorem reE_pull {σ : Nat → Option Nat} {γ : Emb} {p v v' : Value} (h : reE σ p = some v) (hv : VRel γ v v') : VRel (fun i => (σ i).bind γ) p v' := by
 unfold reE at h
 split at h
 · rename_i cs
   split at h
   · rename_i l hl
     simp only [Option.some.injEq] at h
     subst h
     obtain ⟨cs', rfl, q⟩ := hv.agg_inv
     exact .agg (l := cs.toList) (l' := cs'.toList) (reL_pull hl q)
   · cases h
 · exact reA_pull h hv
theorem reE_push {σ : Nat → Option Nat} {γ γ' : Emb} {p v v' : Value} (h : reE σ p = some v) (hσ : ∀ i b L, σ i = some b → γ i = some L → γ' b = some L) (hv : VRel γ p v') : VRel γ' v v' := by
 unfold reE at h
 split at h
 · rename_i cs
   split at h
   · rename_i l hl
     simp only [Option.some.injEq] at h
     subst h
     obtain ⟨cs', rfl, q⟩ := hv.agg_inv
     exact .agg (l := l) (l' := cs'.toList) (reL_push hl hσ q)
   · cases h
 · exact reA_push h hσ hv
theorem reEs_get {σ : Nat → Option Nat} : ∀ {l r : List Value}, reEs σ l = some r → r.length = l.length ∧ (∀ (i : Nat) (v : Value), r[i]? = some v → ∃ p, l[i]? = some p ∧ reE σ p = some v) ∧ ∀ (i : Nat) (p : Value), l[i]? = some p → ∃ v, r[i]? = some v ∧ reE σ p = some v
 | [], r, h => by
   simp only [reEs, Option.some.injEq] at h
   subst h
   exact ⟨rfl, fun i v h => by simp at h, fun i v h => by simp at h⟩
 | x :: l, r, h => by
   simp only [reEs] at h
   split at h
   · rename_i a t h1 h2
     simp only [Option.some.injEq] at h
     subst h
     obtain ⟨e1, e2, e3⟩ := reEs_get h2
     refine ⟨by simp [e1], fun i v hi => ?_, fun i p hi => ?_⟩
     · cases i with
       | zero =>
         simp only [List.getElem?_cons_zero, Option.some.injEq] at hi
         exact ⟨x, rfl, hi ▸ h1⟩
       | succ i => simpa using e2 i v (by simpa using hi)
     · cases i with
       | zero =>
         simp only [List.getElem?_cons_zero, Option.some.injEq] at hi
         exact ⟨a, rfl, hi ▸ h1⟩
       | succ i => simpa using e3 i p (by simpa using hi)
   · cases h
theorem reEs_pull {σ : Nat → Option Nat} {γ : Emb} {l r l' : List Value} (h : reEs σ l = some r) (hv : VRels γ r l') : VRels (fun i => (σ i).bind γ) l l' := by
 obtain ⟨h1, _, h3⟩ := reEs_get h
 refine VRels.of_get (by rw [← h1]; exact hv.length) fun i v v' e1 e2 => ?_
 obtain ⟨u, q1, q2⟩ := h3 i v e1
 obtain ⟨u', q3, q4⟩ := hv.get q1
 rw [e2] at q3
 cases q3
 exact reE_pull q2 q4
theorem reEs_push {σ : Nat → Option Nat} {γ γ' : Emb} {l r l' : List Value} (h : reEs σ l = some r) (hσ : ∀ i b L, σ i = some b → γ i = some L → γ' b = some L) (hv : VRels γ l l') : VRels γ' r l' := by
 obtain ⟨h1, h2, _⟩ := reEs_get h
 refine VRels.of_get (by rw [h1]; exact hv.length) fun i v v' e1 e2 => ?_
 obtain ⟨p, q1, q2⟩ := h2 i v e1
 obtain ⟨u', q3, q4⟩ := hv.get q1
 rw [e2] at q3
 cases q3
 exact reE_push q2 hσ q4
theorem reT_push {σ : Nat → Option Nat} {γ γ' : Emb} {p v v' : Value} (h : reT σ p = some v) (hσ : ∀ i b L, σ i = some b → γ i = some L → γ' b = some L) (hv : VRel γ p v') : VRel γ' v v' := by
 unfold reT at h
 split at h
 · rename_i vs
   split at h
   · rename_i l hl
     simp only [Option.some.injEq] at h
     subst h
     obtain ⟨vs', rfl, q⟩ := hv.tuple_inv
     have := reEs_push hl hσ q
     exact .tuple (l' := vs'.toList) this
   · cases h
 · exact reE_push h hσ hv
theorem reB_pull {O : OpqT} {σ : Nat → Option Nat} {γ : Emb} {N N0 : Nat → Prop} {w : World} {L : Loc} {p x : Blk} (h : reB σ p = some x) (hN : ∀ c, N c → N0 c) (hb : BRel O γ N w L x) : BRel O (fun i => (σ i).bind γ) N0 w L p := by
 unfold reB at h
 split at h
 · rename_i cs z
   split at h
   · rename_i l hl
     simp only [Option.some.injEq] at h
     subst h
     obtain ⟨c, elem, fz, h1, h2, h3, h4, h5, h6⟩ := hb
     obtain ⟨e1, _, e3⟩ := reL_get hl
     refine ⟨c, elem, fz, h1, h2, by rw [← e1]; exact h3, h4, by rw [← e1]; exact h5, fun i v hi => ?_⟩
     obtain ⟨u, q1, q2⟩ := e3 i v hi
     obtain ⟨u', q3, q4⟩ := h6 i u q1
     exact ⟨u', q3, reA_pull q2 q4⟩
   · cases h
 · rename_i cs
   split at h
   · rename_i l hl
     simp only [Option.some.injEq] at h
     subst h
     obtain ⟨h0, c, elem, fz, h1, h3, h5, h6⟩ := hb
     obtain ⟨e1, _, e3⟩ := reL_get hl
     refine ⟨hN _ h0, c, elem, fz, h1, h3, by rw [← e1]; exact h5, fun i v hi => ?_⟩
     obtain ⟨u, q1, q2⟩ := e3 i v hi
     obtain ⟨u', q3, q4⟩ := h6 i u q1
     exact ⟨u', q3, reA_pull q2 q4⟩
   · cases h
 · cases h
theorem reB_rw {σ : Nat → Option Nat} {p x : Blk} (h : reB σ p = some x) : rwB (some p) ↔ rwB (some x) := by
 unfold reB at h
 split at h
 · split at h
   · simp only [Option.some.injEq] at h; subst h; exact Iff.rfl
   · cases h
 · split at h
   · simp only [Option.some.injEq] at h; subst h; exact Iff.rfl
   · cases h
 · cases h
theorem heapOf_get : ∀ (l : List Blk) (i : Nat) (t : Tr Blk) (j : Nat), (heapOf l i t).get j = if i ≤ j ∧ j < i + l.length then l[j - i]? else t.get j
 | [], i, t, j => by
   rw [if_neg (by simp only [List.length_nil]; omega)]
   rfl
 | x :: l, i, t, j => by
   simp only [heapOf]
   rw [heapOf_get l (i + 1), Tr.get_set]
   simp only [List.length_cons]
   by_cases h1 : j = i
   · subst h1
     rw [if_neg (by omega), if_pos rfl, if_pos (by omega)]
     simp
   · by_cases h2 : i ≤ j ∧ j < i + (l.length + 1)
     · rw [if_pos (by omega), if_pos h2, show j - i = (j - (i + 1)) + 1 by omega, List.getElem?_cons_succ]
     · rw [if_neg (by omega), if_neg h1, if_neg h2]
theorem addNews_spec {σ : Nat → Option Nat} : ∀ {l : List (Nat × List Value × Zk)} {H H' : Heap}, addNews σ l H = some H' → H'.next = H.next + l.length ∧ (∀ b, b < H.next ∨ H.next + l.length ≤ b → H'.get b = H.get b) ∧ ∀ (j : Nat) (x : Nat × List Value × Zk), l[j]? = some x → ∃ cs, reL σ x.2.1 = some cs ∧ H'.get (H.next + j) = some (.cells cs x.2.2)
 | [], H, H', h => by
   simp only [addNews, Option.some.injEq] at h
   subst h
   exact ⟨rfl, fun _ _ => rfl, fun j x h => by simp at h⟩
 | y :: l, H, H', h => by
   simp only [addNews] at h
   split at h
   · rename_i cs hcs
     obtain ⟨h1, h2, h3⟩ := addNews_spec h
     have hn : (H.new (.cells cs y.2.2)).next = H.next + 1 := rfl
     rw [hn] at h1 h2 h3
     refine ⟨by simp only [List.length_cons]; omega, fun b hb => ?_, fun j x hj => ?_⟩
     · simp only [List.length_cons] at hb
       rw [h2 b (by omega), Heap.get_new, if_neg (by omega)]
     · cases j with
       | zero =>
         simp only [List.getElem?_cons_zero, Option.some.injEq] at hj
         subst hj
         refine ⟨cs, hcs, ?_⟩
         rw [Nat.add_zero, h2 H.next (by omega), Heap.get_new, if_pos rfl]
       | succ j =>
         obtain ⟨c2, q1, q2⟩ := h3 j x (by simpa using hj)
         exact ⟨c2, q1, by rw [show H.next + (j + 1) = H.next + 1 + j by omega]; exact q2⟩
   · cases h
theorem newIx_spec {n : Nat} : ∀ {l : List (Nat × List Value × Zk)} {b0 b : Nat}, newIx n l b0 = some b → ∃ (j : Nat) (x : Nat × List Value × Zk), b = b0 + j ∧ l[j]? = some x ∧ x.1 = n
 | [], _, _, h => by cases h
 | y :: l, b0, b, h => by
   simp only [newIx, nbeq] at h
   by_cases hc : y.1 = n
   · simp only [hc, decide_true, cond_true, Option.some.injEq] at h
     exact ⟨0, y, by omega, rfl, hc⟩
   · simp only [hc, decide_false, cond_false] at h
     obtain ⟨j, x, h1, h2, h3⟩ := newIx_spec h
     exact ⟨j + 1, x, by omega, by simpa using h2, h3⟩
theorem newIx_none {n : Nat} : ∀ {l : List (Nat × List Value × Zk)} {b0 : Nat}, newIx n l b0 = none → ∀ (j : Nat) (x : Nat × List Value × Zk), l[j]? = some x → x.1 ≠ n
 | [], _, _, j, x, h => by simp at h
 | y :: l, b0, h, j, x, hj => by
   simp only [newIx, nbeq] at h
   by_cases hc : y.1 = n
   · simp only [hc, decide_true, cond_true, reduceCtorEq] at h
   · simp only [hc, decide_false, cond_false] at h
     cases j with
     | zero => simp only [List.getElem?_cons_zero, Option.some.injEq] at hj; subst hj; exact hc
     | succ j => exact newIx_none h j x (by simpa using hj)
theorem zkBeq_eq {a b : Zk} (h : zkBeq a b = true) : a = b := by
 unfold zkBeq at h
 split at h
 · rw [nbeq] at h; rw [of_decide_eq_true h]
 · rw [nbeq] at h; rw [of_decide_eq_true h]
 · cases h
theorem blkBeq_eq {a b : Blk} (h : blkBeq a b = true) : a = b := by
 unfold blkBeq at h
 split at h
 · simp only [Bool.and_eq_true] at h
   rw [zkBeq_eq h.1, cellsBeq_eq h.2]
 · rw [cellsBeq_eq h]
 · cases h
theorem blksBeq_eq : ∀ {a b : List Blk}, blksBeq a b = true → a = b
 | [], [], _ => rfl
 | x :: a, y :: b, h => by
   simp only [blksBeq, Bool.and_eq_true] at h
   rw [blkBeq_eq h.1, blksBeq_eq h.2]
 | [], _ :: _, h => by cases h
 | _ :: _, [], h => by cases h
theorem valsBeq_eq : ∀ {l r : List Value}, valsBeq l r = true → l = r
 | [], [], _ => rfl
 | a :: x, b :: y, h => by
   simp only [valsBeq, Bool.and_eq_true] at h
   rw [valBeq_eq h.1, valsBeq_eq h.2]
 | [], _ :: _, h => by cases h
 | _ :: _, [], h => by cases h
theorem resBeq_eq {a b : Value} (h : resBeq a b = true) : a = b := by
 unfold resBeq at h
 split at h
 · rw [Array.toList_inj.1 (valsBeq_eq h)]
 · exact valBeq_eq h
theorem newsOk_spec {H : Heap} {k : Nat} : ∀ {l : List (Nat × List Value × Zk)}, newsOk H k l = true → (∀ (j : Nat) (x : Nat × List Value × Zk), l[j]? = some x → k ≤ x.1 ∧ H.get x.1 = some (.cells x.2.1 x.2.2)) ∧ ∀ (i j : Nat) (x y : Nat × List Value × Zk), l[i]? = some x → l[j]? = some y → x.1 = y.1 → i = j
 | [], _ => ⟨fun j x h => by simp at h, fun i j x y h => by simp at h⟩
 | z :: l, h => by
   simp only [newsOk, Bool.and_eq_true, nble, decide_eq_true_eq] at h
   obtain ⟨h1, h2, h3, h4⟩ := h
   obtain ⟨q1, q2⟩ := newsOk_spec h4
   have hz : H.get z.1 = some (.cells z.2.1 z.2.2) := by
    split at h2
    · rename_i y hy
      rw [hy, blkBeq_eq h2]
    · cases h2
   have hno := newIx_none (Option.isNone_iff_eq_none.1 h3)
   refine ⟨fun j x hj => ?_, fun i j x y hi hj hxy => ?_⟩
   · cases j with
     | zero => simp only [List.getElem?_cons_zero, Option.some.injEq] at hj; subst hj; exact ⟨h1, hz⟩
     | succ j => exact q1 j x (by simpa using hj)
   · cases i with
     | zero =>
       simp only [List.getElem?_cons_zero, Option.some.injEq] at hi
       subst hi
       cases j with
       | zero => rfl
       | succ j => exact (hno j y (by simpa using hj) hxy.symm).elim
     | succ i =>
       cases j with
       | zero =>
         simp only [List.getElem?_cons_zero, Option.some.injEq] at hj
         subst hj
         exact (hno i x (by simpa using hi) hxy).elim
       | succ j => rw [q2 i j x y (by simpa using hi) (by simpa using hj) hxy]
theorem findE_spec {a : List Value} {bl : List Blk} : ∀ {es : List Ent} {E : Ent}, findE a bl es = some E → E ∈ es ∧ E.args = a ∧ E.blks = bl
 | [], _, h => by cases h
 | F :: es, E, h => by
   simp only [findE] at h
   cases hc : (valsBeq F.args a && blksBeq F.blks bl) with
   | true =>
     rw [hc] at h
     simp only [cond_true, Option.some.injEq] at h
     subst h
     simp only [Bool.and_eq_true] at hc
     exact ⟨.head _, valsBeq_eq hc.1, blksBeq_eq hc.2⟩
   | false =>
     rw [hc] at h
     obtain ⟨h1, h2⟩ := findE_spec h
     exact ⟨.tail _ h1, h2⟩
end
section
open Go
section
variable {O : OpqT} {P : Program} {base : Nat} {pm : Perm} {G : Nat → Bool} {K : Orc}
theorem Does.mono {f : FuncId} {args : Array Value} {w : World} {R R' : Ending → World → Prop} (h : Does P f args w R) (hr : ∀ e w', R e w' → R' e w') : Does P f args w R' := by
 rcases h with ⟨h1, h2⟩ | ⟨v, w', h1, h2⟩
 · exact .inl ⟨h1, h2.mono hr⟩
 · exact .inr ⟨v, w', h1, hr _ _ h2⟩
theorem memo_sound (hG0 : ∀ g, G g = false) (hK : SoundK O P G K) {f : FuncId} {E : Ent} (hE : E.ok K f = true) {args : List Value} {H H' : Heap} {v : Value} {ρ : List Nat} (hnd : ρ.Nodup) (hlen : E.blks.length = ρ.length)
  (hargs : reEs (at? ρ) E.args = some args) (hblk : ∀ j y, E.blks[j]? = some y → ∃ b x, at? ρ j = some b ∧ H.get b = some x ∧ reB (at? ρ) y = some x) (hout : E.out ρ H = some (v, H'))
  {γ : Emb} {w : World} {args' : Array Value} (hr : Rel O base γ H w) (ha : VRels γ args args'.toList) :
  Does P f args' w fun en w' => ∃ γ' v', en = .returned v' ∧ VRel γ' v v' ∧ Step O base pm γ H w γ' H' w' := by
 obtain ⟨H1, hrun, hnews⟩ : ∃ H1, E.run K f = some (E.res, H1) ∧ newsOk H1 E.blks.length E.news = true := by
  unfold Ent.ok at hE
  split at hE
  · rename_i v1 H1 h1
    simp only [Bool.and_eq_true] at hE
    exact ⟨H1, by rw [h1, resBeq_eq hE.1], hE.2⟩
  · cases hE
 obtain ⟨hn1, hn2⟩ := newsOk_spec hnews
 -- the small state
 let γ0 : Emb := fun i => (at? ρ i).bind γ
 let H0 : Heap := ⟨heapOf E.blks 0 .lf, E.blks.length⟩
 have hget0 : ∀ i, H0.get i = E.blks[i]? := fun i => by
  show (heapOf E.blks 0 .lf).get i = _
  rw [heapOf_get]
  by_cases hi : i < E.blks.length
  · rw [if_pos (by omega), Nat.sub_zero]
  · rw [if_neg (by omega), List.getElem?_eq_none (by omega)]
    rfl
 have hγ0 : ∀ i L, γ0 i = some L → ∃ b y x, at? ρ i = some b ∧ γ b = some L ∧ E.blks[i]? = some y ∧ H.get b = some x ∧ reB (at? ρ) y = some x ∧ i < ρ.length := by
  intro i L h
  simp only [γ0] at h
  cases hb : at? ρ i with
  | none => rw [hb] at h; cases h
  | some b =>
    rw [hb] at h
    have hi : i < ρ.length := (List.getElem?_eq_some_iff.1 (show ρ[i]? = some b from hb)).1
    have hy : E.blks[i]? = some (E.blks[i]'(by omega)) := List.getElem?_eq_getElem (by omega)
    obtain ⟨b', x, q1, q2, q3⟩ := hblk i _ hy
    rw [hb] at q1
    cases q1
    exact ⟨b, _, x, rfl, h, hy, q2, q3, hi⟩
 have hfree : ∀ c, Free γ H w c → Free γ0 H0 w c := fun c hc => ⟨hc.1, fun i L h r => by
  obtain ⟨b, y, x, q1, q2, q3, q4, q5, _⟩ := hγ0 i L h
  rw [hget0, q3] at r
  exact hc.2 b L q2 (by rw [q4]; exact (reB_rw q5).1 r)⟩
 have hrel0 : Rel O base γ0 H0 w := by
  refine ⟨fun i L h => ?_, fun i L h => ?_, fun i hi => ?_, fun i j L L' h h' r r' e => ?_, fun i L h r => ?_, hr.size⟩
  · obtain ⟨b, y, x, q1, q2, q3, q4, q5, _⟩ := hγ0 i L h
    obtain ⟨x', e1, e2⟩ := hr.blk b L q2
    rw [q4] at e1
    cases e1
    exact ⟨y, by rw [hget0, q3], reB_pull q5 hfree e2⟩
  · obtain ⟨b, y, x, q1, q2, q3, q4, q5, q6⟩ := hγ0 i L h
    show i < E.blks.length
    omega
  · rw [hget0]
    exact List.getElem?_eq_none hi
  · obtain ⟨b, y, x, q1, q2, q3, q4, q5, q6⟩ := hγ0 i L h
    obtain ⟨b', y', x', q1', q2', q3', q4', q5', q6'⟩ := hγ0 j L' h'
    rw [hget0, q3] at r
    rw [hget0, q3'] at r'
    have hbb := hr.inj b b' L L' q2 q2' (by rw [q4]; exact (reB_rw q5).1 r) (by rw [q4']; exact (reB_rw q5').1 r') e
    subst hbb
    have h1 : ρ[i]? = some b := q1
    have h2 : ρ[j]? = some b := q1'
    exact (List.getElem?_inj q6 hnd).1 (h1.trans h2.symm)
  · obtain ⟨b, y, x, q1, q2, q3, q4, q5, _⟩ := hγ0 i L h
    rw [hget0, q3] at r
    exact hr.low b L q2 (by rw [q4]; exact (reB_rw q5).1 r)
 have hdoes := hK ⟨E.blks.length, [], none⟩ f E.args H0 E.res H1 rfl hrun base γ0 w args' hrel0 (fun g hg => by rw [hG0 g] at hg; cases hg) (reEs_pull hargs ha)
 refine hdoes.mono fun en w1 ⟨γ1, v1', he, hv1, hS⟩ => ?_
 -- the great state behind it
 unfold Ent.out at hout
 split at hout
 · rename_i v2 H2 hv2 hH2
   simp only [Option.some.injEq, Prod.mk.injEq] at hout
   obtain ⟨rfl, rfl⟩ := hout
   obtain ⟨a1, a2, a3⟩ := addNews_spec hH2
   let γ' : Emb := fun b => if b < H.next then γ b else (E.news[b - H.next]?).bind fun x => γ1 x.1
   have hold : ∀ b L, γ b = some L → γ' b = some L := fun b L h => by
    have := hr.lt b L h
    simp only [γ', if_pos this]
    exact h
   have hγ' : ∀ b L, γ' b = some L → (b < H.next ∧ γ b = some L) ∨ ∃ (j : Nat) (x : Nat × List Value × Zk), b = H.next + j ∧ E.news[j]? = some x ∧ γ1 x.1 = some L := by
    intro b L h
    by_cases hb : b < H.next
    · simp only [γ', if_pos hb] at h
      exact .inl ⟨hb, h⟩
    · simp only [γ', if_neg hb] at h
      cases hx : E.news[b - H.next]? with
      | none => rw [hx] at h; cases h
      | some x =>
        rw [hx] at h
        exact .inr ⟨b - H.next, x, by omega, hx, h⟩
   have hσ : ∀ i b L, sig ρ E.news H.next i = some b → γ1 i = some L → γ' b = some L := by
    intro i b L h1 h2
    unfold sig at h1
    rw [nblt] at h1
    by_cases hi : i < ρ.length
    · simp only [hi, decide_true, cond_true] at h1
      have hg : ∃ L0, γ0 i = some L0 := by
       cases hg : γ0 i with
       | some L0 => exact ⟨L0, rfl⟩
       | none =>
         rcases hS.known i L h2 hg with q | q
         · have : E.blks.length ≤ i := q
           omega
         · cases q
      obtain ⟨L0, hg⟩ := hg
      have := hS.ext i L0 hg
      rw [h2] at this
      cases this
      have hgb : γ b = some L := by
       have h3 : at? ρ i = some b := h1
       simp only [γ0, h3, Option.bind_some] at hg
       exact hg
      exact hold b L hgb
    · simp only [hi, decide_false, cond_false] at h1
      obtain ⟨j, x, rfl, q2, q3⟩ := newIx_spec h1
      simp only [γ', if_neg (show ¬ H.next + j < H.next by omega), show H.next + j - H.next = j by omega, q2, Option.bind_some, q3]
      exact h2
   have hkeep : ∀ c, c < w.heap.size → w1.heap[c]? = w.heap[c]? := fun c hc => hS.keep c hc fun b L hb _ hm => by
    have hlt := hrel0.lt b L hb
    have hlt' : b < E.blks.length := hlt
    simp only [Perm.may, nble, decide_eq_false (Nat.not_le.2 hlt'), cond_false] at hm
    exact absurd hm (by simp)
   have hnewsz : ∀ (j : Nat) (x : Nat × List Value × Zk) (L : Loc), E.news[j]? = some x → γ1 x.1 = some L → w.heap.size ≤ L.blk := by
    intro j x L hj hL
    have hx := (hn1 j x hj).1
    have h0 : γ0 x.1 = none := by
     cases hg : γ0 x.1 with
     | none => rfl
     | some L0 =>
       have : x.1 < E.blks.length := hrel0.lt x.1 L0 hg
       omega
    rcases hS.fresh x.1 L hL h0 with q | ⟨b0, L0, q1, _, q3, _⟩
    · exact q
    · have hlt : b0 < E.blks.length := hrel0.lt b0 L0 q1
      simp only [Perm.may, nble, decide_eq_false (Nat.not_le.2 hlt), cond_false] at q3
      exact absurd q3 (by simp)
   have hnx : H.next ≤ H2.next := by omega
   have hrwnew : ∀ (j : Nat) (x : Nat × List Value × Zk), E.news[j]? = some x → rwB (H1.get x.1) := fun j x hj => by rw [(hn1 j x hj).2]; trivial
   have hfr : ∀ c, Free γ H w c → Free γ' H2 w1 c ∧ w1.heap[c]? = w.heap[c]? := fun c hc => ⟨⟨Nat.lt_of_lt_of_le hc.1 hS.grow, fun b L hb r => by
    rcases hγ' b L hb with ⟨q1, q2⟩ | ⟨j, x, _, q2, q3⟩
    · exact hc.2 b L q2 (by rwa [a2 b (.inl q1)] at r)
    · have := hnewsz j x L q2 q3
      have := hc.1
      omega⟩, hkeep c hc.1⟩
   refine ⟨γ', v1', he, reT_push hv2 hσ hv1, ?_⟩
   exact {
    rel := by
     refine ⟨fun b L hb => ?_, fun b L hb => ?_, fun b hb => ?_, fun b b' L L' hb hb' r r' e => ?_, fun b L hb r => ?_, Nat.le_trans hr.size hS.grow⟩
     · rcases hγ' b L hb with ⟨q1, q2⟩ | ⟨j, x, rfl, q2, q3⟩
       · obtain ⟨y, e1, e2⟩ := hr.blk b L q2
         exact ⟨y, by rw [a2 b (.inl q1), e1], e2.mono hold hfr fun r => hkeep _ (e2.lt r)⟩
       · obtain ⟨cs, e1, e2⟩ := a3 j x q2
         refine ⟨_, e2, ?_⟩
         obtain ⟨y, e3, e4⟩ := hS.rel.blk x.1 L q3
         rw [(hn1 j x q2).2] at e3
         cases e3
         obtain ⟨c, elem, fz, h1, h2, h3, h4, h5, h6⟩ := e4
         obtain ⟨g1, g2, _⟩ := reL_get e1
         refine ⟨c, elem, fz, h1, h2, by rw [g1]; exact h3, h4, by rw [g1]; exact h5, fun i u hi => ?_⟩
         obtain ⟨p, q4, q5⟩ := g2 i u hi
         obtain ⟨u', q6, q7⟩ := h6 i p q4
         exact ⟨u', q6, reA_push q5 hσ q7⟩
     · rcases hγ' b L hb with ⟨q1, q2⟩ | ⟨j, x, rfl, q2, q3⟩
       · omega
       · have := (List.getElem?_eq_some_iff.1 q2).1
         omega
     · rw [a2 b (.inr (by omega))]
       exact hr.new b (by omega)
     · rcases hγ' b L hb with ⟨q1, q2⟩ | ⟨j, x, rfl, q2, q3⟩ <;> rcases hγ' b' L' hb' with ⟨p1, p2⟩ | ⟨j', x', rfl, p2, p3⟩
       · exact hr.inj b b' L L' q2 p2 (by rwa [a2 b (.inl q1)] at r) (by rwa [a2 b' (.inl p1)] at r') e
       · exfalso
         obtain ⟨y, e1, e2⟩ := hr.blk b L q2
         rw [a2 b (.inl q1), e1] at r
         have := e2.lt r
         have := hnewsz j' x' L' p2 p3
         omega
       · exfalso
         obtain ⟨y, e1, e2⟩ := hr.blk b' L' p2
         rw [a2 b' (.inl p1), e1] at r'
         have := e2.lt r'
         have := hnewsz j x L q2 q3
         omega
       · have := hS.rel.inj x.1 x'.1 L L' q3 p3 (hrwnew j x q2) (hrwnew j' x' p2) e
         rw [hn2 j j' x x' q2 p2 this]
     · rcases hγ' b L hb with ⟨q1, q2⟩ | ⟨j, x, rfl, q2, q3⟩
       · exact hr.low b L q2 (by rwa [a2 b (.inl q1)] at r)
       · exact hS.rel.low x.1 L q3 (hrwnew j x q2)
    ext := hold
    fresh := fun b L hb hn => by
     rcases hγ' b L hb with ⟨q1, q2⟩ | ⟨j, x, rfl, q2, q3⟩
     · rw [hn] at q2; cases q2
     · exact .inl (hnewsz j x L q2 q3)
    grow := hS.grow
    keep := fun c hc _ => hkeep c hc
    next := hnx
    hkeep := fun b hb _ => a2 b (.inl hb)
    rwm := fun b L hb r => by rwa [a2 b (.inl (hr.lt b L hb))] at r
    known := fun b L hb hn => by
     rcases hγ' b L hb with ⟨q1, q2⟩ | ⟨j, x, rfl, q2, q3⟩
     · rw [hn] at q2; cases q2
     · exact .inl (Nat.le_add_right _ _)
    os := hS.os
    tape := hS.tape
    output := hS.output }
 · cases hout
/-- What is looked up. -/
theorem apply_sound (hG0 : ∀ g, G g = false) (hK : SoundK O P G K) {f : FuncId} {es : List Ent} (hes : ∀ E ∈ es, E.ok K f = true) {args : List Value} {H H' : Heap} {v : Value} (h : Ent.apply es args H = some (v, H'))
  {γ : Emb} {w : World} {args' : Array Value} (hr : Rel O base γ H w) (ha : VRels γ args args'.toList) :
  Does P f args' w fun en w' => ∃ γ' v', en = .returned v' ∧ VRel γ' v v' ∧ Step O base pm γ H w γ' H' w' := by
 unfold Ent.apply at h
 split at h
 · rename_i a ρ1 h1
   split at h
   · rename_i bl ρ h2
     split at h
     · rename_i E hE
       obtain ⟨e1, e2, e3⟩ := findE_spec hE
       obtain ⟨g1, q1⟩ := cEs_spec h1
       obtain ⟨g2, q2, q3⟩ := cH_spec h2 (Nat.zero_le _)
       refine memo_sound hG0 hK (hes E e1) (g2.nd (g1.nd List.nodup_nil)) (by rw [e3]; omega) (e2 ▸ reEs_mono g2.le q1) (fun j y hy => ?_) h hr ha
       obtain ⟨b, x, p1, p2, p3⟩ := q3 j y (e3 ▸ hy)
       exact ⟨b, x, by rw [Nat.zero_add] at p1; exact p1, p2, p3⟩
     · cases h
   · cases h
 · cases h
end
end
section
open Go Go.RowKit
/-- What stands for a function's body is sound. -/
def SoundF (O : OpqT) (P : Program) (G : Nat → Bool) (f : FuncId) (g : Perm → List Value → Heap → Option (Value × Heap)) : Prop :=
 ∀ (pm : Perm) (args : List Value) (H : Heap) (v : Value) (H' : Heap), pm.num = none → g pm args H = some (v, H') → ∀ (base : Nat) (γ : Emb) (w : World) (args' : Array Value), Rel O base γ H w → GRel G γ → VRels γ args args'.toList →
   Does P f args' w fun en w' => ∃ γ' v', en = .returned v' ∧ VRel γ' v v' ∧ Step O base pm γ H w γ' H' w'
section
variable {O : OpqT} {P : Program} {base : Nat} {pm : Perm} {γ : Emb} {H : Heap} {w w' : World}
theorem Step.below (hr : Rel O base γ H w) (hb : Below w.heap.size w w') : Step O base pm γ H w γ H w' where
 rel := by
  have hk : ∀ c, c < w.heap.size → w'.heap[c]? = w.heap[c]? := hb.block
  have hfr : ∀ c, Free γ H w c → Free γ H w' c ∧ w'.heap[c]? = w.heap[c]? := fun c hc => ⟨⟨Nat.lt_of_lt_of_le hc.1 hb.size, hc.2⟩, hk c hc.1⟩
  exact ⟨fun b L e => by
   obtain ⟨x, h1, h2⟩ := hr.blk b L e
   exact ⟨x, h1, h2.mono (.refl γ) hfr fun r => hk _ (h2.lt r)⟩, hr.lt, hr.new, hr.inj, hr.low, Nat.le_trans hr.size hb.size⟩
 ext := .refl γ
 fresh := fun b L h1 h2 => by rw [h2] at h1; cases h1
 grow := hb.size
 keep := fun c hc _ => hb.block c hc
 next := Nat.le_refl _
 hkeep := fun _ _ _ => rfl
 rwm := fun _ _ _ h => h
 known := fun b L h1 h2 => by rw [h2] at h1; cases h1
 os := hb.os
 tape := hb.tape
 output := hb.output
end
def idxQ (c : Nat) : List UInt8 → Nat → Int
 | [], _ => -1
 | b :: l, n => bif Nat.beq b.toNat c then .ofNat n else idxQ c l (Nat.succ n)
theorem idxQ_eq (c : Nat) (hc : c < 256) : ∀ (l : List UInt8) (n : Nat), idxQ c l n = if Lib.indexByte l c.toUInt8 = -1 then -1 else (n : Int) + Lib.indexByte l c.toUInt8
 | [], n => by simp [idxQ, Lib.indexByte]
 | b :: l, n => by
   have hb : Nat.beq b.toNat c = (b == c.toUInt8) := by
    rw [nbeq]
    by_cases h : b = c.toUInt8
    · subst h
      have h2 : c.toUInt8.toNat = c := by simp [Nat.toUInt8]; omega
      rw [h2]; simp
    · rw [decide_eq_false]
      · simp [h]
      · intro e
        apply h
        apply UInt8.toNat_inj.1
        have h2 : c.toUInt8.toNat = c := by simp [Nat.toUInt8]; omega
        rw [h2]; exact e
   have hge := Lib.indexByte_ge l c.toUInt8
   simp only [idxQ, Lib.indexByte, hb]
   by_cases hbc : (b == c.toUInt8) = true
   · simp [hbc]
   · have hbc : (b == c.toUInt8) = false := by simpa using hbc
     simp only [hbc, cond_false, Bool.false_eq_true, if_false]
     rw [idxQ_eq c hc l (n + 1)]
     by_cases h1 : Lib.indexByte l c.toUInt8 = -1
     · simp [h1]
     · have h2 : (Lib.indexByte l c.toUInt8 == -1) = false := by simpa using h1
       rw [if_neg h1, h2]
       simp only [Bool.false_eq_true, if_false]
       rw [if_neg (by omega)]
       push_cast
       omega
def strsOf : List Value → Option (List ByteArray)
 | [] => some []
 | .string s :: l => (match strsOf l with | some r => some (s :: r) | none => none)
 | _ => none
theorem strsOf_spec : ∀ {l : List Value} {r : List ByteArray}, strsOf l = some r → l = r.map .string
 | [], r, h => by simp only [strsOf, Option.some.injEq] at h; subst h; rfl
 | v :: l, r, h => by
   cases v <;> simp only [strsOf, reduceCtorEq] at h
   split at h
   · rename_i r2 h2
     simp only [Option.some.injEq] at h
     subst h
     rw [strsOf_spec h2]; rfl
   · cases h
end
end Go.Dam
