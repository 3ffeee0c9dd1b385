/- Symbolic evaluation over the abstract memory. -/
import Derived.Test.YtedamoknpbihhaaGreatDoorDamTwo
namespace Go.Dam
section
open Go
/-! ## The evaluator on what is not known: slots by a list, the heap by what one knows of it -/
/-- From some fuel on. -/
def Evt (p : Nat → Nat → Prop) : Prop := ∃ N, ∀ m d, N ≤ m → N ≤ d → p m d
theorem Evt.of {p : Nat → Nat → Prop} (h : ∀ m d, p m d) : Evt p := ⟨0, fun m d _ _ => h m d⟩
theorem Evt.map {p q : Nat → Nat → Prop} (h : Evt p) (f : ∀ m d, p m d → q m d) : Evt q := let ⟨N, h⟩ := h; ⟨N, fun m d a b => f m d (h m d a b)⟩
theorem Evt.map2 {p q r : Nat → Nat → Prop} (h : Evt p) (g : Evt q) (f : ∀ m d, p m d → q m d → r m d) : Evt r := by
 obtain ⟨N, h⟩ := h
 obtain ⟨M, g⟩ := g
 exact ⟨N + M, fun m d a b => f m d (h m d (by omega) (by omega)) (g m d (by omega) (by omega))⟩
abbrev Ovr := Perm → List Value → Heap → Option (Value × Heap)
/-- A program: its bodies; what stands for some of them. -/
structure Cx where
 T : Nat → Option DFunc
 ov : Nat → Option Ovr
def Cx.S (X : Cx) : Orc → Orc := fun K lo f args H => match X.ov f with
 | some g => g lo args H
 | none => K lo f args H
def Cx.K (X : Cx) (m d : Nat) : Orc := runK X.T X.S m d
def Runs (X : Cx) (pm : Perm) (f : FuncId) (args : List Value) (H : Heap) (v : Value) (H' : Heap) : Prop := Evt fun m d => X.K m d pm f args H = some (v, H')
/-- A call comes back, and so. -/
def Call (X : Cx) (pm : Perm) (f : FuncId) (args : List Value) (H : Heap) (R : Value → Heap → Prop) : Prop := ∃ v H', Runs X pm f args H v H' ∧ R v H'
abbrev Sl := List (Nat × Value)
def lk (k : Nat) : Sl → Option Value
 | [] => none
 | (j, v) :: l => bif Nat.beq k j then some v else lk k l
def Agr (e : Env) (l : Sl) : Prop := ∀ k v, lk k l = some v → e.get k = some v
def ofL : Sl → Env
 | [] => .lf
 | (k, v) :: l => (ofL l).set v k
theorem ofL_get (l : Sl) (k : Nat) : (ofL l).get k = lk k l := by
 induction l with
 | nil => rfl
 | cons p l ih =>
   obtain ⟨j, v⟩ := p
   simp only [ofL, Tr.get_set, lk, nbeq, ih]
   by_cases h : k = j <;> simp [h]
def putL (l : Sl) (d : Option Nat) (v : Value) : Sl := match d with
 | some d => (d, v) :: l
 | none => l
theorem Agr.put {e : Env} {l : Sl} (h : Agr e l) (d : Option Nat) (v : Value) : Agr (putDst e d v) (putL l d v) := by
 cases d with
 | none => exact h
 | some d =>
   intro k u hk
   simp only [putL, lk, nbeq] at hk
   simp only [putDst, Tr.get_set]
   by_cases hd : k = d
   · simpa [hd] using hk
   · simp only [hd, decide_false, cond_false] at hk
     simp only [hd, if_false]
     exact h k u hk
/-- All that a list says another one says. -/
def Sub : Sl → Sl → Prop
 | [], _ => True
 | (k, v) :: L, l => lk k l = some v ∧ Sub L l
theorem Sub.lk {L l : Sl} (h : Sub L l) {k : Nat} {v : Value} (e : lk k L = some v) : lk k l = some v := by
 induction L with
 | nil => cases e
 | cons p L ih =>
   obtain ⟨j, u⟩ := p
   simp only [Dam.lk, nbeq] at e
   by_cases hj : k = j
   · subst hj
     simp only [decide_true, cond_true, Option.some.injEq] at e
     subst e
     exact h.1
   · simp only [hj, decide_false, cond_false] at e
     exact ih h.2 e
theorem Agr.sub {e : Env} {L l : Sl} (h : Agr e l) (hs : Sub L l) : Agr e L := fun k v hk => h k v (hs.lk hk)
/-! ### More slots: the same -/
def Ele (e e' : Env) : Prop := ∀ k v, e.get k = some v → e'.get k = some v
theorem Agr.ele {e : Env} {l : Sl} (h : Agr e l) : Ele (ofL l) e := fun k v hk => h k v (by rwa [ofL_get] at hk)
theorem Ele.ev {e e' : Env} (h : Ele e e') {r : Rand} {v : Value} (q : ev e r = some v) : ev e' r = some v := by
 cases r with
 | t n => exact h n v q
 | c u => exact q
theorem Ele.evs {e e' : Env} (h : Ele e e') : ∀ {rs : List Rand} {vs : List Value}, evs e rs = some vs → evs e' rs = some vs
 | [], _, q => q
 | r :: rs, vs, q => by
   simp only [Dam.evs] at q ⊢
   cases h1 : Dam.ev e r with
   | none => rw [h1] at q; cases q
   | some v =>
     rw [h1] at q
     cases h2 : Dam.evs e rs with
     | none => simp only [h2] at q; cases q
     | some l => simp only [h2] at q; simp only [h.ev h1, h.evs h2]; exact q
theorem Ele.parts {e e' : Env} (h : Ele e e') : ∀ {rs : List (Nat × Nat × Rand)} {vs : List (Nat × Nat × Value)}, evParts e rs = some vs → evParts e' rs = some vs
 | [], _, q => q
 | (i, n, r) :: rs, vs, q => by
   simp only [Dam.evParts] at q ⊢
   cases h1 : Dam.ev e r with
   | none => rw [h1] at q; cases q
   | some v =>
     rw [h1] at q
     cases h2 : Dam.evParts e rs with
     | none => simp only [h2] at q; cases q
     | some l => simp only [h2] at q; simp only [h.ev h1, h.parts h2]; exact q
theorem Ele.natOf {e e' : Env} (h : Ele e e') {r : Rand} {n : Nat} (q : Dam.natOf (Dam.ev e r) = some n) : Dam.natOf (Dam.ev e' r) = some n := by
 cases h1 : Dam.ev e r with
 | none => rw [h1] at q; cases q
 | some v => rw [h1] at q; rw [h.ev h1]; exact q
theorem Ele.optNat {e e' : Env} (h : Ele e e') {d n : Nat} {o : Option Rand} (q : Dam.optNat e d o = some n) : Dam.optNat e' d o = some n := by
 cases o with
 | none => exact q
 | some r => exact h.natOf q
def ELe (a b : Eff) : Prop := (∀ (pm : Perm) (H : Heap), a.run pm H = none) ∨ b = a
theorem ELe.refl (a : Eff) : ELe a a := .inr rfl
theorem ELe.fail (b : Eff) : ELe .fail b := .inl fun _ _ => rfl
/-- What hangs on a slot's value: with more slots the same. -/
theorem ELe.on {e e' : Env} (h : Ele e e') (r : Rand) (f : Option Value → Eff) (hf : f none = .fail) : ELe (f (Dam.ev e r)) (f (Dam.ev e' r)) := by
 cases q : ev e r with
 | none => rw [hf]; exact .fail _
 | some v => rw [h.ev q]; exact .refl _
theorem ELe.on2 {e e' : Env} (h : Ele e e') (r s : Rand) (f : Option Value → Option Value → Eff) (h1 : ∀ y, f none y = .fail) (h2 : ∀ x, f x none = .fail) : ELe (f (ev e r) (ev e s)) (f (ev e' r) (ev e' s)) := by
 cases q : ev e r with
 | none => rw [h1]; exact .fail _
 | some v =>
   cases q2 : ev e s with
   | none => rw [h2]; exact .fail _
   | some u => rw [h.ev q, h.ev q2]; exact .refl _
theorem ELe.w1 {e e' : Env} (h : Ele e e') (r : Rand) (k : Value → Eff) : ELe (with1 (Dam.ev e r) k) (with1 (Dam.ev e' r) k) := .on h r (fun y => with1 y k) rfl
theorem ELe.run {a b : Eff} (h : ELe a b) {pm : Perm} {H : Heap} {r : Value × Heap} (q : a.run pm H = some r) : b.run pm H = some r := by
 rcases h with h | rfl
 · rw [h] at q; cases q
 · exact q
theorem ELe.runT {a b : Eff} (h : ELe a b) {pm : Perm} {H : Heap} {r : Value × Heap × List Nat × List Nat} (q : a.runT pm H = some r) : b.runT pm H = some r := by
 rcases h with h | rfl
 · obtain ⟨v, H', f, m⟩ := r
   have := runT_run q
   rw [h] at this; cases this
 · exact q
theorem eff_le {e e' : Env} (h : Ele e e') (o : DOp) : ELe (o.eff e) (o.eff e') := by
 cases o
 case mv x => exact .on h x retO rfl
 case pick c a b =>
  simp only [DOp.eff]
  cases q : ev e c with
  | none => exact .fail _
  | some v =>
    rw [h.ev q]
    simp only [with1]
    split
    · exact .on h a retO rfl
    · exact .on h b retO rfl
    · exact .fail _
 case alloc => exact .refl _
 case box t x => exact .w1 h x _
 case build z ps =>
  simp only [DOp.eff]
  cases q : evParts e ps with
  | none => exact .fail _
  | some l => rw [h.parts q]; exact .refl _
 case buildSlice z es ln ps =>
  simp only [DOp.eff]
  cases q : evParts e ps with
  | none => exact .fail _
  | some l => rw [h.parts q]; exact .refl _
 case load g n a => exact .on h a (effLoad g n) rfl
 case store n a x =>
  refine .on2 h a x (effStore n) (fun y => rfl) (fun x => ?_)
  unfold effStore
  split
  · rename_i q; cases q
  · rfl
 case nilCheck x => exact .w1 h x _
 case bin op k x y => exact .on2 h x y (fun a b => with1 a fun a => with1 b fun b => retO (binOp op k a b)) (fun _ => rfl) (fun x => by cases x <;> rfl)
 case un op x => exact .w1 h x _
 case conv c x => exact .w1 h x _
 case mkIface t x => exact .w1 h x _
 case mkFunc f l =>
  simp only [DOp.eff]
  cases q : evs e l with
  | none => exact .fail _
  | some l => rw [h.evs q]; exact .refl _
 case mkMap => exact .refl _
 case mkSlice z by' l c =>
  simp only [DOp.eff]
  cases q : natOf (ev e l) with
  | none => exact .fail _
  | some v =>
    cases q2 : natOf (ev e c) with
    | none => exact .fail _
    | some u => rw [h.natOf q, h.natOf q2]; exact .refl _
 case slStr x lo hi =>
  simp only [DOp.eff]
  cases q : ev e x with
  | none => exact .fail _
  | some v =>
    cases q2 : optNat e 0 lo with
    | none => cases v <;> exact .fail _
    | some n =>
      rw [h.ev q, h.optNat q2]
      cases v <;> first | (exact .fail _) | skip
      rename_i s
      simp only [effSlStr]
      cases q3 : optNat e s.size hi with
      | none => exact .fail _
      | some u => rw [h.optNat q3]; exact .refl _
 case slSl es x lo hi mx =>
  simp only [DOp.eff]
  cases q : ev e x with
  | none => exact .fail _
  | some v =>
    rw [h.ev q]
    simp only [with1]
    cases v <;> first | (exact .fail _) | skip
    rename_i a ln cp
    simp only
    cases q2 : optNat e 0 lo with
    | none => exact .fail _
    | some n =>
      cases q3 : optNat e ln hi with
      | none => exact .fail _
      | some n3 =>
        cases q4 : optNat e cp mx with
        | none => exact .fail _
        | some n4 => rw [h.optNat q2, h.optNat q3, h.optNat q4]; exact .refl _
 case slArr n es x lo hi =>
  simp only [DOp.eff]
  cases q : ev e x with
  | none => exact .fail _
  | some v =>
    rw [h.ev q]
    cases v <;> first | (exact .fail _) | skip
    rename_i a
    cases a <;> first | (exact .fail _) | skip
    cases q2 : optNat e 0 lo with
    | none => exact .fail _
    | some n2 =>
      cases q3 : optNat e n hi with
      | none => exact .fail _
      | some n3 => rw [h.optNat q2, h.optNat q3]; exact .refl _
 case fieldAddr off x => exact .w1 h x _
 case field g off n x => exact .w1 h x _
 case ixSl es x i =>
  simp only [DOp.eff]
  cases q : ev e x with
  | none => exact .fail _
  | some v =>
    cases q2 : natOf (ev e i) with
    | none => cases v <;> first | exact .fail _ | (rename_i a _ _; cases a <;> exact .fail _)
    | some u => rw [h.ev q, h.natOf q2]; exact .refl _
 case ixArr n es x i =>
  simp only [DOp.eff]
  cases q : ev e x with
  | none => exact .fail _
  | some v =>
    cases q2 : natOf (ev e i) with
    | none => cases v <;> first | exact .fail _ | (rename_i a; cases a <;> exact .fail _)
    | some u => rw [h.ev q, h.natOf q2]; exact .refl _
 case ixStr x i =>
  simp only [DOp.eff]
  cases q : ev e x with
  | none => exact .fail _
  | some v =>
    cases q2 : natOf (ev e i) with
    | none => cases v <;> exact .fail _
    | some u => rw [h.ev q, h.natOf q2]; exact .refl _
 case ixAgg g n es x i =>
  simp only [DOp.eff]
  cases q : ev e x with
  | none => exact .fail _
  | some v =>
    cases q2 : natOf (ev e i) with
    | none => cases v <;> exact .fail _
    | some u => rw [h.ev q, h.natOf q2]; exact .refl _
 case lookup kk z ok x k => exact .on2 h k x (fun a b => with1 a fun a => effLookup kk z ok a b) (fun _ => rfl) (fun x => by cases x <;> rfl)
 case mapUpdate kk m k x =>
  simp only [DOp.eff]
  cases q : ev e k with
  | none => exact .fail _
  | some v => rw [h.ev q]; exact .on2 h x m (fun a b => with1 a fun a => effUpdate kk v a b) (fun _ => rfl) (fun x => by cases x <;> rfl)
 case mapEntry kk z m k => exact .on2 h k m (fun a b => with1 a fun a => effEntry kk z a b) (fun _ => rfl) (fun x => by cases x <;> rfl)
 case entryStore m s x =>
  simp only [DOp.eff]
  cases q : natOf (ev e s) with
  | none => exact .fail _
  | some v => rw [h.natOf q]; exact .on2 h x m (fun a b => with1 a fun a => effStamp v a b) (fun _ => rfl) (fun x => by cases x <;> rfl)
 case rangeStr x => exact .w1 h x _
 case nextStr it => exact .on h it effNext rfl
 case extract x i => exact .w1 h x _
 case len k x => exact .on h x (effLen k) (by cases k <;> rfl)
 case append es by' s x => exact .on2 h x s (fun a b => with1 a fun x => with1 b fun s => withCells es x fun new n => effAppend es by' s new n) (fun _ => rfl) (fun x => by cases x <;> rfl)
 case appendS el by' s x => exact .on2 h x s (fun a b => with1 a fun x => with1 b fun s => effAppendS el by' s x) (fun _ => rfl) (fun x => by cases x <;> rfl)
 case copy es d s => exact .on2 h s d (fun a b => with1 a fun s => with1 b fun d => withCells es s fun src n => effCopy es d src n) (fun _ => rfl) (fun x => by cases x <;> rfl)
 case clearSl z x => exact .on h x (effClear z) rfl
 case clearMap x => exact .on h x effClearMap rfl
 case min2 x y => exact .on2 h x y (effMin false) (fun _ => by rfl) (fun x => by cases x <;> first | rfl | (rename_i v; cases v <;> rfl))
 case max2 x y => exact .on2 h x y (effMin true) (fun _ => by rfl) (fun x => by cases x <;> first | rfl | (rename_i v; cases v <;> rfl))
 case call => exact .refl _
 case callV => exact .refl _
 case bad => exact .refl _
end
section
open Go
inductive Fr where
 | seq (b : DCode)
 | blk (id : Nat)
inductive Ctl where
 | code (c : DCode)
 | ops (os : List DOper)
 | res (x : Ex)
abbrev Post := Ex → Sl → Heap → Prop
section
variable (X : Cx) (pm : Perm)
/-- What is done next, when a piece of code has ended so. -/
def Res (x : Ex) (e : Env) (H : Heap) : List Fr → Post → Prop
 | [], Q => ∃ l, Agr e l ∧ Q x l H
 | .seq b :: ks, Q => match x with
   | .normal => ∃ x' e' H', Evt (fun m d => eval (X.K m d) pm m b e H = some (x', e', H')) ∧ Res x' e' H' ks Q
   | x => Res x e H ks Q
 | .blk id :: ks, Q => match x with
   | .exit i => if i = id then Res .normal e H ks Q else Res (.exit i) e H ks Q
   | x => Res x e H ks Q
def Sem (c : Ctl) (e : Env) (H : Heap) (ks : List Fr) (Q : Post) : Prop := match c with
 | .code c => ∃ x' e' H', Evt (fun m d => eval (X.K m d) pm m c e H = some (x', e', H')) ∧ Res X pm x' e' H' ks Q
 | .ops os => ∃ e' H', Evt (fun m d => evalOps (X.K m d) pm os e H = some (e', H')) ∧ Res X pm .normal e' H' ks Q
 | .res x => Res X pm x e H ks Q
def SemL (c : Ctl) (l : Sl) (H : Heap) (ks : List Fr) (Q : Post) : Prop := ∀ e, Agr e l → Sem X pm c e H ks Q
/-- A call stands here. -/
def CallAt (o : DOper) (f : FuncId) (args : List Rand) (os : List DOper) (l : Sl) (H : Heap) (ks : List Fr) (Q : Post) : Prop :=
 SemL X pm (.ops ({ o with op := .call f args } :: os)) l H ks Q
def CallVAt (o : DOper) (f : Rand) (args : List Rand) (os : List DOper) (l : Sl) (H : Heap) (ks : List Fr) (Q : Post) : Prop :=
 SemL X pm (.ops ({ o with op := .callV f args } :: os)) l H ks Q
def LoopAt (b : DCode) (l : Sl) (H : Heap) (ks : List Fr) (Q : Post) : Prop := SemL X pm (.code (.loop b)) l H ks Q
def DrawAt (os : List DOper) (cf : Option Conf) (l : Sl) (H : Heap) (ks : List Fr) (Q : Post) : Prop := SemL X pm (.code (.draw os cf)) l H ks Q
def DCode.sz : DCode → Nat
 | .skip | .exit _ | .ret | .bad _ => 2
 | .reg os | .draw os _ => os.length + 3
 | .seq a b => a.sz + b.sz + 3
 | .cond _ a b => a.sz + b.sz + 3
 | .block _ b => b.sz + 3
 | .loop b => b.sz + 3
def Fr.sz : Fr → Nat
 | .seq b => b.sz + 1
 | .blk _ => 1
def szs : List Fr → Nat
 | [] => 0
 | k :: ks => k.sz + szs ks
def Ctl.sz : Ctl → Nat
 | .code c => c.sz
 | .ops os => os.length + 2
 | .res _ => 1
def guardL (o : DOper) (l : Sl) : Option Bool := match o.guard with
 | none => some true
 | some (j, want) => match lk j l with
   | some (.bool b) => some (b == want)
   | some _ => some false
   | none => none
/-- An operation that is no call, done. -/
def stepL (o : DOper) (l : Sl) (H : Heap) : Option (Value × Heap) := match guardL o l with
 | some true => (o.op.eff (ofL l)).run pm H
 | some false => some (noRes, H)
 | none => none
def isCall : DOp → Bool
 | .call .. | .callV .. => true
 | _ => false
def wp (c : Ctl) (l : Sl) (H : Heap) (ks : List Fr) (Q : Post) : Prop := match c with
 | .code .skip => wp (.res .normal) l H ks Q
 | .code (.reg os) => wp (.ops os) l H ks Q
 | .code (.draw os cf) => DrawAt X pm os cf l H ks Q
 | .code (.seq a b) => wp (.code a) l H (.seq b :: ks) Q
 | .code (.cond c a b) => match ev (ofL l) c with
   | some (.bool t) => (t = true → wp (.code a) l H ks Q) ∧ (t = false → wp (.code b) l H ks Q)
   | _ => False
 | .code (.block id b) => wp (.code b) l H (.blk id :: ks) Q
 | .code (.loop b) => LoopAt X pm b l H ks Q
 | .code (.exit id) => wp (.res (.exit id)) l H ks Q
 | .code .ret => wp (.res .ret) l H ks Q
 | .code (.bad _) => False
 | .ops [] => wp (.res .normal) l H ks Q
 | .ops (o :: os) => match o.op with
   | .call f args => CallAt X pm o f args os l H ks Q
   | .callV f args => CallVAt X pm o f args os l H ks Q
   | _ => match stepL pm o l H with
     | some (v, H') => wp (.ops os) (putL l o.dst v) H' ks Q
     | none => False
 | .res x => match ks with
   | [] => Q x l H
   | .seq b :: ks => match x with
     | .normal => wp (.code b) l H ks Q
     | x => wp (.res x) l H ks Q
   | .blk id :: ks => match x with
     | .exit i => if i = id then wp (.res .normal) l H ks Q else wp (.res (.exit i)) l H ks Q
     | x => wp (.res x) l H ks Q
termination_by c.sz + szs ks
decreasing_by all_goals (simp_wf; simp [Ctl.sz, DCode.sz, szs, Fr.sz]; try omega)
end
section
variable {X : Cx} {pm : Perm}
theorem Sem.reg {os : List DOper} {e : Env} {H : Heap} {ks : List Fr} {Q : Post} (h : Sem X pm (.ops os) e H ks Q) : Sem X pm (.code (.reg os)) e H ks Q := by
 obtain ⟨e', H', h1, h2⟩ := h
 exact ⟨.normal, e', H', h1.map fun m d q => by simp only [eval, q], h2⟩
theorem Sem.seq {a b : DCode} {e : Env} {H : Heap} {ks : List Fr} {Q : Post} (h : Sem X pm (.code a) e H (.seq b :: ks) Q) : Sem X pm (.code (.seq a b)) e H ks Q := by
 obtain ⟨x, e', H', h1, h2⟩ := h
 cases x with
 | normal =>
   obtain ⟨x', e2, H2, h3, h4⟩ := h2
   exact ⟨x', e2, H2, h1.map2 h3 fun m d p q => by simp only [eval, p, q], h4⟩
 | exit i => exact ⟨.exit i, e', H', h1.map fun m d p => by simp only [eval, p], h2⟩
 | ret => exact ⟨.ret, e', H', h1.map fun m d p => by simp only [eval, p], h2⟩
theorem Sem.block {id : Nat} {b : DCode} {e : Env} {H : Heap} {ks : List Fr} {Q : Post} (h : Sem X pm (.code b) e H (.blk id :: ks) Q) : Sem X pm (.code (.block id b)) e H ks Q := by
 obtain ⟨x, e', H', h1, h2⟩ := h
 cases x with
 | normal => exact ⟨.normal, e', H', h1.map fun m d p => by simp only [eval, p], h2⟩
 | ret => exact ⟨.ret, e', H', h1.map fun m d p => by simp only [eval, p], h2⟩
 | exit i =>
   simp only [Res] at h2
   by_cases hi : i = id
   · rw [if_pos hi] at h2
     exact ⟨.normal, e', H', h1.map fun m d p => by simp only [eval, p, nbeq, hi, decide_true, cond_true], h2⟩
   · rw [if_neg hi] at h2
     exact ⟨.exit i, e', H', h1.map fun m d p => by simp only [eval, p, nbeq, hi, decide_false, cond_false], h2⟩
theorem wanted_le {e : Env} {l : Sl} (h : Agr e l) {o : DOper} {b : Bool} (q : guardL o l = some b) : o.wanted e = some b := by
 unfold guardL at q
 unfold DOper.wanted
 split at q
 · rename_i hg; rw [hg]; exact q
 · rename_i j want hg
   rw [hg]
   simp only
   cases hv : lk j l with
   | none => rw [hv] at q; cases q
   | some v => rw [h j v hv]; rw [hv] at q; exact q
theorem run_plain {K : Orc} {e : Env} {H : Heap} : ∀ {o : DOp}, isCall o = false → o.run K pm e H = (o.eff e).run pm H := by
 intro o h
 cases o <;> first | rfl | cases h
theorem wp_sound {c : Ctl} {l : Sl} {H : Heap} {ks : List Fr} {Q : Post} : wp X pm c l H ks Q → SemL X pm c l H ks Q := by
 fun_induction wp X pm c l H ks Q with
 | case1 l H ks ih => exact fun h e he => ⟨.normal, e, H, .of fun _ _ => rfl, ih h e he⟩
 | case2 l H ks os ih => exact fun h e he => (ih h e he).reg
 | case3 => exact fun h => h
 | case4 l H ks a b ih => exact fun h e he => (ih h e he).seq
 | case5 l H ks c a b t hc ih1 ih2 =>
   intro h e he
   have hc := he.ele.ev hc
   cases t with
   | true =>
     obtain ⟨x, e', H', h1, h2⟩ := ih1 (h.1 rfl) e he
     exact ⟨x, e', H', h1.map fun m d p => by simp only [eval, hc, p], h2⟩
   | false =>
     obtain ⟨x, e', H', h1, h2⟩ := ih2 (h.2 rfl) e he
     exact ⟨x, e', H', h1.map fun m d p => by simp only [eval, hc, p], h2⟩
 | case6 => exact fun h => h.elim
 | case7 l H ks id b ih => exact fun h e he => (ih h e he).block
 | case8 => exact fun h => h
 | case9 l H ks id ih => exact fun h e he => ⟨.exit id, e, H, .of fun _ _ => rfl, ih h e he⟩
 | case10 l H ks ih => exact fun h e he => ⟨.ret, e, H, .of fun _ _ => rfl, ih h e he⟩
 | case11 => exact fun h => h.elim
 | case12 l H ks ih => exact fun h e he => ⟨e, H, .of fun _ _ => rfl, ih h e he⟩
 | case13 l H ks o os f args ho =>
   intro h e he
   have : ({ o with op := .call f args } : DOper) = o := by cases o; simp only at ho; subst ho; rfl
   unfold CallAt at h
   rw [this] at h
   exact h e he
 | case14 l H ks o os f args ho =>
   intro h e he
   have : ({ o with op := .callV f args } : DOper) = o := by cases o; simp only at ho; subst ho; rfl
   unfold CallVAt at h
   rw [this] at h
   exact h e he
 | case15 l H ks o os v H' hs h1 h2 ih =>
   intro h e he
   have hcall : isCall o.op = false := by
    cases ho : o.op <;> first | rfl | exact absurd ho (h1 _ _) | exact absurd ho (h2 _ _)
   obtain ⟨e', H2, p1, p2⟩ := ih h _ (he.put o.dst v)
   refine ⟨e', H2, p1.map fun m d p => ?_, p2⟩
   have hr : o.run (X.K m d) pm e H = some (v, H') := by
    unfold stepL at hs
    unfold DOper.run
    split at hs
    · rename_i hg
      rw [wanted_le he hg]
      simp only
      rw [run_plain hcall]
      exact (eff_le he.ele _).run hs
    · rename_i hg
      rw [wanted_le he hg]
      exact hs
    · cases hs
   simp only [evalOps, hr, p]
 | case16 => exact fun h => h.elim
 | case17 l H x => exact fun h e he => ⟨l, he, h⟩
 | case18 l H b ks ih => exact fun h e he => ih h e he
 | case19 l H b ks x hx ih =>
   intro h e he
   have := ih h e he
   cases x with
   | normal => exact absurd rfl hx
   | exit i => exact this
   | ret => exact this
 | case20 l H id ks ih =>
   intro h e he
   have := ih h e he
   simp only [Sem, Res] at this ⊢
   simpa using this
 | case21 l H id ks i hi ih =>
   intro h e he
   have := ih h e he
   simp only [Sem, Res] at this ⊢
   rw [if_neg hi]
   exact this
 | case22 l H id ks x hx ih =>
   intro h e he
   have := ih h e he
   cases x with
   | normal => exact this
   | exit i => exact absurd rfl (hx i)
   | ret => exact this
end
end
section
open Go
section
variable {X : Cx} {pm : Perm}
theorem CallAt.of {o : DOper} {f : FuncId} {args : List Rand} {os : List DOper} {l : Sl} {H : Heap} {ks : List Fr} {Q : Post} {vs : List Value} {R : Value → Heap → Prop}
  (hg : guardL o l = some true) (ha : evs (ofL l) args = some vs) (h : Call X pm f vs H R) (k : ∀ v H1, R v H1 → wp X pm (.ops os) (putL l o.dst v) H1 ks Q) : CallAt X pm o f args os l H ks Q := by
 intro e he
 obtain ⟨v, H1, hr, hR⟩ := h
 obtain ⟨e', H', h1, h2⟩ := wp_sound (k v H1 hR) _ (he.put o.dst v)
 refine ⟨e', H', hr.map2 h1 fun m d p q => ?_, h2⟩
 have hw : ({ o with op := .call f args } : DOper).wanted e = some true := wanted_le he hg
 have hv := he.ele.evs ha
 simp only [evalOps, DOper.run, hw, DOp.run, hv, p, q]
theorem CallAt.not {o : DOper} {f : FuncId} {args : List Rand} {os : List DOper} {l : Sl} {H : Heap} {ks : List Fr} {Q : Post}
  (hg : guardL o l = some false) (k : wp X pm (.ops os) (putL l o.dst noRes) H ks Q) : CallAt X pm o f args os l H ks Q := by
 intro e he
 obtain ⟨e', H', h1, h2⟩ := wp_sound k _ (he.put o.dst noRes)
 refine ⟨e', H', h1.map fun m d q => ?_, h2⟩
 have hw : ({ o with op := .call f args } : DOper).wanted e = some false := wanted_le he hg
 simp only [evalOps, DOper.run, hw, q]
theorem CallVAt.of {o : DOper} {f : Rand} {args : List Rand} {os : List DOper} {l : Sl} {H : Heap} {ks : List Fr} {Q : Post} {vs : List Value} {R : Value → Heap → Prop} {g : FuncId} {fs cs : Array Value}
  (hg : guardL o l = some true) (hf : ev (ofL l) f = some (.func (.func g) fs cs)) (ha : evs (ofL l) args = some vs) (h : Call X pm g (vs ++ cs.toList) H R)
  (k : ∀ v H1, R v H1 → wp X pm (.ops os) (putL l o.dst v) H1 ks Q) : CallVAt X pm o f args os l H ks Q := by
 intro e he
 obtain ⟨v, H1, hr, hR⟩ := h
 obtain ⟨e', H', h1, h2⟩ := wp_sound (k v H1 hR) _ (he.put o.dst v)
 refine ⟨e', H', hr.map2 h1 fun m d p q => ?_, h2⟩
 have hw : ({ o with op := .callV f args } : DOper).wanted e = some true := wanted_le he hg
 have hv := he.ele.evs ha
 have hf := he.ele.ev hf
 simp only [evalOps, DOper.run, hw, DOp.run, hf, hv, p, q]
/-- Once more round: with these slots, this heap; and less is left. -/
def Again {σ : Type} (L : σ → Sl) (I : σ → Heap → Prop) (μ : σ → Nat) (s : σ) (l : Sl) (H : Heap) : Prop := ∃ s', μ s' < μ s ∧ Sub (L s') l ∧ I s' H
theorem Again.of {σ : Type} {L : σ → Sl} {I : σ → Heap → Prop} {μ : σ → Nat} {s : σ} {l : Sl} {H : Heap} (s' : σ) (h : μ s' < μ s) (hs : Sub (L s') l) (hi : I s' H) : Again L I μ s l H := ⟨s', h, hs, hi⟩
/-- A loop: L says which slots are known, I what holds of the heap, μ goes down. -/
theorem LoopAt.of {σ : Type} {b : DCode} {l : Sl} {H : Heap} {ks : List Fr} {Q : Post} (L : σ → Sl) (I : σ → Heap → Prop) (μ : σ → Nat) (s0 : σ) (hL : Sub (L s0) l) (hI : I s0 H)
  (step : ∀ s H, I s H → wp X pm (.code b) (L s) H [] fun x l' H' => match x with
   | .normal => Again L I μ s l' H'
   | x => wp X pm (.res x) l' H' ks Q) : LoopAt X pm b l H ks Q := by
 have key : ∀ n s e H, μ s ≤ n → Agr e (L s) → I s H → ∃ x e' H', (Evt fun m d => ∀ k, n + 1 ≤ k → iter (eval (X.K m d) pm m b) k e H = some (x, e', H')) ∧ Res X pm x e' H' ks Q := by
  intro n
  induction n with
  | zero =>
    intro s e H hn he hi
    obtain ⟨x, e', H', h1, l', h2, h3⟩ := wp_sound (step s H hi) e he
    cases x with
    | normal => obtain ⟨s', h4, _⟩ := h3; omega
    | exit i => exact ⟨.exit i, e', H', h1.map fun m d p k hk => by obtain ⟨k, rfl⟩ : ∃ j, k = j + 1 := ⟨k - 1, by omega⟩; simp only [iter, p], wp_sound h3 e' h2⟩
    | ret => exact ⟨.ret, e', H', h1.map fun m d p k hk => by obtain ⟨k, rfl⟩ : ∃ j, k = j + 1 := ⟨k - 1, by omega⟩; simp only [iter, p], wp_sound h3 e' h2⟩
  | succ n ih =>
    intro s e H hn he hi
    obtain ⟨x, e', H', h1, l', h2, h3⟩ := wp_sound (step s H hi) e he
    cases x with
    | normal =>
      obtain ⟨s', h4, h5, h6⟩ := h3
      obtain ⟨x2, e2, H2, g1, g2⟩ := ih s' e' H' (by omega) (h2.sub h5) h6
      exact ⟨x2, e2, H2, h1.map2 g1 fun m d p q k hk => by obtain ⟨k, rfl⟩ : ∃ j, k = j + 1 := ⟨k - 1, by omega⟩; simp only [iter, p]; exact q k (by omega), g2⟩
    | exit i => exact ⟨.exit i, e', H', h1.map fun m d p k hk => by obtain ⟨k, rfl⟩ : ∃ j, k = j + 1 := ⟨k - 1, by omega⟩; simp only [iter, p], wp_sound h3 e' h2⟩
    | ret => exact ⟨.ret, e', H', h1.map fun m d p k hk => by obtain ⟨k, rfl⟩ : ∃ j, k = j + 1 := ⟨k - 1, by omega⟩; simp only [iter, p], wp_sound h3 e' h2⟩
 intro e he
 obtain ⟨x, e', H', ⟨N, h1⟩, h2⟩ := key _ s0 e H (Nat.le_refl _) (he.sub hL) hI
 exact ⟨x, e', H', ⟨N + (μ s0 + 1), fun m d hm hd => by simp only [eval]; exact h1 m d (by omega) (by omega) m (by omega)⟩, h2⟩
def argsL : List Value → Nat → Sl → Sl
 | [], _, l => l
 | v :: vs, n, l => argsL vs (n + 1) ((n, v) :: l)
theorem agr_args : ∀ (vs : List Value) (n : Nat) (e : Env) (l : Sl), Agr e l → Agr (envOf vs n e) (argsL vs n l)
 | [], _, _, _, h => h
 | v :: vs, n, _, _, h => agr_args vs (n + 1) _ _ (h.put (some n) v)
def resL (l : Sl) (H : Heap) : List DRes → Option (List Value)
 | [] => some []
 | r :: rs => match (match r with | .slot t => lk t l | .cell t g n => loadOf H g n (lk t l)) with
   | some v => (match resL l H rs with | some l => some (v :: l) | none => none)
   | none => none
theorem Agr.res {e : Env} {l : Sl} (h : Agr e l) {H : Heap} : ∀ {rs : List DRes} {vs : List Value}, resL l H rs = some vs → resOf e H rs = some vs
 | [], _, q => q
 | r :: rs, vs, q => by
   simp only [resL] at q
   simp only [resOf]
   cases r with
   | slot t =>
     simp only at q ⊢
     cases h1 : lk t l with
     | none => rw [h1] at q; cases q
     | some v =>
       rw [h1] at q
       rw [h t v h1]
       cases h2 : resL l H rs with
       | none => simp only [h2] at q; cases q
       | some l => simp only [h2] at q; simp only [h.res h2]; exact q
   | cell t g n =>
     simp only at q ⊢
     cases h1 : lk t l with
     | none => rw [h1] at q; simp [loadOf] at q
     | some v =>
       rw [h1] at q
       rw [h t v h1]
       cases h3 : loadOf H g n (some v) with
       | none => rw [h3] at q; cases q
       | some u =>
         rw [h3] at q
         simp only at q ⊢
         cases h2 : resL l H rs with
         | none => simp only [h2] at q; cases q
         | some l => simp only [h2] at q; simp only [h.res h2]; exact q
/-- A function that has a body. -/
theorem Call.func {f : FuncId} {args : List Value} {H : Heap} {R : Value → Heap → Prop} {F : DFunc} (ho : X.ov f = none) (hT : X.T f = some F) (hn : args.length ≤ F.nt)
  (h : wp X pm (.code F.body) (argsL args 0 []) H [] fun x l H' => (x = .normal ∨ x = .ret) ∧ ∃ vs, resL l H' F.res = some vs ∧ R (tupOf vs) H') : Call X pm f args H R := by
 obtain ⟨x, e', H', ⟨N, h1⟩, l', h2, h3, vs, h4, h5⟩ := wp_sound h _ (agr_args args 0 .lf [] fun k v hk => by cases hk)
 refine ⟨tupOf vs, H', ⟨N + 1, fun m d hm hd => ?_⟩, h5⟩
 obtain ⟨d, rfl⟩ : ∃ j, d = j + 1 := ⟨d - 1, by omega⟩
 have h1 := h1 m d (by omega) (by omega)
 have hS : ∀ (K : Orc), X.S K pm f args H = K pm f args H := fun K => by unfold Cx.S; rw [ho]
 simp only [Cx.K, runK]
 rw [hS]
 simp only [hT]
 unfold evalF
 have hb : (!Nat.ble args.length F.nt) = false := by rw [nble]; simp [hn]
 rw [hb]
 have hres := h2.res h4
 have h1' : eval (runK X.T X.S m d) pm m F.body (envOf args 0 .lf) H = some (x, e', H') := h1
 rcases h3 with rfl | rfl <;> simp only [cond_false, h1', hres]
/-- What stands for a body. -/
theorem Call.over {f : FuncId} {args : List Value} {H H' : Heap} {v : Value} {R : Value → Heap → Prop} {g : Ovr} (ho : X.ov f = some g) (hg : g pm args H = some (v, H')) (h : R v H') : Call X pm f args H R := by
 refine ⟨v, H', ⟨1, fun m d _ hd => ?_⟩, h⟩
 obtain ⟨d, rfl⟩ : ∃ j, d = j + 1 := ⟨d - 1, by omega⟩
 simp only [Cx.K, runK]
 unfold Cx.S
 rw [ho]
 exact hg
theorem Call.mono {f : FuncId} {args : List Value} {H : Heap} {R R' : Value → Heap → Prop} (h : Call X pm f args H R) (g : ∀ v H', R v H' → R' v H') : Call X pm f args H R' :=
 let ⟨v, H', a, b⟩ := h; ⟨v, H', a, g v H' b⟩
end
/-! ### What is known of a heap -/
/-- Blocks in which digits may lie: a set that one chooses; new blocks belong to it. -/
class Foot where
 s : Nat → Prop
variable [Foot]
/-- Nothing lies beyond the next number; a new block has the next number, and may be written. -/
structure Ok (pm : Perm) (H : Heap) : Prop where
 num : pm.num = none
 lo : pm.lo ≤ H.next
 wf : ∀ b, H.next ≤ b → H.get b = none
 new : ∀ b, H.next ≤ b → Foot.s b
theorem Ok.lt {pm : Perm} {H : Heap} (h : Ok pm H) {b : Nat} {x : Blk} (e : H.get b = some x) : b < H.next := by
 apply Classical.byContradiction
 intro hb
 rw [h.wf b (by omega)] at e
 cases e
theorem Ok.may {pm : Perm} {H : Heap} (h : Ok pm H) {b : Nat} (hb : H.next ≤ b) : pm.may b = true := by
 unfold Perm.may
 rw [nble]
 have : pm.lo ≤ b := Nat.le_trans h.lo hb
 simp [this]
/-- From one heap to a later one: what lay there lies there. -/
structure Keep (pm : Perm) (H H' : Heap) : Prop where
 ok : Ok pm H'
 next : H.next ≤ H'.next
 get : ∀ b, b < H.next → H'.get b = H.get b
theorem Keep.refl {pm : Perm} {H : Heap} (h : Ok pm H) : Keep pm H H := ⟨h, Nat.le_refl _, fun _ _ => rfl⟩
theorem Keep.trans {pm : Perm} {H H' H'' : Heap} (h : Keep pm H H') (g : Keep pm H' H'') : Keep pm H H'' :=
 ⟨g.ok, Nat.le_trans h.next g.next, fun b hb => (g.get b (Nat.lt_of_lt_of_le hb h.next)).trans (h.get b hb)⟩
theorem Keep.new {pm : Perm} {H H' : Heap} (h : Keep pm H H') (x : Blk) : Keep pm H (H'.new x) where
 ok := ⟨h.ok.num, Nat.le_trans h.ok.lo (Nat.le_succ _), fun b hb => by
  have hb : H'.next + 1 ≤ b := hb
  rw [Heap.get_new, if_neg (by omega)]; exact h.ok.wf b (by omega), fun b hb => h.ok.new b (Nat.le_of_succ_le hb)⟩
 next := Nat.le_trans h.next (Nat.le_succ _)
 get := fun b hb => by rw [Heap.get_new, if_neg (by have := h.next; omega)]; exact h.get b hb
theorem Keep.put {pm : Perm} {H H' : Heap} (h : Keep pm H H') {b : Nat} {y : Blk} (hb : H.next ≤ b) (hy : H'.get b = some y) (x : Blk) : Keep pm H (H'.put b x) where
 ok := ⟨h.ok.num, h.ok.lo, fun c hc => by
  have hc : H'.next ≤ c := hc
  have := h.ok.lt hy
  rw [Heap.get_put, if_neg (by omega)]; exact h.ok.wf c hc, fun b hb => h.ok.new b hb⟩
 next := h.next
 get := fun c hc => by rw [Heap.get_put, if_neg (by omega)]; exact h.get c hc
theorem Keep.some {pm : Perm} {H H' : Heap} (h : Keep pm H H') (ho : Ok pm H) {b : Nat} {x : Blk} (e : H.get b = some x) : H'.get b = some x := by rw [h.get b (ho.lt e)]; exact e
end
section
open Go
/-! ### What an operation does, in words that simp takes -/
section
variable {X : Cx} {pm : Perm}
@[simp] theorem wp_skip {l : Sl} {H : Heap} {ks : List Fr} {Q : Post} : wp X pm (.code .skip) l H ks Q = wp X pm (.res .normal) l H ks Q := by rw [wp]
@[simp] theorem wp_reg {os : List DOper} {l : Sl} {H : Heap} {ks : List Fr} {Q : Post} : wp X pm (.code (.reg os)) l H ks Q = wp X pm (.ops os) l H ks Q := by rw [wp]
@[simp] theorem wp_draw {os : List DOper} {cf : Option Conf} {l : Sl} {H : Heap} {ks : List Fr} {Q : Post} : wp X pm (.code (.draw os cf)) l H ks Q = DrawAt X pm os cf l H ks Q := by rw [wp]
@[simp] theorem wp_seq {a b : DCode} {l : Sl} {H : Heap} {ks : List Fr} {Q : Post} : wp X pm (.code (.seq a b)) l H ks Q = wp X pm (.code a) l H (.seq b :: ks) Q := by rw [wp]
@[simp] theorem wp_block {i : Nat} {b : DCode} {l : Sl} {H : Heap} {ks : List Fr} {Q : Post} : wp X pm (.code (.block i b)) l H ks Q = wp X pm (.code b) l H (.blk i :: ks) Q := by rw [wp]
@[simp] theorem wp_loop {b : DCode} {l : Sl} {H : Heap} {ks : List Fr} {Q : Post} : wp X pm (.code (.loop b)) l H ks Q = LoopAt X pm b l H ks Q := by rw [wp]
@[simp] theorem wp_exit {i : Nat} {l : Sl} {H : Heap} {ks : List Fr} {Q : Post} : wp X pm (.code (.exit i)) l H ks Q = wp X pm (.res (.exit i)) l H ks Q := by rw [wp]
@[simp] theorem wp_ret {l : Sl} {H : Heap} {ks : List Fr} {Q : Post} : wp X pm (.code .ret) l H ks Q = wp X pm (.res .ret) l H ks Q := by rw [wp]
@[simp] theorem wp_nil {l : Sl} {H : Heap} {ks : List Fr} {Q : Post} : wp X pm (.ops []) l H ks Q = wp X pm (.res .normal) l H ks Q := by rw [wp]
@[simp] theorem wp_end {x : Ex} {l : Sl} {H : Heap} {Q : Post} : wp X pm (.res x) l H [] Q = Q x l H := by rw [wp]
@[simp] theorem wp_then {b : DCode} {l : Sl} {H : Heap} {ks : List Fr} {Q : Post} : wp X pm (.res .normal) l H (.seq b :: ks) Q = wp X pm (.code b) l H ks Q := by rw [wp]
@[simp] theorem wp_then_exit {i : Nat} {b : DCode} {l : Sl} {H : Heap} {ks : List Fr} {Q : Post} : wp X pm (.res (.exit i)) l H (.seq b :: ks) Q = wp X pm (.res (.exit i)) l H ks Q := by rw [wp]; intro h; cases h
@[simp] theorem wp_then_ret {b : DCode} {l : Sl} {H : Heap} {ks : List Fr} {Q : Post} : wp X pm (.res .ret) l H (.seq b :: ks) Q = wp X pm (.res .ret) l H ks Q := by rw [wp]; intro h; cases h
@[simp] theorem wp_blk_normal {i : Nat} {l : Sl} {H : Heap} {ks : List Fr} {Q : Post} : wp X pm (.res .normal) l H (.blk i :: ks) Q = wp X pm (.res .normal) l H ks Q := by rw [wp]; intro i h; cases h
@[simp] theorem wp_blk_ret {i : Nat} {l : Sl} {H : Heap} {ks : List Fr} {Q : Post} : wp X pm (.res .ret) l H (.blk i :: ks) Q = wp X pm (.res .ret) l H ks Q := by rw [wp]; intro i h; cases h
@[simp] theorem wp_blk_exit {i j : Nat} {l : Sl} {H : Heap} {ks : List Fr} {Q : Post} : wp X pm (.res (.exit i)) l H (.blk j :: ks) Q = if i = j then wp X pm (.res .normal) l H ks Q else wp X pm (.res (.exit i)) l H ks Q := by rw [wp]
@[simp] theorem wp_cond {c : Rand} {a b : DCode} {l : Sl} {H : Heap} {ks : List Fr} {Q : Post} : wp X pm (.code (.cond c a b)) l H ks Q = (match ev (ofL l) c with
  | some (.bool t) => (t = true → wp X pm (.code a) l H ks Q) ∧ (t = false → wp X pm (.code b) l H ks Q)
  | _ => False) := by rw [wp] <;> rfl
@[simp] theorem wp_op {o : DOper} {os : List DOper} {l : Sl} {H : Heap} {ks : List Fr} {Q : Post} : wp X pm (.ops (o :: os)) l H ks Q = (match o.op with
  | .call f args => CallAt X pm o f args os l H ks Q
  | .callV f args => CallVAt X pm o f args os l H ks Q
  | _ => match stepL pm o l H with
    | some (v, H') => wp X pm (.ops os) (putL l o.dst v) H' ks Q
    | none => False) := by rw [wp] <;> rfl
end
@[simp] theorem ofL_getS (l : Sl) (k : Nat) : (ofL l).get k = lk k l := ofL_get l k
@[simp] theorem lk_cons (k j : Nat) (v : Value) (l : Sl) : lk k ((j, v) :: l) = if k = j then some v else lk k l := by
  simp only [lk, nbeq]
  by_cases h : k = j <;> simp [h]
@[simp] theorem lk_nil (k : Nat) : lk k [] = none := rfl
@[simp] theorem ev_t (e : Env) (k : Nat) : ev e (.t k) = e.get k := rfl
@[simp] theorem ev_c (e : Env) (v : Value) : ev e (.c v) = some v := rfl
@[simp] theorem putL_some (l : Sl) (d : Nat) (v : Value) : putL l (some d) v = (d, v) :: l := rfl
@[simp] theorem putL_none (l : Sl) (v : Value) : putL l none v = l := rfl
@[simp] theorem evs_nil (e : Env) : evs e [] = some [] := rfl
@[simp] theorem evs_cons (e : Env) (r : Rand) (rs : List Rand) : evs e (r :: rs) = (match ev e r with | some v => (match evs e rs with | some l => some (v :: l) | none => none) | none => none) := rfl
@[simp] theorem Sub_nil (l : Sl) : Sub [] l = True := rfl
@[simp] theorem Sub_cons (k : Nat) (v : Value) (L l : Sl) : Sub ((k, v) :: L) l = (lk k l = some v ∧ Sub L l) := rfl
@[simp] theorem guardL_none (d : Option Nat) (x : DOp) (l : Sl) : guardL ⟨d, none, x⟩ l = some true := rfl
@[simp] theorem guardL_some (d : Option Nat) (j : Nat) (b : Bool) (x : DOp) (l : Sl) : guardL ⟨d, some (j, b), x⟩ l = (match lk j l with | some (.bool c) => some (c == b) | some _ => some false | none => none) := rfl
@[simp] theorem stepL_eq (pm : Perm) (o : DOper) (l : Sl) (H : Heap) : stepL pm o l H = (match guardL o l with
  | some true => (o.op.eff (ofL l)).run pm H
  | some false => some (noRes, H)
  | none => none) := rfl
attribute [simp] pkEq DOp.eff with1 retO Eff.run effLoad effStore putRow effLen effIxSl effIxArr effIxStr effConv effSlStr effMin withCells
@[simp] theorem rowOf_cells (cs : List Value) (z : Zk) : rowOf (.cells cs z) = some cs := rfl
@[simp] theorem rowOf_ro (cs : List Value) : rowOf (.ro cs) = some cs := rfl
attribute [simp] pickCells evParts optNat fill tupOf resL argsL unOp binOp plainOp valEq eqNil primEq
@[simp] theorem zval_n (k : Nat) : (Zk.n k).val = k := rfl
@[simp] theorem zval_t (t : TypeId) : (Zk.t t).val = 0 := rfl
attribute [simp] ltI_eq eqI_eq
@[simp] theorem natOf_cast (k : IntKind) (n : Nat) : natOf (some (.int k (n : Int))) = some n := rfl
@[simp] theorem natOf_zero (k : IntKind) : natOf (some (.int k 0)) = some 0 := rfl
@[simp] theorem natOf_one (k : IntKind) : natOf (some (.int k 1)) = some 1 := rfl
@[simp] theorem natOf_lit (k : IntKind) (n : Nat) : natOf (some (.int k (no_index (OfNat.ofNat n)))) = some (OfNat.ofNat n) := rfl
@[simp] theorem natOf_add (k : IntKind) (a b : Nat) : natOf (some (.int k ((a : Int) + (b : Int)))) = some (a + b) := rfl
@[simp] theorem natOf_add1 (k : IntKind) (a : Nat) : natOf (some (.int k ((a : Int) + 1))) = some (a + 1) := rfl
@[simp] theorem natOf_addl (k : IntKind) (a n : Nat) : natOf (some (.int k ((a : Int) + (no_index (OfNat.ofNat n))))) = some (a + OfNat.ofNat n) := rfl
@[simp] theorem shl_cast (k k' : IntKind) (a : Int) (n : Nat) : shiftOp .shl (.int k a) (.int k' (n : Int)) = some (.int k (wr k (a * 2 ^ (min n k.bits)))) := rfl
@[simp] theorem shl_lit (k k' : IntKind) (a : Int) (n : Nat) : shiftOp .shl (.int k a) (.int k' (no_index (OfNat.ofNat n))) = some (.int k (wr k (a * 2 ^ (min (OfNat.ofNat n) k.bits)))) := rfl
@[simp] theorem shr_cast (k k' : IntKind) (a : Int) (n : Nat) : shiftOp .shr (.int k a) (.int k' (n : Int)) = some (.int k (a.fdiv (2 ^ (min n k.bits)))) := rfl
@[simp] theorem shr_lit (k k' : IntKind) (a : Int) (n : Nat) : shiftOp .shr (.int k a) (.int k' (no_index (OfNat.ofNat n))) = some (.int k (a.fdiv (2 ^ (min (OfNat.ofNat n) k.bits)))) := rfl
@[simp] theorem intOp_add (k : IntKind) (a b : Int) : intOp .add k a b = some (.int k (wr k (a + b))) := rfl
@[simp] theorem intOp_sub (k : IntKind) (a b : Int) : intOp .sub k a b = some (.int k (wr k (a - b))) := rfl
@[simp] theorem intOp_mul (k : IntKind) (a b : Int) : intOp .mul k a b = some (.int k (wr k (a * b))) := rfl
theorem intOp_quo (k : IntKind) (a b : Int) (h : b ≠ 0) : intOp .quo k a b = some (.int k (wr k (a.tdiv b))) := by
 show (bif eqI b 0 then none else _) = _
 rw [Dam.eqI_eq, show (b == 0) = false by simpa using h]; rfl
theorem intOp_rem (k : IntKind) (a b : Int) (h : b ≠ 0) : intOp .rem k a b = some (.int k (a.tmod b)) := by
 show (bif eqI b 0 then none else _) = _
 rw [Dam.eqI_eq, show (b == 0) = false by simpa using h]; rfl
attribute [simp] intOp_quo intOp_rem
@[simp] theorem intOp_eql (k : IntKind) (a b : Int) : intOp .eql k a b = some (.bool (eqI a b)) := rfl
@[simp] theorem intOp_neq (k : IntKind) (a b : Int) : intOp .neq k a b = some (.bool (!eqI a b)) := rfl
@[simp] theorem intOp_lss (k : IntKind) (a b : Int) : intOp .lss k a b = some (.bool (ltI a b)) := rfl
@[simp] theorem intOp_leq (k : IntKind) (a b : Int) : intOp .leq k a b = some (.bool (!ltI b a)) := rfl
@[simp] theorem intOp_gtr (k : IntKind) (a b : Int) : intOp .gtr k a b = some (.bool (ltI b a)) := rfl
@[simp] theorem intOp_geq (k : IntKind) (a b : Int) : intOp .geq k a b = some (.bool (!ltI a b)) := rfl
theorem or_u64 {a b : Nat} (ha : a < 18446744073709551616) (hb : b < 18446744073709551616) : intOp .or .u64 (a : Int) (b : Int) = some (.int .u64 ((a ||| b : Nat) : Int)) := by
 have h : a ||| b < 18446744073709551616 := Nat.or_lt_two_pow (n := 64) ha hb
 show some (Value.int .u64 (IntKind.wrap .u64 ((BitVec.ofInt 64 (a : Int) ||| BitVec.ofInt 64 (b : Int)).toNat : Int))) = _
 rw [BitVec.ofInt_natCast, BitVec.ofInt_natCast, BitVec.toNat_or, BitVec.toNat_ofNat, BitVec.toNat_ofNat, Nat.mod_eq_of_lt (by omega), Nat.mod_eq_of_lt (by omega)]
 simp [IntKind.wrap, IntKind.bits, IntKind.signed]
 omega
theorem and_u64 {a b : Nat} (ha : a < 18446744073709551616) (hb : b < 18446744073709551616) : intOp .and .u64 (a : Int) (b : Int) = some (.int .u64 ((a &&& b : Nat) : Int)) := by
 have h : a &&& b < 18446744073709551616 := Nat.lt_of_le_of_lt Nat.and_le_left ha
 show some (Value.int .u64 (IntKind.wrap .u64 ((BitVec.ofInt 64 (a : Int) &&& BitVec.ofInt 64 (b : Int)).toNat : Int))) = _
 rw [BitVec.ofInt_natCast, BitVec.ofInt_natCast, BitVec.toNat_and, BitVec.toNat_ofNat, BitVec.toNat_ofNat, Nat.mod_eq_of_lt (by omega), Nat.mod_eq_of_lt (by omega)]
 simp [IntKind.wrap, IntKind.bits, IntKind.signed]
 omega
theorem or_u32 {a b : Nat} (ha : a < 4294967296) (hb : b < 4294967296) : intOp .or .u32 (a : Int) (b : Int) = some (.int .u32 ((a ||| b : Nat) : Int)) := by
 have h : a ||| b < 4294967296 := Nat.or_lt_two_pow (n := 32) ha hb
 show some (Value.int .u32 (IntKind.wrap .u32 ((BitVec.ofInt 32 (a : Int) ||| BitVec.ofInt 32 (b : Int)).toNat : Int))) = _
 rw [BitVec.ofInt_natCast, BitVec.ofInt_natCast, BitVec.toNat_or, BitVec.toNat_ofNat, BitVec.toNat_ofNat, Nat.mod_eq_of_lt (by omega), Nat.mod_eq_of_lt (by omega)]
 simp [IntKind.wrap, IntKind.bits, IntKind.signed]
 omega
theorem or_add {a b i : Nat} (hb : b < 2 ^ i) : (a * 2 ^ i) ||| b = a * 2 ^ i + b := by
 rw [Nat.mul_comm]; exact (Nat.two_pow_add_eq_or_of_lt hb a).symm
@[simp] theorem tdiv_cast (a b : Nat) : ((a : Int)).tdiv (b : Int) = ((a / b : Nat) : Int) := rfl
@[simp] theorem tmod_cast (a b : Nat) : ((a : Int)).tmod (b : Int) = ((a % b : Nat) : Int) := rfl
theorem tdiv_lit (a n : Nat) : ((a : Int)).tdiv (no_index (OfNat.ofNat n)) = ((a / OfNat.ofNat n : Nat) : Int) := rfl
theorem tmod_lit (a n : Nat) : ((a : Int)).tmod (no_index (OfNat.ofNat n)) = ((a % OfNat.ofNat n : Nat) : Int) := rfl
attribute [simp] tdiv_lit tmod_lit
theorem lit_lt (a n : Nat) : ((no_index (OfNat.ofNat n) : Int) < (a : Int)) = (OfNat.ofNat n < a) := by apply propext; exact Int.ofNat_lt
theorem lt_lit (a n : Nat) : ((a : Int) < (no_index (OfNat.ofNat n) : Int)) = (a < OfNat.ofNat n) := by apply propext; exact Int.ofNat_lt
theorem lit_le (a n : Nat) : ((no_index (OfNat.ofNat n) : Int) ≤ (a : Int)) = (OfNat.ofNat n ≤ a) := by apply propext; exact Int.ofNat_le
theorem le_lit (a n : Nat) : ((a : Int) ≤ (no_index (OfNat.ofNat n) : Int)) = (a ≤ OfNat.ofNat n) := by apply propext; exact Int.ofNat_le
theorem eq_lit (a n : Nat) : ((a : Int) = (no_index (OfNat.ofNat n) : Int)) = (a = OfNat.ofNat n) := by apply propext; exact Int.ofNat_inj
attribute [simp] lit_lt lt_lit lit_le le_lit eq_lit
@[simp] theorem bits_u64 : IntKind.bits .u64 = 64 := rfl
@[simp] theorem bits_u32 : IntKind.bits .u32 = 32 := rfl
@[simp] theorem bits_i64 : IntKind.bits .i64 = 64 := rfl
theorem fdiv_cast (a b : Nat) : ((a : Int)).fdiv ((b : Nat) : Int) = ((a / b : Nat) : Int) := by
 rw [Int.fdiv_eq_ediv_of_nonneg _ (by omega)]
 rfl
@[simp] theorem fdiv_32 (a : Nat) : ((a : Int)).fdiv 4294967296 = ((a / 4294967296 : Nat) : Int) := fdiv_cast a 4294967296
attribute [simp] nble nblt nbeq Bool.cond_decide
@[simp] theorem oneCell_int (k : IntKind) (n : Int) : oneCellV (.int k n) = true := rfl
@[simp] theorem oneCell_bool (b : Bool) : oneCellV (.bool b) = true := rfl
@[simp] theorem oneCell_str (s : ByteArray) : oneCellV (.string s) = true := rfl
@[simp] theorem oneCell_ptr (a : Option Addr) : oneCellV (.pointer a) = true := rfl
@[simp] theorem oneCell_slc (a : Option Addr) (n c : Nat) : oneCellV (.slice a n c) = true := rfl
@[simp] theorem cells_int (k : IntKind) (n : Int) : (Value.int k n).cells = #[.int k n] := rfl
@[simp] theorem cells_bool (b : Bool) : (Value.bool b).cells = #[.bool b] := rfl
@[simp] theorem cells_str (s : ByteArray) : (Value.string s).cells = #[.string s] := rfl
@[simp] theorem cells_ptr (a : Option Addr) : (Value.pointer a).cells = #[.pointer a] := rfl
@[simp] theorem cells_slc (a : Option Addr) (n c : Nat) : (Value.slice a n c).cells = #[.slice a n c] := rfl
@[simp] theorem cells_agg (a : Array Value) : (Value.agg a).cells = a := rfl
@[simp] theorem aggOf_cells (l : List Value) : (aggOf l).cells = l.toArray := rfl
theorem setCells_one {cs : List Value} {i : Nat} {v : Value} (h : i < cs.length) : setCells cs i [v] = some (cs.set i v) := by
 simp only [setCells, nble, List.length_singleton]
 rw [decide_eq_true (by omega)]
 simp only [cond_true]
 rw [List.set_eq_take_append_cons_drop, if_pos h]
 simp
theorem setCells_all {cs vs : List Value} (h : cs.length = vs.length) : setCells cs 0 vs = some vs := by
 simp only [setCells, nble]
 rw [decide_eq_true (by omega)]
 simp [h]
@[simp] theorem cast_neg (k : Nat) : ((k : Int) < 0) = False := by simp
attribute [simp] setCells_one setCells_all
theorem Ok.pick [Foot] {pm : Perm} {H : Heap} (h : Ok pm H) (H2 : Heap) : pm.pick H2 = H2.next := by unfold Perm.pick; rw [h.num]
theorem Ok.make [Foot] {pm : Perm} {H : Heap} (h : Ok pm H) (H2 : Heap) (x : Blk) : pm.make H2 x = H2.new x := by unfold Perm.make; rw [h.num]
theorem mk_run [Foot] {pm : Perm} {H : Heap} (ho : Ok pm H) {H2 : Heap} {z : List Value} {bytes c : Nat} (h1 : c ≤ 1073741824) (h2 : bytes * c ≤ 17179869184) :
  (effMk z bytes (some c) (some c)).run pm H2 = some (.slice (some ⟨H2.next, 0, none⟩) c c, H2.new (.cells (times z c) (.n z.length))) := by
 unfold effMk
 simp [h1, h2, Eff.run, ho.make, ho.pick]
/-- A part of a slice. -/
theorem slSl_cells {pm : Perm} {H : Heap} {esz l h m cap c off : Nat} {cs : List Value} {z : Zk} (hb : H.get c = some (.cells cs z)) (hz : z.val = esz ∨ z.val = 0) (h1 : l ≤ h) (h2 : h ≤ m) (h3 : m ≤ cap) :
  (effSlSl esz (some ⟨c, off, none⟩) l h m cap).run pm H = some (.slice (some ⟨c, off + l * esz, none⟩) (h - l) (m - l), H) := by
 unfold effSlSl
 simp [h1, h2, h3, hb, Eff.run]
 rcases hz with hz | hz <;> simp [hz]
theorem slSl_ro {pm : Perm} {H : Heap} {esz l h m cap c off : Nat} {cs : List Value} (hb : H.get c = some (.ro cs)) (h1 : l ≤ h) (h2 : h ≤ m) (h3 : m ≤ cap) :
  (effSlSl esz (some ⟨c, off, none⟩) l h m cap).run pm H = some (.slice (some ⟨c, off + l * esz, none⟩) (h - l) (m - l), H) := by
 unfold effSlSl
 simp [h1, h2, h3, hb, Eff.run]
theorem slSl_nil {pm : Perm} {H : Heap} {esz l h m cap : Nat} (h1 : l ≤ h) (h2 : h ≤ m) (h3 : m ≤ cap) :
  (effSlSl esz none l h m cap).run pm H = some (.slice none (h - l) (m - l), H) := by
 unfold effSlSl
 simp [h1, h2, h3, Eff.run]
theorem get_new_lt {H : Heap} {x : Blk} {b : Nat} (h : b < H.next) : (H.new x).get b = H.get b := by rw [Heap.get_new, if_neg (by omega)]
@[simp] theorem get_new_next {H : Heap} {x : Blk} : (H.new x).get H.next = some x := by rw [Heap.get_new, if_pos rfl]
@[simp] theorem get_put_same {H : Heap} {x : Blk} {b : Nat} : (H.put b x).get b = some x := by rw [Heap.get_put, if_pos rfl]
theorem get_put_ne {H : Heap} {x : Blk} {b c : Nat} (h : c ≠ b) : (H.put b x).get c = H.get c := by rw [Heap.get_put, if_neg h]
@[simp] theorem new_next {H : Heap} {x : Blk} : (H.new x).next = H.next + 1 := rfl
@[simp] theorem put_next {H : Heap} {x : Blk} {b : Nat} : (H.put b x).next = H.next := rfl
@[simp] theorem pick_none (lo : Nat) (ok : List Nat) (H : Heap) : (Perm.mk lo ok none).pick H = H.next := rfl
end
section
open Go
/-! ### Regions whose order is drawn -/
def Heap.up (H : Heap) (n : Nat) : Heap := ⟨H.t, H.next + n⟩
@[simp] theorem up_get (H : Heap) (n b : Nat) : (H.up n).get b = H.get b := rfl
@[simp] theorem up_next (H : Heap) (n : Nat) : (H.up n).next = H.next + n := rfl
theorem Keep.up [Foot] {pm : Perm} {H H' : Heap} (h : Keep pm H H') (n : Nat) : Keep pm H (H'.up n) where
 ok := ⟨h.ok.num, Nat.le_trans h.ok.lo (Nat.le_add_right _ _), fun b hb => by rw [up_get]; exact h.ok.wf b (Nat.le_trans (Nat.le_add_right _ _) hb), fun b hb => h.ok.new b (Nat.le_trans (Nat.le_add_right _ _) hb)⟩
 next := Nat.le_trans h.next (Nat.le_add_right _ _)
 get := fun b hb => h.get b hb
/-- What a load would yield elsewhere. -/
def againL (o : DOper) (l : Sl) (H : Heap) : Option Value := match guardL o l, o.op with
 | some true, .load agg n a => loadOf H agg n (ev (ofL l) a)
 | _, _ => none
/-- One record stands for another one. -/
def RecLe (r r' : Rec) : Prop := r'.foot = r.foot ∧ r'.mods = r.mods ∧ r'.heap = r.heap ∧ r'.val = r.val ∧ ∀ H u, r.again H = some u → r'.again H = some u
inductive RecsLe : List Rec → List Rec → Prop
 | nil : RecsLe [] []
 | cons {r r' : Rec} {l l' : List Rec} (h : RecLe r r') (t : RecsLe l l') : RecsLe (r :: l) (r' :: l')
/-- What an operation that is no call does, with what it looked at and wrote. -/
def stepT (pm : Perm) (o : DOper) (l : Sl) (H : Heap) : Option (Value × Heap × List Nat × List Nat) := match guardL o l with
 | some true => (o.op.eff (ofL l)).runT pm H
 | some false => some (noRes, H, [], [])
 | none => none
section
variable (X : Cx) (pm : Perm)
abbrev Fin := List Rec → Sl → Heap → Prop
/-- The rest of a drawn region, in the reference order. -/
def SemD (fx : List Bool) (os : List DOper) (b : Nat) (e : Env) (H : Heap) (acc : List Rec) (fin : Fin) : Prop :=
 ∃ e' H' recs, Evt (fun m d => evalT (X.K m d) pm os b fx e H = some (e', H', recs)) ∧ ∃ l' recs', Agr e' l' ∧ RecsLe recs' recs ∧ fin (acc.reverse ++ recs') l' H'
def SemDL (fx : List Bool) (os : List DOper) (b : Nat) (l : Sl) (H : Heap) (acc : List Rec) (fin : Fin) : Prop := ∀ e, Agr e l → SemD X pm fx os b e H acc fin
def CallD (o : DOper) (f : FuncId) (args : List Rand) (fx : List Bool) (os : List DOper) (b0 k : Nat) (l : Sl) (H : Heap) (acc : List Rec) (fin : Fin) : Prop :=
 SemDL X pm fx ({ o with op := .call f args } :: os) (b0 + k) l H acc fin
def wpD (fx : List Bool) (os : List DOper) (b0 k : Nat) (l : Sl) (H : Heap) (acc : List Rec) (fin : Fin) : Prop := match os with
 | [] => fin acc.reverse l H
 | o :: os => match o.op with
   | .call f args => CallD X pm o f args fx os b0 k l H acc fin
   | .callV .. => False
   | _ => H.get (b0 + k) = none ∧ (match stepT ⟨pm.lo, pm.ok, some (b0 + k)⟩ o l H with
     | some (v, H', f, m) => wpD fx.tail os b0 (k + 1) (putL l o.dst v) H' (⟨f, m, H, v, againL o l⟩ :: acc) fin
     | none => False)
end
theorem again_le {e : Env} {l : Sl} (he : Agr e l) {o : DOper} {H : Heap} {u : Value} (h : againL o l H = some u) : o.again e H = some u := by
 unfold againL at h
 unfold DOper.again
 split at h
 · rename_i agg n a hg ho
   rw [wanted_le he hg, ho]
   simp only
   cases hv : ev (ofL l) a with
   | none => rw [hv] at h; simp [loadOf] at h
   | some v => rw [he.ele.ev hv]; rw [hv] at h; exact h
 · cases h
theorem wanted_leT {e : Env} {l : Sl} (he : Agr e l) {o : DOper} {K : Orc} {pm : Perm} {fx : Bool} {H : Heap} {r : Value × Heap × List Nat × List Nat} (hc : isCall o.op = false) (hs : stepT pm o l H = some r) : o.runT K pm fx e H = some r := by
 unfold stepT at hs
 unfold DOper.runT
 split at hs
 · rename_i hg
   rw [wanted_le he hg]
   simp only
   have : o.op.cl = false := by cases ho : o.op <;> first | rfl | (rw [ho] at hc; cases hc)
   unfold DOp.runT
   rw [this]
   exact (eff_le he.ele _).runT hs
 · rename_i hg
   rw [wanted_le he hg]
   exact hs
 · cases hs
section
variable {X : Cx} {pm : Perm}
theorem wpD_sound {fin : Fin} : ∀ {os : List DOper} {fx : List Bool} {b0 k : Nat} {l : Sl} {H : Heap} {acc : List Rec}, wpD X pm fx os b0 k l H acc fin → SemDL X pm fx os (b0 + k) l H acc fin
 | [], fx, b0, k, l, H, acc, h, e, he => ⟨e, H, [], .of fun _ _ => by simp only [evalT], l, [], he, .nil, by simpa [wpD] using h⟩
 | o :: os, fx, b0, k, l, H, acc, h, e, he => by
   have plain : isCall o.op = false → (H.get (b0 + k) = none ∧ (match stepT ⟨pm.lo, pm.ok, some (b0 + k)⟩ o l H with
    | some (v, H', f, m) => wpD X pm fx.tail os b0 (k + 1) (putL l o.dst v) H' (⟨f, m, H, v, againL o l⟩ :: acc) fin
    | none => False)) → SemD X pm fx (o :: os) (b0 + k) e H acc fin := by
    rintro hc ⟨hb, h⟩
    split at h
    · rename_i v H1 f m hs
      obtain ⟨e', H', recs, h1, l', rs', h2, h4, h3⟩ := wpD_sound h _ (he.put o.dst v)
      refine ⟨e', H', ⟨f, m, H, v, o.again e⟩ :: recs, h1.map fun m d p => ?_, l', ⟨f, m, H, v, againL o l⟩ :: rs', h2, .cons ⟨rfl, rfl, rfl, rfl, fun _ _ => again_le he⟩ h4, by simpa using h3⟩
      have hr := wanted_leT (K := X.K m d) (fx := fx.headD false) he hc hs
      simp only [evalT, hb, hr, Nat.add_assoc, p]
    · exact h.elim
   unfold wpD at h
   split at h
   · rename_i f args ho
     have : ({ o with op := .call f args } : DOper) = o := by cases o; simp only at ho; subst ho; rfl
     unfold CallD at h
     rw [this] at h
     exact h e he
   · exact h.elim
   · rename_i h1 h2
     refine plain ?_ h
     cases ho : o.op <;> first | rfl | exact absurd ho (h1 _ _) | exact absurd ho (h2 _ _)
/-- A call in a drawn region: it may write what it gets (unless it is in a fixed order with all). -/
theorem CallD.of {o : DOper} {f : FuncId} {args : List Rand} {fx : List Bool} {os : List DOper} {b0 k : Nat} {l : Sl} {H : Heap} {acc : List Rec} {fin : Fin} {vs : List Value} {R : Value → Heap → Prop} (hb : H.get (b0 + k) = none)
  (hg : guardL o l = some true) (ha : evs (ofL l) args = some vs) (hx : fx.headD false = false) (h : Call X ⟨H.next, ptrs ⟨pm.lo, pm.ok, some (b0 + k)⟩ vs, none⟩ f vs H R)
  (nx : ∀ v H1, R v H1 → wpD X pm fx.tail os b0 (k + 1) (putL l o.dst v) H1 (⟨[], ptrs ⟨pm.lo, pm.ok, some (b0 + k)⟩ vs, H, v, fun _ => none⟩ :: acc) fin) : CallD X pm o f args fx os b0 k l H acc fin := by
 intro e he
 obtain ⟨v, H1, hr, hR⟩ := h
 obtain ⟨e', H', recs, h1, l', rs', h2, h4, h3⟩ := wpD_sound (nx v H1 hR) _ (he.put o.dst v)
 refine ⟨e', H', ⟨[], ptrs ⟨pm.lo, pm.ok, some (b0 + k)⟩ vs, H, v, ({ o with op := .call f args } : DOper).again e⟩ :: recs, hr.map2 h1 fun m d p q => ?_, l', (⟨[], ptrs ⟨pm.lo, pm.ok, some (b0 + k)⟩ vs, H, v, fun _ => none⟩ : Rec) :: rs', h2, .cons ⟨rfl, rfl, rfl, rfl, fun _ _ h => (by cases h)⟩ h4, by simpa using h3⟩
 have hw : ({ o with op := .call f args } : DOper).wanted e = some true := wanted_le he hg
 have hv := he.ele.evs ha
 have hgv : (DOp.call f args).gives ⟨pm.lo, pm.ok, some (b0 + k)⟩ e = ptrs ⟨pm.lo, pm.ok, some (b0 + k)⟩ vs := by simp only [DOp.gives, hv]
 have hcl : (DOp.call f args).cl = true := rfl
 simp only [evalT, hb, DOper.runT, hw, DOp.runT, hcl, cond_true, hx, cond_false, hgv, DOp.run, hv, p, Nat.add_assoc, q]
theorem CallD.fixed {o : DOper} {f : FuncId} {args : List Rand} {fx : List Bool} {os : List DOper} {b0 k : Nat} {l : Sl} {H : Heap} {acc : List Rec} {fin : Fin} {vs : List Value} {R : Value → Heap → Prop} (hb : H.get (b0 + k) = none)
  (hg : guardL o l = some true) (ha : evs (ofL l) args = some vs) (hx : fx.headD false = true) (h : Call X ⟨pm.lo, pm.ok, none⟩ f vs H R)
  (nx : ∀ v H1, R v H1 → wpD X pm fx.tail os b0 (k + 1) (putL l o.dst v) H1 (⟨[], [], H, v, fun _ => none⟩ :: acc) fin) : CallD X pm o f args fx os b0 k l H acc fin := by
 intro e he
 obtain ⟨v, H1, hr, hR⟩ := h
 obtain ⟨e', H', recs, h1, l', rs', h2, h4, h3⟩ := wpD_sound (nx v H1 hR) _ (he.put o.dst v)
 refine ⟨e', H', ⟨[], [], H, v, ({ o with op := .call f args } : DOper).again e⟩ :: recs, hr.map2 h1 fun m d p q => ?_, l', (⟨[], [], H, v, fun _ => none⟩ : Rec) :: rs', h2, .cons ⟨rfl, rfl, rfl, rfl, fun _ _ h => (by cases h)⟩ h4, by simpa using h3⟩
 have hw : ({ o with op := .call f args } : DOper).wanted e = some true := wanted_le he hg
 have hv := he.ele.evs ha
 have hcl : (DOp.call f args).cl = true := rfl
 simp only [evalT, hb, DOper.runT, hw, DOp.runT, hcl, cond_true, hx, DOp.run, hv, p, Nat.add_assoc, q]
/-- It is not done. -/
theorem CallD.not {o : DOper} {f : FuncId} {args : List Rand} {fx : List Bool} {os : List DOper} {b0 k : Nat} {l : Sl} {H : Heap} {acc : List Rec} {fin : Fin} (hb : H.get (b0 + k) = none)
  (hg : guardL o l = some false) (nx : wpD X pm fx.tail os b0 (k + 1) (putL l o.dst noRes) H (⟨[], [], H, noRes, fun _ => none⟩ :: acc) fin) : CallD X pm o f args fx os b0 k l H acc fin := by
 intro e he
 obtain ⟨e', H', recs, h1, l', rs', h2, h4, h3⟩ := wpD_sound nx _ (he.put o.dst noRes)
 refine ⟨e', H', ⟨[], [], H, noRes, ({ o with op := .call f args } : DOper).again e⟩ :: recs, h1.map fun m d q => ?_, l', (⟨[], [], H, noRes, fun _ => none⟩ : Rec) :: rs', h2, .cons ⟨rfl, rfl, rfl, rfl, fun _ _ h => (by cases h)⟩ h4, by simpa using h3⟩
 have hw : ({ o with op := .call f args } : DOper).wanted e = some false := wanted_le he hg
 simp only [evalT, hb, DOper.runT, hw, Nat.add_assoc, q]
theorem RecsLe.length {l l' : List Rec} (h : RecsLe l l') : l'.length = l.length := by
 induction h with
 | nil => rfl
 | cons _ _ ih => simp [ih]
theorem RecsLe.get {l l' : List Rec} (h : RecsLe l l') : ∀ (i : Nat) (r : Rec), l[i]? = some r → ∃ r', l'[i]? = some r' ∧ RecLe r r' := by
 induction h with
 | nil => intro i r h; simp at h
 | cons h _ ih =>
   intro i r hr
   cases i with
   | zero => simp at hr; subst hr; exact ⟨_, rfl, h⟩
   | succ i => simpa using ih i r (by simpa using hr)
theorem same_le {r r' : Rec} (h : RecLe r r') {H : Heap} (q : sameIn r.again r.val H = true) : sameIn r'.again r'.val H = true := by
 unfold sameIn at q ⊢
 cases hu : r.again H with
 | none => rw [hu] at q; cases q
 | some u => rw [h.2.2.2.2 H u hu, h.2.2.2.1]; rw [hu] at q; exact q
theorem fine_le {l l' : List Rec} (h : RecsLe l l') {H : Heap} {c : List (Nat × Nat)} (q : confFine l H c = true) : confFine l' H c = true := by
 unfold confFine at q ⊢
 rw [List.all_eq_true] at q ⊢
 rintro ⟨i, j⟩ hp
 have q := q (i, j) hp
 dsimp only at q ⊢
 cases hi : l[i]? with
 | none => rw [hi] at q; cases q
 | some x =>
   cases hj : l[j]? with
   | none => rw [hi, hj] at q; cases q
   | some y =>
     obtain ⟨x', hx, hxl⟩ := h.get i x hi
     obtain ⟨y', hy, hyl⟩ := h.get j y hj
     rw [hi, hj] at q
     rw [hx, hy]
     simp only [Bool.and_eq_true, Bool.or_eq_true] at q ⊢
     rw [hxl.2.1, hyl.2.1, hyl.1]
     refine ⟨q.1, q.2.imp id fun q => ?_⟩
     unfold stable at q ⊢
     simp only [Bool.and_eq_true, List.all_eq_true] at q ⊢
     refine ⟨fun z hz => ?_, same_le hyl q.2⟩
     obtain ⟨k, hk⟩ := List.getElem?_of_mem hz
     have hkl := (List.getElem?_eq_some_iff.1 hk).1
     have : ∃ z0, l[k]? = some z0 := ⟨l[k]'(by rw [← h.length]; exact hkl), by simp⟩
     obtain ⟨z0, hz0⟩ := this
     obtain ⟨z', hz', hzl⟩ := h.get k z0 hz0
     rw [hk] at hz'
     cases hz'
     rw [hzl.2.2.1]
     exact same_le hyl (q.1 z0 (List.mem_of_getElem? hz0))
theorem made_le {l l' : List Rec} (h : RecsLe l l') {b0 : Nat} : ∀ {a a' : List Rec} {q : Nat}, RecsLe a a' → madeB l b0 a q = true → madeB l' b0 a' q = true
 | _, _, _, .nil, _ => rfl
 | _, _, q, .cons (r := r) (r' := r') hr ht, hm => by
   simp only [madeB, Bool.and_eq_true, List.all_eq_true] at hm ⊢
   refine ⟨fun b hb => ?_, made_le h ht hm.2⟩
   rw [hr.1] at hb
   have := hm.1 b hb
   rw [h.length]
   revert this
   cases hx : l[b - b0]? with
   | none =>
     have : l'[b - b0]? = none := by
      rw [List.getElem?_eq_none_iff] at hx ⊢
      rw [h.length]; exact hx
     rw [this]; exact id
   | some x =>
     obtain ⟨x', hx', hxl⟩ := h.get _ x hx
     rw [hx']
     simp only [hxl.2.1]
     exact id
/-- What is looked at behind a drawn region; and then what comes next. -/
def DrawFin (X : Cx) (pm : Perm) (c : Conf) (b0 : Nat) (ks : List Fr) (Q : Post) : Fin := fun rs l' H' => confFine rs H' c.pairs = true ∧ madeB rs b0 rs 0 = true ∧ wp X pm (.res .normal) l' H' ks Q
@[simp] theorem DrawFin_eq {c : Conf} {b0 : Nat} {ks : List Fr} {Q : Post} {rs : List Rec} {l' : Sl} {H' : Heap} : DrawFin X pm c b0 ks Q rs l' H' = (confFine rs H' c.pairs = true ∧ madeB rs b0 rs 0 = true ∧ wp X pm (.res .normal) l' H' ks Q) := rfl
theorem DrawAt.of {os : List DOper} {c : Conf} {l : Sl} {H : Heap} {ks : List Fr} {Q : Post} {os' : List DOper} (hlo : pm.lo ≤ H.next) (ho : (inOrd os c.ord).map (·.2) = os')
  (k : wpD X pm c.fixed os' H.next 0 l (H.up os.length) [] (DrawFin X pm c H.next ks Q)) : DrawAt X pm os (some c) l H ks Q := by
 intro e he
 obtain ⟨e', H', recs, h1, l', rs', h2, h6, h3, h4, h5⟩ := wpD_sound k e he
 simp only [List.reverse_nil, List.nil_append] at h3 h4
 refine ⟨.normal, e', H', h1.map fun m d p => ?_, wp_sound h5 e' h2⟩
 have p : evalT (X.K m d) pm ((inOrd os c.ord).map (·.2)) H.next c.fixed e ⟨H.t, H.next + os.length⟩ = some (e', H', recs) := by rw [ho]; exact p
 have hb : Nat.ble pm.lo H.next = true := by rw [nble]; simpa using hlo
 simp only [eval, evalDraw, hb, cond_true, p, fine_le h6 h3, made_le h6 h6 h4, Bool.and_self]
@[simp] theorem wpD_nil {fx : List Bool} {b0 k : Nat} {l : Sl} {H : Heap} {acc : List Rec} {fin : Fin} : wpD X pm fx [] b0 k l H acc fin = fin acc.reverse l H := by simp only [wpD]
@[simp] theorem wpD_op {o : DOper} {os : List DOper} {fx : List Bool} {b0 k : Nat} {l : Sl} {H : Heap} {acc : List Rec} {fin : Fin} : wpD X pm fx (o :: os) b0 k l H acc fin = (match o.op with
  | .call f args => CallD X pm o f args fx os b0 k l H acc fin
  | .callV .. => False
  | _ => H.get (b0 + k) = none ∧ (match stepT ⟨pm.lo, pm.ok, some (b0 + k)⟩ o l H with
    | some (v, H', f, m) => wpD X pm fx.tail os b0 (k + 1) (putL l o.dst v) H' (⟨f, m, H, v, againL o l⟩ :: acc) fin
    | none => False)) := by rw [wpD]
attribute [simp] stepT Eff.runT
theorem mk_runT {H : Heap} {z : List Value} {bytes l c lo b : Nat} {okl : List Nat} (hl : l ≤ c) (h1 : c ≤ 1073741824) (h2 : bytes * c ≤ 17179869184) :
  (effMk z bytes (some l) (some c)).runT ⟨lo, okl, some b⟩ H = some (.slice (some ⟨b, 0, none⟩) l c, H.put b (.cells (times z c) (.n z.length)), [], [b]) := by
 unfold effMk
 simp [hl, h1, h2, Eff.runT, Perm.make, Perm.pick]
/-- No operation writes, makes a block, calls. -/
def Eff.calm : Eff → Prop
 | .ret _ | .fail => True
 | .get _ k => ∀ x, (k x).calm
 | _ => False
theorem calm_cond {c : Bool} {x y : Eff} (hx : x.calm) (hy : y.calm) : (bif c then x else y).calm := by cases c <;> assumption
theorem op_calm {o : DOp} {e : Env} (h : (o.md || o.nw) = false) : (o.eff e).calm := by
 cases o <;> first | (simp [DOp.md, DOp.nw] at h; done) | skip
 case conv c x => 
  cases c <;> first | (simp [DOp.md, DOp.nw] at h; done) | skip
  all_goals simp only [DOp.eff, with1, effConv, withCells]
  all_goals repeat' (first | trivial | (intro _; dsimp only) | (intro _) | (refine calm_cond ?_ ?_) | split)
 all_goals simp only [DOp.eff, with1, retO, effLoad, effSlStr, effSlSl, effSlArr, effLookup, effLen, effMin, effIxSl, effIxArr, effIxStr, effIxAgg]
 all_goals repeat' (first | trivial | (intro _; dsimp only) | (intro _) | (refine calm_cond ?_ ?_) | split)
theorem calm_run : ∀ (x : Eff) {pm pm' : Perm} {H H' : Heap} {v : Value}, x.calm → x.run pm H = some (v, H') → H' = H ∧ ∃ f, x.runT pm' H = some (v, H, f, []) ∧ ∀ b ∈ f, ∃ y, H.get b = some y
 | .ret u, pm, pm', H, H', v, _, h => by
   simp only [Eff.run, Option.some.injEq, Prod.mk.injEq] at h
   obtain ⟨rfl, rfl⟩ := h
   exact ⟨rfl, [], rfl, fun _ h => by cases h⟩
 | .fail, _, _, _, _, _, _, h => by cases h
 | .get b k, pm, pm', H, H', v, hq, h => by
   simp only [Eff.run] at h
   split at h
   · rename_i x hx
     obtain ⟨rfl, f, h1, h2⟩ := calm_run (k x) (pm' := pm') (hq x) h
     refine ⟨rfl, b :: f, by simp only [Eff.runT, hx, h1], fun c hc => ?_⟩
     rcases List.mem_cons.1 hc with rfl | hc
     · exact ⟨x, hx⟩
     · exact h2 c hc
   · cases h
def calmB (o : DOper) : Bool := !(o.op.md || o.op.nw || isCall o.op)
theorem calm_ops {b0 : Nat} {K : Orc} {H : Heap} (hw : ∀ b y, H.get b = some y → b < b0) : ∀ {os : List DOper} {fx : List Bool} {b : Nat} {e e' : Env} {H' : Heap}, os.all calmB = true → b0 ≤ b → evalOps K pm os e H = some (e', H') →
  H' = H ∧ ∃ recs, evalT K pm os b fx e H = some (e', H, recs) ∧ ∀ r ∈ recs, r.mods = [] ∧ ∀ c ∈ r.foot, c < b0
 | [], fx, b, e, e', H', _, _, h => by
   simp only [evalOps, Option.some.injEq, Prod.mk.injEq] at h
   obtain ⟨rfl, rfl⟩ := h
   exact ⟨rfl, [], by simp only [evalT], fun _ h => by cases h⟩
 | o :: os, fx, b, e, e', H', hc, hb, h => by
   simp only [List.all_cons, Bool.and_eq_true] at hc
   obtain ⟨hc1, hc2⟩ := hc
   simp only [calmB, Bool.not_eq_true', Bool.or_eq_false_iff] at hc1
   have hcl : o.op.cl = false := by cases ho : o.op <;> first | rfl | (have := hc1.2; rw [ho] at this; cases this)
   have hbn : H.get b = none := by
    cases hq : H.get b with
    | none => rfl
    | some y => have := hw b y hq; omega
   simp only [evalOps] at h
   split at h
   · rename_i v H1 hr
     have hone : H1 = H ∧ ∃ f, o.runT K ⟨pm.lo, pm.ok, some b⟩ (fx.headD false) e H = some (v, H, f, []) ∧ ∀ c ∈ f, c < b0 := by
      unfold DOper.run at hr
      unfold DOper.runT
      cases hwt : o.wanted e with
      | none => rw [hwt] at hr; cases hr
      | some t =>
        rw [hwt] at hr
        cases t with
        | false =>
          simp only [Option.some.injEq, Prod.mk.injEq] at hr
          obtain ⟨rfl, rfl⟩ := hr
          exact ⟨rfl, [], rfl, fun _ h => by cases h⟩
        | true =>
          simp only at hr
          rw [run_plain hc1.2] at hr
          obtain ⟨h1, f, h2, h3⟩ := calm_run (o.op.eff e) (pm' := ⟨pm.lo, pm.ok, some b⟩) (op_calm (by simp [hc1.1.1, hc1.1.2])) hr
          refine ⟨h1, f, ?_, fun c hcf => by obtain ⟨y, hy⟩ := h3 c hcf; exact hw c y hy⟩
          simp only
          unfold DOp.runT
          rw [hcl]
          exact h2
     obtain ⟨rfl, f, h2, h3⟩ := hone
     obtain ⟨rfl, recs, h4, h5⟩ := calm_ops hw (fx := fx.tail) (b := b + 1) hc2 (by omega) h
     refine ⟨rfl, ⟨f, [], H', v, o.again e⟩ :: recs, by simp only [evalT, hbn, h2, h4], fun r hr => ?_⟩
     rcases List.mem_cons.1 hr with rfl | hr
     · exact ⟨rfl, h3⟩
     · exact h5 r hr
   · cases h
/-- A drawn region in which nothing is written, made or called. -/
theorem DrawAt.calm [Foot] {os : List DOper} {c : Conf} {l : Sl} {H : Heap} {ks : List Fr} {Q : Post} {os' : List DOper} (hok : Ok pm H) (hp : c.pairs = []) (ho : (inOrd os c.ord).map (·.2) = os') (hc : os'.all calmB = true)
  (k : wp X pm (.ops os') l (H.up os.length) ks Q) : DrawAt X pm os (some c) l H ks Q := by
 intro e he
 obtain ⟨e', H', h1, h2⟩ := wp_sound k e he
 have hw : ∀ b y, (H.up os.length).get b = some y → b < H.next := fun b y hy => hok.lt hy
 obtain ⟨N, h1⟩ := h1
 obtain ⟨hH, _⟩ := calm_ops (K := X.K N N) (pm := pm) hw (fx := c.fixed) (b := H.next) hc (Nat.le_refl _) (h1 N N (Nat.le_refl _) (Nat.le_refl _))
 subst hH
 refine ⟨.normal, e', _, ⟨N, fun m d hm hd => ?_⟩, h2⟩
 obtain ⟨_, recs, h3, h4⟩ := calm_ops (K := X.K m d) (pm := pm) hw (fx := c.fixed) (b := H.next) hc (Nat.le_refl _) (h1 m d hm hd)
 have p : evalT (X.K m d) pm ((inOrd os c.ord).map (·.2)) H.next c.fixed e ⟨H.t, H.next + os.length⟩ = some (e', H.up os.length, recs) := by rw [ho]; exact h3
 have hb : Nat.ble pm.lo H.next = true := by rw [nble]; simpa using hok.lo
 have hmade : ∀ (all rs : List Rec) (q : Nat), (∀ r ∈ rs, ∀ c ∈ r.foot, c < H.next) → madeB all H.next rs q = true := by
  intro all rs
  induction rs with
  | nil => intro q _; rfl
  | cons r rs ih =>
    intro q h
    simp only [madeB, Bool.and_eq_true]
    refine ⟨?_, ih (q + 1) fun r hr => h r (.tail _ hr)⟩
    rw [List.all_eq_true]
    intro c hc
    have := h r (.head _) c hc
    simp [nblt, this]
 have hfine : confFine recs (H.up os.length) c.pairs = true := by rw [hp]; rfl
 simp only [eval, evalDraw, hb, cond_true, p, hfine, hmade recs recs 0 fun r hr => (h4 r hr).2, Bool.and_self]
/-- The same, where the reference order is the text's. -/
theorem DrawAt.calmI [Foot] {os : List DOper} {c : Conf} {l : Sl} {H : Heap} {ks : List Fr} {Q : Post} (hok : Ok pm H) (hp : c.pairs = []) (ho : (inOrd os c.ord).map (·.2) = os) (hc : os.all calmB = true)
  (k : wp X pm (.ops os) l (H.up os.length) ks Q) : DrawAt X pm os (some c) l H ks Q := DrawAt.calm hok hp ho hc k
end
end
section
open Go
section
variable {X : Cx} {pm : Perm} {Q Q' : Post}
theorem Res.mono (h : ∀ x l H, Q x l H → Q' x l H) : ∀ {ks : List Fr} {x : Ex} {e : Env} {H : Heap}, Res X pm x e H ks Q → Res X pm x e H ks Q'
 | [], _, _, _, ⟨l, a, b⟩ => ⟨l, a, h _ _ _ b⟩
 | .seq b :: ks, x, e, H, q => by
   cases x with
   | normal =>
     obtain ⟨x', e', H', q1, q2⟩ := q
     exact ⟨x', e', H', q1, Res.mono h q2⟩
   | exit i => exact Res.mono (ks := ks) (x := .exit i) h q
   | ret => exact Res.mono (ks := ks) (x := .ret) h q
 | .blk id :: ks, x, e, H, q => by
   cases x with
   | normal => exact Res.mono (ks := ks) (x := .normal) h q
   | ret => exact Res.mono (ks := ks) (x := .ret) h q
   | exit i =>
     simp only [Res] at q ⊢
     split
     · rename_i hi; rw [if_pos hi] at q; exact Res.mono h q
     · rename_i hi; rw [if_neg hi] at q; exact Res.mono h q
theorem SemL.mono (h : ∀ x l H, Q x l H → Q' x l H) {c : Ctl} {l : Sl} {H : Heap} {ks : List Fr} (q : SemL X pm c l H ks Q) : SemL X pm c l H ks Q' := fun e he => by
 have := q e he
 cases c with
 | code c => obtain ⟨x', e', H', q1, q2⟩ := this; exact ⟨x', e', H', q1, Res.mono h q2⟩
 | ops os => obtain ⟨e', H', q1, q2⟩ := this; exact ⟨e', H', q1, Res.mono h q2⟩
 | res x => exact Res.mono h this
theorem wp_mono (h : ∀ x l H, Q x l H → Q' x l H) {c : Ctl} {l : Sl} {H : Heap} {ks : List Fr} : wp X pm c l H ks Q → wp X pm c l H ks Q' := by
 fun_induction wp X pm c l H ks Q with
 | case1 l H ks ih => intro q; rw [wp]; exact ih q
 | case2 l H ks os ih => intro q; rw [wp]; exact ih q
 | case3 => intro q; rw [wp]; exact SemL.mono h q
 | case4 l H ks a b ih => intro q; rw [wp]; exact ih q
 | case5 l H ks c a b t hc ih1 ih2 => intro q; rw [wp]; rw [hc]; exact ⟨fun e => ih1 (q.1 e), fun e => ih2 (q.2 e)⟩
 | case6 => intro q; exact q.elim
 | case7 l H ks id b ih => intro q; rw [wp]; exact ih q
 | case8 => intro q; rw [wp]; exact SemL.mono h q
 | case9 l H ks id ih => intro q; rw [wp]; exact ih q
 | case10 l H ks ih => intro q; rw [wp]; exact ih q
 | case11 => intro q; exact q.elim
 | case12 l H ks ih => intro q; rw [wp]; exact ih q
 | case13 l H ks o os f args ho => intro q; rw [wp]; rw [ho]; exact SemL.mono h q
 | case14 l H ks o os f args ho => intro q; rw [wp]; rw [ho]; exact SemL.mono h q
 | case15 l H ks o os v H' hs h1 h2 ih =>
   intro q
   rw [wp]
   split
   · rename_i f args ho; exact absurd ho (h1 _ _)
   · rename_i f args ho; exact absurd ho (h2 _ _)
   · rw [hs]; exact ih q
 | case16 => intro q; exact q.elim
 | case17 l H x => intro q; rw [wp]; exact h _ _ _ q
 | case18 l H b ks ih => intro q; rw [wp]; exact ih q
 | case19 l H b ks x hx ih => intro q; cases x with
   | normal => exact absurd rfl hx
   | exit i => rw [wp_then_exit]; exact ih q
   | ret => rw [wp_then_ret]; exact ih q
 | case20 l H id ks ih => intro q; rw [wp_blk_exit, if_pos rfl]; exact ih q
 | case21 l H id ks i hi ih => intro q; rw [wp_blk_exit, if_neg hi]; exact ih q
 | case22 l H id ks x hx ih => intro q; cases x with
   | normal => rw [wp_blk_normal]; exact ih q
   | exit i => exact absurd rfl (hx i)
   | ret => rw [wp_blk_ret]; exact ih q
end
end
end Go.Dam
