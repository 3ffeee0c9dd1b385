/- The call returns true. -/
import Derived.Test.YtedamoknpbihhaaGreatDoorBodies
import Derived.Deep.Slices
import Derived.SliceStrings
namespace Go.Dam.C
open Go Go.Dam Go.Proofs Go.RowKit Go.Dam.Tab
set_option maxRecDepth 1000000
def H1t : Heap := ⟨(Tr.lf : Tr Blk).set (.opq (.nat 0)) 1, 2⟩
theorem h1get (b : Nat) : H1t.get b = if b = 1 then some (.opq (.nat 0)) else none := by
 show ((Tr.lf : Tr Blk).set (.opq (.nat 0)) 1).get b = _
 rw [Tr.get_set]
 by_cases h : b = 1
 · rw [if_pos h, if_pos h]
 · rw [if_neg h, if_neg h]; rfl
theorem rel_start {W : World} (hT : Lib.TabIs Tryz.prog W "internal/strconv.uint64pow10" .u64 zs10) : Rel tabO 0 γ1 H1t W := by
 obtain ⟨elem, fz, hheap⟩ : ∃ elem fz, W.heap[1]? = some (.cells tabArr elem fz) := by
  unfold Lib.TabIs World.var? at hT
  rw [gname] at hT
  simp only [Option.bind_some] at hT
  split at hT
  · rename_i cs e f hh
    simp only [Option.some.injEq] at hT
    subst hT
    exact ⟨e, f, hh⟩
  · cases hT
 refine ⟨fun b L h => ?_, fun b L h => ?_, fun b h => ?_, fun b b' L L' h h' r r' q => ?_, fun b L h r => ?_, Nat.zero_le _⟩
 · obtain ⟨rfl, rfl⟩ := γ1_inv h
   refine ⟨.opq (.nat 0), by rw [h1get, if_pos rfl], ?_⟩
   have hfr : Free γ1 H1t W 1 := ⟨(Array.getElem?_eq_some_iff.1 hheap).1, fun b L h r => by
    obtain ⟨rfl, _⟩ := γ1_inv h
    rw [h1get, if_pos rfl] at r
    exact r.elim⟩
   exact ⟨hfr, rfl, rfl, hfr, elem, fz, hheap⟩
 · obtain ⟨rfl, _⟩ := γ1_inv h
   show 1 < 2
   omega
 · rw [h1get, if_neg]
   have : 2 ≤ b := h
   omega
 · obtain ⟨rfl, _⟩ := γ1_inv h
   rw [h1get, if_pos rfl] at r
   exact r.elim
 · obtain ⟨rfl, _⟩ := γ1_inv h
   rw [h1get, if_pos rfl] at r
   exact r.elim
/-- What came in, at the abstract memory: blocks that nobody writes. -/
structure In (W : World) (γ : Emb) (H : Heap) : Prop where
 rel : Rel tabO 0 γ H W
 ro : ∀ b, ¬ rwB (H.get b)
 gam : γ 1 = some ⟨1, 0, 0, 0⟩
 tab : H.get 1 = some (.opq (.nat 0))
theorem In.start {W : World} (hT : Lib.TabIs Tryz.prog W "internal/strconv.uint64pow10" .u64 zs10) : In W γ1 H1t :=
 ⟨rel_start hT, fun b h => by rw [h1get] at h; split at h <;> exact h.elim, rfl, by rw [h1get, if_pos rfl]⟩
theorem In.grel {W : World} {γ : Emb} {H : Heap} (h : In W γ H) : GRel oneG γ := by
 intro g hg
 have h1 : g = 1 := by
  simp only [oneG, nbeq, decide_eq_true_eq] at hg
  exact hg
 subst h1
 exact ⟨⟨1, 0, 0, 0⟩, h.gam, rfl, rfl⟩
def Ext (H H' : Heap) : Prop := ∀ b y, H.get b = some y → H'.get b = some y
theorem Ext.refl (H : Heap) : Ext H H := fun _ _ h => h
theorem Ext.trans {H H' H'' : Heap} (h : Ext H H') (g : Ext H' H'') : Ext H H'' := fun b y e => g b y (h b y e)
theorem ArgS.ext {H H' : Heap} {v : Value} {m : Nat} {P P' : Nat → Value → Prop} (h : ArgS H v m P) (hx : Ext H H') (hp : ∀ i u, P i u → P' i u) : ArgS H' v m P' := by
 obtain ⟨base, cap, h1, h2⟩ := h.ex
 exact ⟨base, cap, h1, fun i hi => by
  obtain ⟨b, off, y, row, u, e1, e2, e3, e4, e5⟩ := h2 i hi
  exact ⟨b, off, y, row, u, e1, hx _ _ e2, e3, e4, hp _ _ e5⟩⟩
theorem ArgS.nil (H : Heap) (P : Nat → Value → Prop) : ArgS H (.slice none 0 0) 0 P := ⟨none, 0, rfl, fun _ hi => absurd hi (Nat.not_lt_zero _)⟩
theorem In.add {W : World} {γ : Emb} {H : Heap} (h : In W γ H) {cs : List Value} {c : Array Value} {elem : TypeId} {fz : Nat × Nat} {blk d : Nat} (hw : W.heap[blk]? = some (.cells c elem fz)) (hd : d + cs.length ≤ c.size)
  (hr : RowRel γ cs fun i => c[d + i]?) : In W (γ.set H.next ⟨blk, d, 0, 0⟩) (H.new (.ro cs)) ∧ γ.le (γ.set H.next ⟨blk, d, 0, 0⟩) ∧ Ext H (H.new (.ro cs)) ∧ (H.new (.ro cs)).get H.next = some (.ro cs) := by
 have hle := h.rel.le_set ⟨blk, d, 0, 0⟩
 have hnone : H.get H.next = none := h.rel.new _ (Nat.le_refl _)
 have hg : ∀ b, (H.new (.ro cs)).get b = if b = H.next then some (.ro cs) else H.get b := fun b => Heap.get_new H b _
 have hro : ∀ b, ¬ rwB ((H.new (.ro cs)).get b) := fun b => by
  rw [hg]
  split
  · exact fun h => h.elim
  · exact h.ro b
 have hfree : ∀ c, c < W.heap.size → Free (γ.set H.next ⟨blk, d, 0, 0⟩) (H.new (.ro cs)) W c := fun c hc => ⟨hc, fun b L _ r => (hro b r).elim⟩
 have h1 : (1 : Nat) ≠ H.next := fun e => by have := h.rel.lt 1 _ h.gam; omega
 refine ⟨⟨⟨fun b L hb => ?_, fun b L hb => ?_, fun b hb => ?_, fun b _ _ _ _ _ r _ _ => (hro b r).elim, fun b _ _ r => (hro b r).elim, Nat.zero_le _⟩, hro, hle _ _ h.gam, ?_⟩, hle, fun b y e => ?_, by rw [hg, if_pos rfl]⟩
 · by_cases e : b = H.next
   · subst e
     rw [Emb.set_same] at hb
     cases hb
     exact ⟨.ro cs, by rw [hg, if_pos rfl], hfree _ (Array.getElem?_eq_some_iff.1 hw).1, c, elem, fz, hw, rfl, hd, fun i v e => let ⟨v', a, b⟩ := hr i v e; ⟨v', a, b.mono hle⟩⟩
   · rw [Emb.set_ne _ _ e] at hb
     obtain ⟨x, h1, h2⟩ := h.rel.blk b L hb
     exact ⟨x, by rw [hg, if_neg e]; exact h1, h2.mono hle (fun c hc => ⟨hfree c hc.1, rfl⟩) (fun _ => rfl)⟩
 · show b < H.next + 1
   by_cases e : b = H.next
   · omega
   · rw [Emb.set_ne _ _ e] at hb
     have := h.rel.lt b L hb
     omega
 · have hb : H.next + 1 ≤ b := hb
   rw [hg, if_neg (by omega)]
   exact h.rel.new b (by omega)
 · rw [hg, if_neg h1]
   exact h.tab
 · rw [hg, if_neg]
   · exact e
   · rintro rfl
     rw [hnone] at e
     cases e
/-- A slice that came in, at the abstract memory. -/
theorem In.slice {W : World} {γ : Emb} {H : Heap} (h : In W γ H) {a : Addr} {len cap : Nat} (hl : len ≤ cap) {V u : Nat → Value} (hV : ∀ i, i < cap → W.cell? (a.add i) = some (V i)) {P : Nat → Value → Prop}
  (hu : ∀ i, i < len → VRel γ (u i) (V i) ∧ P i (u i)) : ∃ γ' H' v, In W γ' H' ∧ γ.le γ' ∧ Ext H H' ∧ VRel γ' v (.slice (some a) len cap) ∧ ArgS H' v len P := by
 by_cases hc : cap = 0
 · subst hc
   obtain rfl : len = 0 := by omega
   exact ⟨γ, H, .slice (some ⟨1, 0, none⟩) 0 0, h, .refl _, .refl _, .slc0 h.gam, ⟨_, _, rfl, fun i hi => absurd hi (Nat.not_lt_zero _)⟩⟩
 · have h0 := hV 0 (by omega)
   obtain ⟨b, o, sp⟩ := a
   have hsp : sp = none := by simpa [Addr.add] using World.cell?_spot h0
   subst hsp
   obtain ⟨c, elem, fz, hw⟩ : ∃ c elem fz, W.heap[b]? = some (.cells c elem fz) := by
    unfold World.cell? at h0
    split at h0
    · rename_i c e f hh
      exact ⟨c, e, f, by simpa [Addr.add] using hh⟩
    · cases h0
   have hcell : ∀ i, i < cap → c[o + i]? = some (V i) := by
    intro i hi
    have h2 := hV i hi
    rw [Go.Lib.add_plain] at h2
    simpa [World.cell?, hw] using h2
   have hlast := (Array.getElem?_eq_some_iff.1 (hcell (cap - 1) (by omega))).1
   obtain ⟨h', hle, hx, hg⟩ := h.add (cs := (List.range len).map u) (d := o) hw (by simp; omega) (fun i v e => by
    rw [List.getElem?_map] at e
    by_cases hi : i < len
    · rw [List.getElem?_range hi] at e
      simp only [Option.map_some, Option.some.injEq] at e
      subst e
      exact ⟨V i, hcell i (by omega), (hu i hi).1⟩
    · rw [List.getElem?_eq_none (by simpa using hi)] at e
      cases e)
   refine ⟨_, _, .slice (some ⟨H.next, 0, none⟩) len cap, h', hle, hx, ?_, ⟨_, _, rfl, fun i hi => ⟨H.next, 0, _, _, u i, rfl, hg, rfl, by simp [hi], (hu i hi).2⟩⟩⟩
   have := VRel.slc (γ := γ.set H.next ⟨b, o, 0, 0⟩) (b := H.next) (off := 0) (n := len) (cap := cap) (cap' := cap) (L := ⟨b, o, 0, 0⟩) (Emb.set_same _ _ _) (Nat.le_refl _) hl (.inl rfl)
   simpa using this
/-- The forms of the arguments at the world. -/
def StrsIn (W : World) (v : Value) : Prop := v = .slice none 0 0 ∨ ∃ a len cap, ∃ ss : Nat → ByteArray, v = .slice (some a) len cap ∧ len ≤ cap ∧ ∀ j, j < cap → W.cell? (a.add j) = some (.string (ss j))
def IntsIn (W : World) (v : Value) : Prop := v = .slice none 0 0 ∨ ∃ a len cap, ∃ zs : Nat → Int, v = .slice (some a) len cap ∧ len ≤ cap ∧ (∀ j, j < cap → W.cell? (a.add j) = some (.int .i64 (zs j))) ∧ ∀ j, j < cap → -9223372036854775808 ≤ zs j ∧ zs j ≤ 9223372036854775807
def ColsIn (W : World) (v : Value) : Prop := v = .slice none 0 0 ∨ ∃ a len cap, ∃ V : Nat → Value, v = .slice (some a) len cap ∧ len ≤ cap ∧ (∀ j, j < cap → W.cell? (a.add j) = some (V j)) ∧ ∀ j, j < cap → StrsIn W (V j)
theorem In.strs {W : World} {γ : Emb} {H : Heap} (h : In W γ H) {v' : Value} (hv : StrsIn W v') : ∃ γ' H' v m, In W γ' H' ∧ γ.le γ' ∧ Ext H H' ∧ VRel γ' v v' ∧ ArgS H' v m StrP := by
 rcases hv with rfl | ⟨a, len, cap, ss, rfl, hl, hc⟩
 · exact ⟨γ, H, _, 0, h, .refl _, .refl _, .snil, .nil _ _⟩
 · obtain ⟨γ2, H2, v, h2, l2, x2, hv, ha⟩ := h.slice (P := StrP) (u := fun i => .string (ss i)) hl hc (fun i _ => ⟨.str _, (ss i).data.toList, rfl⟩)
   exact ⟨γ2, H2, v, _, h2, l2, x2, hv, ha⟩
theorem In.ints {W : World} {γ : Emb} {H : Heap} (h : In W γ H) {v' : Value} (hv : IntsIn W v') : ∃ γ' H' v m, In W γ' H' ∧ γ.le γ' ∧ Ext H H' ∧ VRel γ' v v' ∧ ArgS H' v m IntP := by
 rcases hv with rfl | ⟨a, len, cap, zs, rfl, hl, hc, hz⟩
 · exact ⟨γ, H, _, 0, h, .refl _, .refl _, .snil, .nil _ _⟩
 · obtain ⟨γ2, H2, v, h2, l2, x2, hv, ha⟩ := h.slice (P := IntP) (u := fun i => .int .i64 (zs i)) hl hc (fun i hi => ⟨.int _ _, zs i, rfl, hz i (by omega)⟩)
   exact ⟨γ2, H2, v, _, h2, l2, x2, hv, ha⟩
theorem ColP.ext {H H' : Heap} (hx : Ext H H') {i : Nat} {u : Value} (h : ColP H i u) : ColP H' i u := by
 obtain ⟨mu, h⟩ := h
 exact ⟨mu, h.ext hx fun _ _ => id⟩
theorem In.rows {W : World} {V : Nat → Value} : ∀ (k : Nat) {γ : Emb} {H : Heap}, In W γ H → (∀ i, i < k → StrsIn W (V i)) → ∃ γ' H', ∃ u : Nat → Value, In W γ' H' ∧ γ.le γ' ∧ Ext H H' ∧ ∀ i, i < k → VRel γ' (u i) (V i) ∧ ColP H' i (u i)
 | 0, γ, H, h, _ => ⟨γ, H, fun _ => .bool true, h, .refl _, .refl _, fun i hi => absurd hi (Nat.not_lt_zero _)⟩
 | k + 1, γ, H, h, hV => by
   obtain ⟨γ1, H1, u, h1, l1, x1, hu⟩ := In.rows k h (fun i hi => hV i (by omega))
   obtain ⟨γ2, H2, v, mu, h2, l2, x2, hv, ha⟩ := h1.strs (hV k (by omega))
   refine ⟨γ2, H2, fun i => if i = k then v else u i, h2, l1.trans l2, x1.trans x2, fun i hi => ?_⟩
   by_cases e : i = k
   · subst e
     simp only [if_true]
     exact ⟨hv, mu, ha⟩
   · simp only [e, if_false]
     obtain ⟨p, q⟩ := hu i (by omega)
     exact ⟨p.mono l2, q.ext x2⟩
theorem In.cols {W : World} {γ : Emb} {H : Heap} (h : In W γ H) {v' : Value} (hv : ColsIn W v') : ∃ γ' H' v m, In W γ' H' ∧ γ.le γ' ∧ Ext H H' ∧ VRel γ' v v' ∧ ArgS H' v m (ColP H') := by
 rcases hv with rfl | ⟨a, len, cap, V, rfl, hl, hc, hV⟩
 · exact ⟨γ, H, _, 0, h, .refl _, .refl _, .snil, .nil _ _⟩
 · obtain ⟨γ1, H1, u, h1, l1, x1, hu⟩ := In.rows len h (fun i hi => hV i (by omega))
   obtain ⟨γ2, H2, v, h2, l2, x2, hv, ha⟩ := h1.slice (P := ColP H1) (u := u) hl hc hu
   exact ⟨γ2, H2, v, _, h2, l1.trans l2, x1.trans x2, hv, ha.ext (.refl _) fun _ _ => ColP.ext x2⟩
/-- From the abstract memory to the world: a call that writes nothing of what came in. -/
theorem calls_in {f : FuncId} {args args' : List Value} {R : Value → Heap → Prop} {W : World} {γ : Emb} {H : Heap} {v : Value} (h : In W γ H) (hc : Call theX ⟨0, [], none⟩ f args H R) (hR : ∀ r H, R r H → r = v) (ha : VRels γ args args')
  (hv : ∀ γ v', VRel γ v v' → v' = v) (he : (callFunc f args'.toArray).run Tryz.prog W = .ok (.enter f args'.toArray) W) :
  Calls Tryz.prog f args'.toArray W fun e w' => e = .returned v ∧ Below W.heap.size W w' := by
 obtain ⟨r, H', ⟨N, hrun⟩, h5⟩ := hc
 obtain rfl := hR r H' h5
 have hd := K_sound N N ⟨0, [], none⟩ f args H r H' rfl (hrun N N (Nat.le_refl _) (Nat.le_refl _)) 0 γ W args'.toArray h.rel h.grel (by simpa using ha)
 rcases hd with ⟨_, hd⟩ | ⟨v, w', hd, _⟩
 · refine hd.mono fun en w' ⟨γ', v', h1, h2, h3⟩ => ⟨?_, h3.os, h3.tape, h3.output, h3.grow, fun c hc => h3.keep c hc fun b L hb r => (h.ro b r).elim⟩
   rw [h1, hv _ _ h2]
 · rw [he] at hd; cases hd
theorem calls_all {W : World} (hT : Lib.TabIs Tryz.prog W "internal/strconv.uint64pow10" .u64 zs10) {n : Int} (h0 : -9223372036854775808 ≤ n) (h1 : n ≤ 9223372036854775807) {V1 V2 V3 : Value} (c1 : ColsIn W V1) (c2 : IntsIn W V2) (c3 : StrsIn W V3) :
  Calls Tryz.prog 3 #[.int .i64 n, V1, V2, V3] W fun e w' => e = .returned (.bool true) ∧ Below W.heap.size W w' := by
 letI : Foot := ⟨fun _ => True⟩
 obtain ⟨γa, Ha, v1, m1, ia, la, xa, r1, a1⟩ := (In.start hT).cols c1
 obtain ⟨γb, Hb, v2, m2, ib, lb, xb, r2, a2⟩ := ia.ints c2
 obtain ⟨γc, Hc, v3, m3, ic, lc, xc, r3, a3⟩ := ib.strs c3
 have ho : Ok ⟨0, [], none⟩ Hc := ⟨rfl, Nat.zero_le _, ic.rel.new, fun _ _ => trivial⟩
 have ht : Tab Hc := ic.tab
 have hc := All_spec (pm := ⟨0, [], none⟩) theBX ho ht h0 h1 (a1.ext (xb.trans xc) fun _ _ => ColP.ext (xb.trans xc)) (a2.ext xc fun _ _ => id) a3
 exact calls_in (f := 3) (args := [.int .i64 n, v1, v2, v3]) (args' := [.int .i64 n, V1, V2, V3]) ic hc (fun r H h => h.2) (.cons (.int _ _) (.cons ((r1.mono lb).mono lc) (.cons (r2.mono lc) (.cons r3 .nil)))) (fun γ v' h => h.bool_inv) (by simp [callFunc, Tryz.func3]; rfl)
end Go.Dam.C
