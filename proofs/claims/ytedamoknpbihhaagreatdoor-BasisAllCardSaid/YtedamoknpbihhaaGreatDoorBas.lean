/- The bases of the program. -/
import Derived.Test.YtedamoknpbihhaaGreatDoorFracs
import Derived.Test.YtedamoknpbihhaaGreatDoorSym
namespace Go.Dam.C
open Go Go.Dam
variable [Foot]
variable {X : Cx} {pm : Perm} {H H' H'' : Heap}
/-! ## Rows that are written -/
def refB : Value → Bool
 | .pointer _ => true
 | .slice .. => true
 | _ => false
def RowV (cs : List Value) : Prop := ∀ v ∈ cs, refB v = true
/-- From one heap to a later one: what lay there lies there, but rows of pointers, of slices, may hold others. -/
structure Mut (pm : Perm) (H H' : Heap) : Prop where
 ok : Ok pm H'
 next : H.next ≤ H'.next
 get : ∀ b, b < H.next → H'.get b = H.get b ∨ ∃ cs cs', H.get b = some (.cells cs (.n 1)) ∧ H'.get b = some (.cells cs' (.n 1)) ∧ cs'.length = cs.length ∧ RowV cs ∧ RowV cs'
theorem _root_.Go.Dam.Keep.mut (h : Keep pm H H') : Mut pm H H' := ⟨h.ok, h.next, fun b hb => .inl (h.get b hb)⟩
theorem Mut.refl (h : Ok pm H) : Mut pm H H := (Keep.refl h).mut
theorem Mut.trans (h : Mut pm H H') (g : Mut pm H' H'') : Mut pm H H'' where
 ok := g.ok
 next := Nat.le_trans h.next g.next
 get := fun b hb => by
  rcases h.get b hb with h1 | ⟨cs, cs', h1, h2, h3, h4, h5⟩
  · rcases g.get b (Nat.lt_of_lt_of_le hb h.next) with g1 | ⟨ds, ds', g1, g2, g3, g4, g5⟩
    · exact .inl (g1.trans h1)
    · exact .inr ⟨ds, ds', h1 ▸ g1, g2, g3, g4, g5⟩
  · rcases g.get b (Nat.lt_of_lt_of_le hb h.next) with g1 | ⟨ds, ds', g1, g2, g3, g4, g5⟩
    · exact .inr ⟨cs, cs', h1, g1.trans h2, h3, h4, h5⟩
    · rw [h2] at g1
      cases g1
      exact .inr ⟨cs, ds', h1, g2, g3.trans h3, h4, g5⟩
theorem Mut.some (h : Mut pm H H') (ho : Ok pm H) {b : Nat} {x : Blk} (e : H.get b = some x) (hx : ∀ cs, x = .cells cs (.n 1) → ∃ v ∈ cs, refB v = false) : H'.get b = some x := by
 rcases h.get b (ho.lt e) with h1 | ⟨cs, cs', h1, h2, h3, h4, h5⟩
 · exact h1.trans e
 · rw [e] at h1
   cases h1
   obtain ⟨v, hv, hb⟩ := hx cs rfl
   rw [h4 v hv] at hb
   cases hb
theorem Dig.mut {v : Value} {ds : List Nat} (h : Dig H v ds) (ho : Ok pm H) (hk : Mut pm H H') : Dig H' v ds := by
 refine ⟨h.1, h.2.imp id ?_⟩
 rintro ⟨c, off, cap, y, row, h1, h2, h3, h4, h5, h6⟩
 rcases hk.get c (ho.lt h2) with g | ⟨cs, cs', g1, g2, g3, g4, g5⟩
 · exact ⟨c, off, cap, y, row, h1, g.trans h2, h3, h4, h5, h6⟩
 · rw [h2] at g1
   cases g1
   have hr : row = cs := by
    have := h3.row
    rw [rowOf_cells] at this
    exact (Option.some.inj this).symm
   subst hr
   cases ds with
   | nil =>
     refine ⟨c, off, cap, _, cs', h1, g2, .inl rfl, by simp [u32s], by rw [g3]; exact h5, h6⟩
   | cons d ds =>
     exfalso
     have : Value.int .u32 (d : Int) ∈ u32s (d :: ds) := by simp [u32s]
     rw [← h4] at this
     have := g4 _ (List.mem_of_mem_drop (List.mem_of_mem_take this))
     cases this
theorem typed_mut (hk : Mut pm H H') (ho : Ok pm H) {b : Nat} {x : Blk} (h : H.get b = some x) (ht : typedB x = true) : H'.get b = some x :=
 hk.some ho h fun cs e => by subst e; cases ht
theorem IsN.mut {v : Value} {ds : List Nat} (h : IsN H v ds) (ho : Ok pm H) (hk : Mut pm H H') : IsN H' v ds := by
 refine h.imp id ?_
 rintro ⟨b, x, s, h1, h2, h3, h4⟩
 exact ⟨b, x, s, h1, typed_mut hk ho h2 h3.2, h3, h4.mut ho hk⟩
theorem IsNat.mut {v : Value} {n : Nat} (h : IsNat H v n) (ho : Ok pm H) (hk : Mut pm H H') : IsNat H' v n := ⟨h.ex.imp fun _ h => ⟨h.1.mut ho hk, h.2⟩⟩
theorem IsFrac.mut {v : Value} {q : Rat} (h : IsFrac H v q) (ho : Ok pm H) (hk : Mut pm H H') : IsFrac H' v q := by
 refine ⟨h.ex.imp id ?_⟩
 rintro ⟨b, x, pn, pd, h1, h2, h3, h4, h5⟩
 exact ⟨b, x, pn, pd, h1, typed_mut hk ho h2 h3.2, h3, h4.mut ho hk, h5.mut ho hk⟩
theorem Tab.mut (h : Tab H) (ho : Ok pm H) (hk : Mut pm H H') : Tab H' := hk.some ho h fun cs e => by cases e
theorem IsFrac.ptr {v : Value} {q : Rat} (h : IsFrac H v q) : ∃ a, v = .pointer a := by
 rcases h.ex with ⟨rfl, _⟩ | ⟨b, _, _, _, rfl, _⟩
 · exact ⟨_, rfl⟩
 · exact ⟨_, rfl⟩
/-- A row of fractions. -/
structure PRow (H : Heap) (v : Value) (c : Nat) (n : Nat) (x : Nat → Rat) : Prop where
 ex : ∃ cap ps, v = .slice (some ⟨c, 0, none⟩) n cap ∧ H.get c = some (.cells ps (.n 1)) ∧ ps.length = n ∧ n ≤ cap ∧ ∀ i, i < n → ∃ p, ps[i]? = some p ∧ IsFrac H p (x i)
theorem PRow.keep {v : Value} {c n : Nat} {x : Nat → Rat} (h : PRow H v c n x) (ho : Ok pm H) (hk : Keep pm H H') : PRow H' v c n x := by
 obtain ⟨cap, ps, h1, h2, h3, h4, h5⟩ := h.ex
 exact ⟨cap, ps, h1, hk.some ho h2, h3, h4, fun i hi => (h5 i hi).imp fun p h => ⟨h.1, h.2.keep ho hk⟩⟩
theorem PRow.mut {v : Value} {c n : Nat} {x : Nat → Rat} (h : PRow H v c n x) (ho : Ok pm H) (hk : Mut pm H H') (hc : H'.get c = H.get c) : PRow H' v c n x := by
 obtain ⟨cap, ps, h1, h2, h3, h4, h5⟩ := h.ex
 exact ⟨cap, ps, h1, hc.trans h2, h3, h4, fun i hi => (h5 i hi).imp fun p h => ⟨h.1, h.2.mut ho hk⟩⟩
theorem PRow.lt {v : Value} {c n : Nat} {x : Nat → Rat} (h : PRow H v c n x) (ho : Ok pm H) : c < H.next := by
 obtain ⟨cap, ps, h1, h2, h3, h4, h5⟩ := h.ex
 exact ho.lt h2
theorem PRow.congr {v : Value} {c n : Nat} {x y : Nat → Rat} (h : PRow H v c n x) (e : ∀ i, i < n → y i = x i) : PRow H v c n y := by
 obtain ⟨cap, ps, h1, h2, h3, h4, h5⟩ := h.ex
 exact ⟨cap, ps, h1, h2, h3, h4, fun i hi => by rw [e i hi]; exact h5 i hi⟩
/-! ## Sums -/
def sumTo (f : Nat → Rat) : Nat → Rat
 | 0 => 0
 | n + 1 => sumTo f n + f n
end Go.Dam.C
namespace Go.Dam.C
open Go Go.Dam
variable {X : Cx} {pm : Perm} {H H' H'' : Heap}
theorem sz_add {p q : Rat} {k : Nat} (hp : sz p k) (hq : sz q k) : sz (p + q) (2 * k + 1) := by
 have e : p + q = mkRat (p.num * q.den + q.num * p.den) (p.den * q.den) := Rat.add_def' p q
 have hd0 : p.den * q.den ≠ 0 := Nat.mul_ne_zero p.den_nz q.den_nz
 rw [e, ← Rat.normalize_eq_mkRat hd0, Rat.normalize_eq]
 refine ⟨Nat.lt_of_le_of_lt (Int.natAbs_ediv_le_natAbs _ _) ?_, Nat.lt_of_le_of_lt (Nat.div_le_self _ _) (pow_le_of (pow_two_mul hp.2 hq.2) (by omega))⟩
 refine Nat.lt_of_le_of_lt (Int.natAbs_add_le _ _) ?_
 rw [Int.natAbs_mul, Int.natAbs_mul]
 exact pow_sum (pow_two_mul hp.1 hq.2) (pow_two_mul hq.1 hp.2)
theorem sz_mul {p q : Rat} {k : Nat} (hp : sz p k) (hq : sz q k) : sz (p * q) (2 * k) := by
 have e : p * q = mkRat (p.num * q.num) (p.den * q.den) := Rat.mul_def' p q
 have hd0 : p.den * q.den ≠ 0 := Nat.mul_ne_zero p.den_nz q.den_nz
 rw [e, ← Rat.normalize_eq_mkRat hd0, Rat.normalize_eq]
 refine ⟨Nat.lt_of_le_of_lt (Int.natAbs_ediv_le_natAbs _ _) ?_, Nat.lt_of_le_of_lt (Nat.div_le_self _ _) (pow_two_mul hp.2 hq.2)⟩
 rw [Int.natAbs_mul]
 exact pow_two_mul hp.1 hq.1
end Go.Dam.C
namespace Go.Dam.C
open Go Go.Dam
variable [Foot]
variable {X : Cx} {pm : Perm} {H H' H'' : Heap}
end Go.Dam.C
namespace Go.Dam.C
open Go Go.Dam
variable {X : Cx} {pm : Perm} {H H' H'' : Heap}
theorem sz_inv {q : Rat} {k : Nat} (hq : sz q k) (h0 : q ≠ 0) : sz (1 / q) k := by
 rw [inv_parts h0]
 simp only [Rat.num_ofNat, Rat.den_ofNat]
 have hn : q.num.natAbs ≠ 0 := fun h => h0 (Rat.num_eq_zero.1 (by omega))
 refine sz_mkq ?_ ?_ ?_
 · simpa using hq.2
 · simpa using hq.1
 · simpa using hn
end Go.Dam.C
namespace Go.Dam.C
open Go Go.Dam
variable {X : Cx} {pm : Perm} {H H' H'' : Heap}
theorem sz_mono {q : Rat} {k j : Nat} (hq : sz q k) (h : k ≤ j) : sz q j := ⟨pow_le_of hq.1 h, pow_le_of hq.2 h⟩
end Go.Dam.C
namespace Go.Dam.C
open Go Go.Dam
variable [Foot]
variable {X : Cx} {pm : Perm} {H H' H'' : Heap}
end Go.Dam.C
namespace Go.Dam.C
open Go Go.Dam
variable {X : Cx} {pm : Perm} {H H' H'' : Heap}
theorem sz_sub {p q : Rat} {k : Nat} (hp : sz p k) (hq : sz q k) : sz (p - q) (2 * k + 1) := by rw [Rat.sub_eq_add_neg]; exact sz_add hp (sz_neg hq)
end Go.Dam.C
namespace Go.Dam.C
open Go Go.Dam
variable [Foot]
variable {X : Cx} {pm : Perm} {H H' H'' : Heap}
end Go.Dam.C
namespace Go.Dam.C
open Go Go.Dam
variable {X : Cx} {pm : Perm} {H H' H'' : Heap}
theorem sz_div {p q : Rat} {k : Nat} (hp : sz p k) (hq : sz q k) (h0 : q ≠ 0) : sz (p / q) (2 * k) := by
 have : p / q = p * (1 / q) := by grind
 rw [this]
 exact sz_mul hp (sz_inv hq h0)
end Go.Dam.C
namespace Go.Dam.C
open Go Go.Dam
variable {X : Cx} {pm : Perm} {H H' H'' : Heap}
theorem sz_zero {k : Nat} (hk : 1 ≤ k) : sz 0 k := by
 have : 4294967296 ^ 1 ≤ 4294967296 ^ k := Nat.pow_le_pow_right (by decide) hk
 exact ⟨by show 0 < _; omega, by show 1 < _; omega⟩
theorem sz_one {k : Nat} (hk : 1 ≤ k) : sz 1 k := by
 have : 4294967296 ^ 1 ≤ 4294967296 ^ k := Nat.pow_le_pow_right (by decide) hk
 exact ⟨by show 1 < _; omega, by show 1 < _; omega⟩
end Go.Dam.C
namespace Go.Dam.C
open Go Go.Dam
variable [Foot]
variable {X : Cx} {pm : Perm} {H H' H'' : Heap}
/-- So big a sum of so many gets, at the most. -/
def szs : Nat → Nat → Nat
 | _, 0 => 1
 | k, n + 1 => 2 * (szs k n + k) + 1
end Go.Dam.C
namespace Go.Dam.C
open Go Go.Dam
variable {X : Cx} {pm : Perm} {H H' H'' : Heap}
theorem sz_sum {f : Nat → Rat} {k n : Nat} (h : ∀ i, i < n → sz (f i) k) : sz (sumTo f n) (szs k n) := by
 induction n with
 | zero => exact sz_zero (Nat.le_refl _)
 | succ n ih =>
   exact sz_add (sz_mono (ih fun i hi => h i (by omega)) (by omega)) (sz_mono (h n (by omega)) (by omega))
end Go.Dam.C
namespace Go.Dam.C
open Go Go.Dam
variable [Foot]
variable {X : Cx} {pm : Perm} {H H' H'' : Heap}
end Go.Dam.C
namespace Go.Dam.C
open Go Go.Dam
variable {X : Cx} {pm : Perm} {H H' H'' : Heap}
theorem sgn_ne (q : Rat) : ((if q < 0 then (-1 : Int) else if q = 0 then 0 else 1) == 0) = decide (q = 0) := by
 by_cases h1 : q < 0
 · have : q ≠ 0 := by rintro rfl; exact absurd h1 (by decide)
   simp [h1, this]
 · by_cases h2 : q = 0
   · subst h2; simp
   · simp [h1, h2]
end Go.Dam.C
namespace Go.Dam.C
open Go Go.Dam
variable [Foot]
variable {X : Cx} {pm : Perm} {H H' H'' : Heap}
theorem Sign0_spec (hX : NX X) (ho : Ok pm H) {v : Value} {q : Rat} {k : Nat} (h : IsFrac H v q) (hs : sz q k) (hk : k < 268435456) :
  Call X pm F.q_Sign [v] H fun r H' => Keep pm H H' ∧ ∃ s : Int, r = .int .i64 s ∧ (s == 0) = decide (q = 0) :=
 (Sign_spec hX ho h hs hk).mono fun _ _ ⟨h1, h2⟩ => ⟨h1, _, h2, sgn_ne q⟩
theorem dot_spec (hX : LX X) (ho : Ok pm H) {vx vy : Value} {cx cy n k K : Nat} {x y : Nat → Rat} (hx : PRow H vx cx n x) (hy : PRow H vy cy n y) (hn : n < 1000000) (sx : ∀ i, i < n → sz (x i) k) (sy : ∀ i, i < n → sz (y i) k)
  (sK : ∀ i, i ≤ n → sz (sumTo (fun i => x i * y i) i) K) (hkK : 2 * k ≤ K) (hK : K < 67108864) :
  Call X pm F.a_dot [vx, vy] H fun r H' => Keep pm H H' ∧ IsFrac H' r (sumTo (fun i => x i * y i) n) := by
 obtain ⟨plo, pok, pnum⟩ := pm
 obtain rfl : pnum = none := ho.num
 refine Call.has hX.a_dot rfl ?_
 simp
 refine CallAt.of (by simp) (by simp) (Of_frac hX ho (n := 0) (by omega) (by omega)) ?_
 rintro s0 H0 ⟨k0, hs0⟩
 obtain ⟨capx, psx, rfl, hgx, hlx, hcx, hfx⟩ := hx.ex
 obtain ⟨capy, psy, rfl, hgy, hly, hcy, hfy⟩ := hy.ex
 simp
 refine LoopAt.of (fun s : Nat × Value => [(0, .slice (some ⟨cx, 0, none⟩) n capx), (1, .slice (some ⟨cy, 0, none⟩) n capy), (5, s.2), (9, .int .i64 (n : Int)), (10, .int .i64 (s.1 : Int))])
  (fun s H' => Keep ⟨plo, pok, none⟩ H H' ∧ s.1 ≤ n ∧ IsFrac H' s.2 (sumTo (fun i => x i * y i) s.1)) (fun s => n - s.1) (0, s0) (by simp) ⟨k0, by simp, hs0⟩ ?_
 rintro ⟨i, s⟩ H1 ⟨k1, hi, hs⟩
 simp only at hi hs
 by_cases hin : i < n
 · obtain ⟨p, hp1, hp2⟩ := hfx i hin
   obtain ⟨q, hq1, hq2⟩ := hfy i hin
   have g1 := k1.some ho hgx
   have g2 := k1.some ho hgy
   have hp := hp2.keep ho k1
   have hq := hq2.keep ho k1
   have w1 : wr .i64 ((i : Int) + 1) = ((i + 1 : Nat) : Int) := by rw [wr_i64 (by omega) (by omega)]; simp
   simp [hin, g1, hp1]
   refine CallAt.of (by simp) (by simp) (Sign0_spec hX.toNX k1.ok hp (sx i hin) (by omega)) ?_
   rintro _ H2 ⟨k2, sv, rfl, hsv⟩
   have fin0 : x i * y i = 0 → sumTo (fun i => x i * y i) (i + 1) = sumTo (fun i => x i * y i) i := fun h => by simp [sumTo, h, Rat.add_zero]
   by_cases hx0 : x i = 0
   · simp [hsv, hx0]
     refine CallAt.not (by simp) ?_
     simp [w1]
     refine .of (i + 1, s) (by show n - (i + 1) < n - i; omega) (by simp) ⟨k1.trans k2, by simp; omega, ?_⟩
     rw [fin0 (by rw [hx0, Rat.zero_mul])]
     exact hs.keep k1.ok k2
   · have g22 := k2.some k1.ok g2
     simp [hsv, hx0, g22, hq1, hin]
     refine CallAt.of (by simp) (by simp) (Sign0_spec hX.toNX k2.ok (hq.keep k1.ok k2) (sy i hin) (by omega)) ?_
     rintro _ H3 ⟨k3, sw, rfl, hsw⟩
     have k13 := k1.trans (k2.trans k3)
     have k23 := k2.trans k3
     by_cases hy0 : y i = 0
     · simp [hsw, hy0, w1]
       refine .of (i + 1, s) (by show n - (i + 1) < n - i; omega) (by simp) ⟨k13, by simp; omega, ?_⟩
       rw [fin0 (by rw [hy0, Rat.mul_zero])]
       exact hs.keep k1.ok k23
     · have g13 := k23.some k1.ok g1
       have g23 := k23.some k1.ok g2
       have hres : ∀ k, H3.get (H3.next + k) = none := fun k => k3.ok.wf _ (by omega)
       have hres0 : H3.get H3.next = none := k3.ok.wf _ (by omega)
       simp [hsw, hy0]
       refine DrawAt.of k3.ok.lo rfl ?_
       simp [inOrd, hin, hres, hres0, g13, g23, hp1, hq1]
       have hcxl : cx < H3.next := k3.ok.lt g13
       have hcyl : cy < H3.next := k3.ok.lt g23
       refine CallD.fixed (by simp [hres]) (by simp) (by simp) rfl (Mul_frac hX.toNX (k3.ok.up 12) (p := x i) (q := y i) (hp.keep k1.ok (k23.up 12)) (hq.keep k1.ok (k23.up 12)) (sx i hin) (sy i hin) (by omega)) ?_
       rintro r4 H4 ⟨k4, hr4⟩
       have hres4 : ∀ k, k < 12 → H4.get (H3.next + k) = none := fun k hk => (k4.get _ (by simp; omega)).trans (hres k)
       simp
       have k34 := (k23.up 12).trans k4
       refine CallD.fixed (by simp [hres4]) (by simp) (by simp) rfl (Add_frac hX.toNX k4.ok (hs.keep k1.ok k34) hr4 (sK i hi) (sz_mono (sz_mul (sx i hin) (sy i hin)) hkK) (by omega)) ?_
       rintro r5 H5 ⟨k5, hr5⟩
       have hres5 : ∀ k, k < 12 → H5.get (H3.next + k) = none := fun k hk => (k5.get _ (by have := k4.next; simp at this; omega)).trans (hres4 k hk)
       have hj0 : ∀ l, disj l [] = true := fun l => by simp [disj]
       simp [hres5, confFine, madeB, hcxl, hcyl, w1]
       exact .of (i + 1, r5) (by show n - (i + 1) < n - i; omega) (by simp) ⟨k1.trans (k34.trans k5), by simp; omega, hr5⟩
 · have : i = n := by omega
   subst this
   simp
   exact ⟨k1, hs⟩
end Go.Dam.C
namespace Go.Dam.C
open Go Go.Dam
variable {X : Cx} {pm : Perm} {H H' H'' : Heap}
theorem Size_spec (hX : LX X) {b : Nat} {x : Blk} {base : Option Addr} {n cap : Nat} {vi : Value} (hb : H.get b = some x) (hx : rowOf x = some [.slice base n cap, vi]) :
  Call X pm F.a_Size [.pointer (some ⟨b, 0, none⟩)] H fun r H' => H' = H ∧ r = .int .i64 (n : Int) := by
 refine Call.has hX.a_Size rfl ?_
 simp [hb, hx]
end Go.Dam.C
namespace Go.Dam.C
open Go Go.Dam
variable [Foot]
variable {X : Cx} {pm : Perm} {H H' H'' : Heap}
/-- From one heap to a later one: only blocks of S hold others. -/
structure Upd (pm : Perm) (S : Nat → Prop) (H H' : Heap) : Prop extends Mut pm H H' where
 same : ∀ b, b < H.next → ¬ S b → H'.get b = H.get b
theorem Upd.refl {S : Nat → Prop} (h : Ok pm H) : Upd pm S H H := ⟨.refl h, fun _ _ _ => rfl⟩
theorem _root_.Go.Dam.Keep.upd {S : Nat → Prop} (h : Keep pm H H') : Upd pm S H H' := ⟨h.mut, fun b hb _ => h.get b hb⟩
theorem Upd.trans {S : Nat → Prop} (h : Upd pm S H H') (g : Upd pm S H' H'') : Upd pm S H H'' :=
 ⟨h.toMut.trans g.toMut, fun b hb hs => (g.same b (Nat.lt_of_lt_of_le hb h.next) hs).trans (h.same b hb hs)⟩
theorem Upd.weaken {S T : Nat → Prop} (h : Upd pm S H H') (hst : ∀ b, b < H.next → S b → T b) : Upd pm T H H' := ⟨h.toMut, fun b hb hs => h.same b hb fun h => hs (hst b hb h)⟩
theorem Upd.keep {S : Nat → Prop} {H0 : Heap} (k : Keep pm H0 H) (h : Upd pm S H H') (hs : ∀ b, b < H0.next → ¬ S b) : Keep pm H0 H' :=
 ⟨h.ok, Nat.le_trans k.next h.next, fun b hb => (h.same b (Nat.lt_of_lt_of_le hb k.next) (hs b hb)).trans (k.get b hb)⟩
theorem Upd.put {c : Nat} {cs cs' : List Value} (ho : Ok pm H) (hg : H.get c = some (.cells cs (.n 1))) (h1 : RowV cs) (h2 : RowV cs') (hl : cs'.length = cs.length) : Upd pm (fun b => b = c) H (H.put c (.cells cs' (.n 1))) where
 ok := ⟨ho.num, ho.lo, fun b hb => by
  have hb : H.next ≤ b := hb
  have := ho.lt hg
  rw [get_put_ne (by omega)]; exact ho.wf b hb, fun b hb => ho.new b hb⟩
 next := Nat.le_refl _
 get := fun b hb => by
  by_cases hbc : b = c
  · subst hbc; exact .inr ⟨cs, cs', hg, get_put_same, hl, h1, h2⟩
  · exact .inl (get_put_ne hbc)
 same := fun b hb hs => get_put_ne hs
end Go.Dam.C
namespace Go.Dam.C
open Go Go.Dam
variable {X : Cx} {pm : Perm} {H H' H'' : Heap}
theorem RowV.set {cs : List Value} (h : RowV cs) {i : Nat} {v : Value} (hv : refB v = true) : RowV (cs.set i v) := by
 intro u hu
 rcases List.mem_or_eq_of_mem_set hu with h1 | rfl
 · exact h u h1
 · exact hv
end Go.Dam.C
namespace Go.Dam.C
open Go Go.Dam
variable [Foot]
variable {X : Cx} {pm : Perm} {H H' H'' : Heap}
theorem PRow.parts {v : Value} {c n : Nat} {x : Nat → Rat} (h : PRow H v c n x) : ∃ cap ps, v = .slice (some ⟨c, 0, none⟩) n cap ∧ H.get c = some (.cells ps (.n 1)) ∧ ps.length = n ∧ n ≤ cap ∧ RowV ps ∧ ∀ i, i < n → ∃ p, ps[i]? = some p ∧ IsFrac H p (x i) := by
 obtain ⟨cap, ps, h1, h2, h3, h4, h5⟩ := h.ex
 refine ⟨cap, ps, h1, h2, h3, h4, fun u hu => ?_, h5⟩
 obtain ⟨i, hi⟩ := List.getElem?_of_mem hu
 have hl := (List.getElem?_eq_some_iff.1 hi).1
 obtain ⟨p, p1, p2⟩ := h5 i (by omega)
 rw [hi] at p1
 cases p1
 obtain ⟨a, rfl⟩ := p2.ptr
 rfl
theorem PRow.put {c n : Nat} {x : Nat → Rat} {cap : Nat} {ps : List Value} (ho : Ok pm H) (h : PRow H (.slice (some ⟨c, 0, none⟩) n cap) c n x) (hg : H.get c = some (.cells ps (.n 1))) {i : Nat} (hi : i < n) {p : Value} {q : Rat} (hp : IsFrac H p q) :
  PRow (H.put c (.cells (ps.set i p) (.n 1))) (.slice (some ⟨c, 0, none⟩) n cap) c n (fun j => if j = i then q else x j) ∧ Upd pm (fun b => b = c) H (H.put c (.cells (ps.set i p) (.n 1))) := by
 obtain ⟨cap', ps', h1, h2, h3, h4, h5, h6⟩ := h.parts
 cases h1
 rw [hg] at h2
 cases h2
 obtain ⟨a, rfl⟩ := hp.ptr
 have u := Upd.put (cs' := ps.set i (.pointer a)) ho hg h5 (h5.set rfl) (by simp)
 refine ⟨⟨cap, ps.set i (.pointer a), rfl, get_put_same, by simp [h3], h4, fun j hj => ?_⟩, u⟩
 by_cases hij : j = i
 · subst hij
   exact ⟨.pointer a, by rw [List.getElem?_set_self (by omega)], by simpa using hp.mut ho u.toMut⟩
 · obtain ⟨r, r1, r2⟩ := h6 j hj
   exact ⟨r, by rw [List.getElem?_set_ne (by omega)]; exact r1, by simpa [hij] using r2.mut ho u.toMut⟩
theorem IsFrac.nil : IsFrac H (.pointer none) 0 := ⟨.inl ⟨rfl, rfl⟩⟩
end Go.Dam.C
namespace Go.Dam.C
open Go Go.Dam
variable {X : Cx} {pm : Perm} {H H' H'' : Heap}
theorem times_one (v : Value) (n : Nat) : times [v] n = List.replicate n v := by
 induction n with
 | zero => rfl
 | succ n ih => rw [times, ih]; rfl
end Go.Dam.C
namespace Go.Dam.C
open Go Go.Dam
variable [Foot]
variable {X : Cx} {pm : Perm} {H H' H'' : Heap}
/-- A new row of nil pointers. -/
theorem PRow.new {n : Nat} : PRow (H.new (.cells (times [.pointer none] n) (.n 1))) (.slice (some ⟨H.next, 0, none⟩) n n) H.next n (fun _ => 0) :=
 ⟨n, times [.pointer none] n, rfl, get_new_next, by rw [times_one]; simp, Nat.le_refl _, fun i hi => ⟨.pointer none, by rw [times_one]; simp [hi], IsFrac.nil⟩⟩
theorem _root_.Go.Dam.Ok.fresh {okl : List Nat} (h : Ok pm H) : Ok ⟨H.next, okl, none⟩ H := ⟨rfl, Nat.le_refl _, h.wf, h.new⟩
theorem Of_zero (hX : LX X) (ho : Ok pm H) : Call X pm F.q_Of [.int .i64 0] H fun r H' => Keep pm H H' ∧ IsFrac H' r 0 := (Of_frac hX ho (n := 0) (by omega) (by omega)).mono fun _ _ h => ⟨h.1, by simpa using h.2⟩
theorem Of_one (hX : LX X) (ho : Ok pm H) : Call X pm F.q_Of [.int .i64 1] H fun r H' => Keep pm H H' ∧ IsFrac H' r 1 := (Of_frac hX ho (n := 1) (by omega) (by omega)).mono fun _ _ h => ⟨h.1, by simpa using h.2⟩
end Go.Dam.C
namespace Go.Dam.C
section
open Go Go.Dam
variable [Foot]
variable {X : Cx} {pm : Perm} {H H' H'' : Heap}
/-- Rows of fractions. -/
structure MRow (H : Heap) (v : Value) (c : Nat) (rb : Nat → Nat) (n m : Nat) (A : Nat → Nat → Rat) : Prop where
 ex : ∃ cap ss, v = .slice (some ⟨c, 0, none⟩) n cap ∧ H.get c = some (.cells ss (.n 1)) ∧ ss.length = n ∧ n ≤ cap ∧ ∀ i, i < n → ∃ s, ss[i]? = some s ∧ PRow H s (rb i) m (A i)
 inj : ∀ i j, i < n → j < n → rb i = rb j → i = j
 ne : ∀ i, i < n → rb i ≠ c
def idM (i k : Nat) : Rat := if k = i then 1 else 0
theorem units_spec (hX : LX X) (ho : Ok pm H) {n : Nat} (hn : n ≤ 440) :
  Call X pm F.a_units [.int .i64 (n : Int)] H fun r H' => Keep pm H H' ∧ ∃ c rb, MRow H' r c rb n n idM ∧ H.next ≤ c ∧ ∀ i, i < n → H.next ≤ rb i := by
 obtain ⟨plo, pok, pnum⟩ := pm
 obtain rfl : pnum = none := ho.num
 refine Call.has hX.a_units rfl ?_
 simp
 rw [mk_run ho (by omega) (by omega)]
 obtain ⟨c, hc⟩ : ∃ c, c = H.next := ⟨_, rfl⟩
 obtain ⟨Hc, hHc⟩ : ∃ Hc, Hc = H.new (.cells (times [.slice none 0 0] n) (.n 1)) := ⟨_, rfl⟩
 have kc : Keep ⟨plo, pok, none⟩ H Hc := by rw [hHc]; exact (Keep.refl ho).new _
 have hgc : Hc.get c = some (.cells (times [.slice none 0 0] n) (.n 1)) := by rw [hHc, hc]; exact get_new_next
 have hnx : Hc.next = H.next + 1 := by rw [hHc]; rfl
 simp [← hHc, ← hc]
 refine LoopAt.of (fun s : Nat × (Nat → Nat) => [(3, .slice (some ⟨c, 0, none⟩) n n), (0, .int .i64 (n : Int)), (9, .int .i64 (n : Int)), (10, .int .i64 (s.1 : Int))])
  (fun s H' => Keep ⟨plo, pok, none⟩ H H' ∧ Hc.next ≤ H'.next ∧ s.1 ≤ n ∧ (∃ ss, H'.get c = some (.cells ss (.n 1)) ∧ ss.length = n ∧ RowV ss ∧ ∀ j, j < s.1 → ∃ v, ss[j]? = some v ∧ PRow H' v (s.2 j) n (idM j)) ∧ (∀ i j, i < s.1 → j < s.1 → s.2 i = s.2 j → i = j) ∧ ∀ j, j < s.1 → Hc.next ≤ s.2 j) (fun s => n - s.1) (0, fun _ => 0) (by simp) ⟨kc, Nat.le_refl _, by simp, ⟨_, hgc, by rw [times_one]; simp, ?_, by simp⟩, by simp, by simp⟩ ?_
 · intro v hv
   rw [times_one] at hv
   rw [List.eq_of_mem_replicate hv]; rfl
 rintro ⟨i, rb⟩ H1 ⟨k1, hn1, hi, ⟨ss, hg1, hss, hrv, hrows⟩, hinj, hnew⟩
 simp only at hi hrows hinj hnew
 by_cases hin : i < n
 · have w1 : wr .i64 ((i : Int) + 1) = ((i + 1 : Nat) : Int) := by rw [wr_i64 (by omega) (by omega)]; simp
   simp [hin]
   rw [mk_run k1.ok (by omega) (by omega)]
   obtain ⟨r, hr⟩ : ∃ r, r = H1.next := ⟨_, rfl⟩
   obtain ⟨Hr, hHr⟩ : ∃ Hr, Hr = H1.new (.cells (times [.pointer none] n) (.n 1)) := ⟨_, rfl⟩
   have kr : Keep ⟨plo, pok, none⟩ H1 Hr := by rw [hHr]; exact (Keep.refl k1.ok).new _
   have hpr : PRow Hr (.slice (some ⟨r, 0, none⟩) n n) r n (fun _ => 0) := by rw [hHr, hr]; exact PRow.new
   have hgr : Hr.get c = some (.cells ss (.n 1)) := kr.some k1.ok hg1
   have hmay : Perm.may ⟨plo, pok, none⟩ c = true := ho.may (by omega)
   simp [← hHr, ← hr, hin, hgr, hss, hmay]
   obtain ⟨S, hS⟩ : ∃ S, S = Value.slice (some ⟨r, 0, none⟩) n n := ⟨_, rfl⟩
   obtain ⟨H2, hH2⟩ : ∃ H2, H2 = Hr.put c (.cells (ss.set i (.slice (some ⟨r, 0, none⟩) n n)) (.n 1)) := ⟨_, rfl⟩
   have hcl : c < H1.next := k1.ok.lt hg1
   have hcr : c ≠ r := by omega
   have u2 : Upd ⟨plo, pok, none⟩ (fun b => b = c) Hr H2 := by rw [hH2]; exact Upd.put kr.ok hgr hrv (hrv.set rfl) (by simp)
   have hrr : Hr.next = r + 1 := by rw [hHr, hr]; rfl
   have hg2 : H2.get c = some (.cells (ss.set i (.slice (some ⟨r, 0, none⟩) n n)) (.n 1)) := by rw [hH2]; exact get_put_same
   have hpr2 : PRow H2 (.slice (some ⟨r, 0, none⟩) n n) r n (fun _ => 0) := hpr.mut kr.ok u2.toMut (u2.same r (by omega) (fun h => hcr h.symm))
   rw [← hH2]
   refine LoopAt.of (fun k : Nat => [(3, .slice (some ⟨c, 0, none⟩) n n), (4, .int .i64 (i : Int)), (0, .int .i64 (n : Int)), (9, .int .i64 (n : Int)), (10, .int .i64 (i : Int)), (22, .int .i64 (n : Int)), (23, .int .i64 (k : Int))])
    (fun k H' => Upd ⟨plo, pok, none⟩ (fun b => b = r) H2 H' ∧ k ≤ n ∧ PRow H' (.slice (some ⟨r, 0, none⟩) n n) r n (fun _ => 0)) (fun k => n - k) 0 (by simp) ⟨.refl u2.ok, by simp, hpr2⟩ ?_
   rintro k H3 ⟨u3, hk, hpr3⟩
   have hres : ∀ k, H3.get (H3.next + k) = none := fun k => u3.ok.wf _ (by omega)
   have hres0 : H3.get H3.next = none := u3.ok.wf _ (by omega)
   have hH2n : H2.next = Hr.next := by rw [hH2]; rfl
   have hg3 : H3.get c = some (.cells (ss.set i (.slice (some ⟨r, 0, none⟩) n n)) (.n 1)) := (u3.same c (by omega) hcr).trans hg2
   obtain ⟨cap3, ps3, e3, hgr3, hl3, _, hv3, hf3⟩ := hpr3.parts
   have hc3 : c < H3.next := u3.ok.lt hg3
   have hr3 : r < H3.next := u3.ok.lt hgr3
   have hss3 : (ss.set i (.slice (some ⟨r, 0, none⟩) n n))[i]? = some (.slice (some ⟨r, 0, none⟩) n n) := by rw [List.getElem?_set_self (by omega)]
   have hmr : ∀ o, Perm.may ⟨plo, pok, o⟩ r = true := fun o => ho.may (by omega)
   by_cases hkn : k < n
   · have w2 : wr .i64 ((k : Int) + 1) = ((k + 1 : Nat) : Int) := by rw [wr_i64 (by omega) (by omega)]; simp
     simp [hkn]
     refine DrawAt.of u3.ok.lo rfl ?_
     simp [inOrd, hres, hres0, hin, hg3, hss3]
     refine CallD.of (vs := [.int .i64 0]) (by simp [hres]) (by simp) (by simp) rfl (Of_zero hX (H := H3.up 8) (u3.ok.up 8).fresh) ?_
     rintro r4 H4 ⟨k4, hr4⟩
     have hgr4 : H4.get r = some (.cells ps3 (.n 1)) := (k4.get r (by simp; omega)).trans hgr3
     have hres4 : ∀ j, j < 8 → H4.get (H3.next + j) = none := fun j hj => (k4.get _ (by simp; omega)).trans (hres j)
     have hn4 := k4.next
     have k4' : Keep ⟨plo, pok, none⟩ (H3.up 8) H4 := k4.perm rfl (u3.ok.up 8).lo
     obtain ⟨a4, rfl⟩ := hr4.ptr
     have hpr4 := hpr3.keep u3.ok (((Keep.refl u3.ok).up 8).trans k4')
     have hput := PRow.put k4'.ok hpr4 hgr4 hkn hr4
     have hres5 : ∀ j x, j < 8 → (H4.put r x).get (H3.next + j) = none := fun j x hj => (get_put_ne (by omega)).trans (hres4 j hj)
     have hd1 : ∀ l, disj [] l = true := fun l => rfl
     have hd2 : ∀ l, disj l [] = true := fun l => by simp [disj]
     simp [hkn, hres4, hgr4, hl3, hmr, confFine, madeB, ptrs, hd1, hc3, hr3, w2]
     exact .of (k + 1) (by show n - (k + 1) < n - k; omega) (by simp) ⟨u3.trans ((((Keep.refl u3.ok).up 8).trans k4').upd.trans hput.2), by omega, hput.1.congr fun j _ => by simp⟩
   · have hkn' : k = n := by omega
     subst hkn'
     simp
     refine DrawAt.of u3.ok.lo rfl ?_
     simp [inOrd, hres, hres0, hin, hg3, hss3]
     refine CallD.of (vs := [.int .i64 1]) (by simp [hres]) (by simp) (by simp) rfl (Of_one hX (H := H3.up 8) (u3.ok.up 8).fresh) ?_
     rintro r4 H4 ⟨k4, hr4⟩
     have hgr4 : H4.get r = some (.cells ps3 (.n 1)) := (k4.get r (by simp; omega)).trans hgr3
     have hres4 : ∀ j, j < 8 → H4.get (H3.next + j) = none := fun j hj => (k4.get _ (by simp; omega)).trans (hres j)
     have hn4 := k4.next
     have k4' : Keep ⟨plo, pok, none⟩ (H3.up 8) H4 := k4.perm rfl (u3.ok.up 8).lo
     obtain ⟨a4, rfl⟩ := hr4.ptr
     have hpr4 := hpr3.keep u3.ok (((Keep.refl u3.ok).up 8).trans k4')
     have hput := PRow.put k4'.ok hpr4 hgr4 hin hr4
     have hd1 : ∀ l, disj [] l = true := fun l => rfl
     simp [hin, hres4, hgr4, hl3, hmr, confFine, madeB, ptrs, hd1, hc3, hr3, w1]
     have u4 : Upd ⟨plo, pok, none⟩ (fun b => b = r) H2 (H4.put r (.cells (ps3.set i (.pointer a4)) (.n 1))) := u3.trans ((((Keep.refl u3.ok).up 8).trans k4').upd.trans hput.2)
     have hu1 : Upd ⟨plo, pok, none⟩ (fun b => b = c ∨ b = r) H1 (H4.put r (.cells (ps3.set i (.pointer a4)) (.n 1))) := kr.upd.trans ((u2.weaken fun b _ h => .inl h).trans (u4.weaken fun b _ h => .inr h))
     have hg4 : (H4.put r (.cells (ps3.set i (.pointer a4)) (.n 1))).get c = some (.cells (ss.set i (.slice (some ⟨r, 0, none⟩) k k)) (.n 1)) := (u4.same c (by omega) hcr).trans hg2
     refine .of (i + 1, fun j => if j = i then r else rb j) (by show k - (i + 1) < k - i; omega) (by simp) ⟨hu1.keep k1 fun b hb h => by rcases h with h | h <;> omega, by have := hu1.next; omega, by simp; omega, ⟨_, hg4, by simp [hss], hrv.set rfl, fun j hj => ?_⟩, fun p q hp hq hpq => ?_, fun j hj => ?_⟩
     · by_cases hji : j = i
       · subst hji
         exact ⟨_, hss3, by simp; exact hput.1.congr fun t _ => by simp [idM]⟩
       · have hj' : j < i := by simp at hj; omega
         obtain ⟨v, v1, v2⟩ := hrows j hj'
         refine ⟨v, by rw [List.getElem?_set_ne (by omega)]; exact v1, ?_⟩
         simp [hji]
         have hjl := v2.lt k1.ok
         have hjn := hnew j hj'
         refine v2.mut k1.ok hu1.toMut (hu1.same _ hjl fun h => ?_)
         rcases h with h | h <;> omega
     · simp only at hpq
       simp at hp hq
       have lt : ∀ t, t < i → rb t < H1.next := fun t ht => by
        obtain ⟨v, _, v2⟩ := hrows t ht
        exact v2.lt k1.ok
       by_cases h1 : p = i <;> by_cases h2 : q = i <;> simp [h1, h2] at hpq
       · omega
       · have := lt q (by omega); omega
       · have := lt p (by omega); omega
       · exact hinj p q (by omega) (by omega) hpq
     · by_cases hji : j = i
       · simp [hji]; omega
       · simp [hji]; exact hnew j (by simp at hj; omega)
 · have : i = n := by omega
   subst this
   simp
   exact ⟨k1, c, rb, ⟨⟨i, ss, rfl, hg1, hss, Nat.le_refl _, hrows⟩, hinj, fun j hj => by have := hnew j hj; omega⟩, by omega, fun j hj => by have := hnew j hj; omega⟩
end
end Go.Dam.C
namespace Go.Dam.C
open Go Go.Dam
/-! ## Another set of blocks -/
theorem Dig.refoot (F G : Foot) {H : Heap} {v : Value} {ds : List Nat} (hw : ∀ b, H.next ≤ b → H.get b = none) (hs : ∀ b, b < H.next → F.s b → G.s b) (h : @Dig F H v ds) : @Dig G H v ds := by
 refine ⟨h.1, h.2.imp id ?_⟩
 rintro ⟨c, off, cap, y, row, h1, h2, h3, h4, h5, h6, h7⟩
 refine ⟨c, off, cap, y, row, h1, h2, h3, h4, h5, h6, hs c ?_ h7⟩
 apply Classical.byContradiction
 intro hb
 rw [hw c (by omega)] at h2
 cases h2
theorem IsN.refoot (F G : Foot) {H : Heap} {v : Value} {ds : List Nat} (hw : ∀ b, H.next ≤ b → H.get b = none) (hs : ∀ b, b < H.next → F.s b → G.s b) (h : @IsN F H v ds) : @IsN G H v ds := by
 refine h.imp id ?_
 rintro ⟨b, x, s, h1, h2, h3, h4⟩
 exact ⟨b, x, s, h1, h2, h3, Dig.refoot F G hw hs h4⟩
theorem IsNat.refoot (F G : Foot) {H : Heap} {v : Value} {n : Nat} (hw : ∀ b, H.next ≤ b → H.get b = none) (hs : ∀ b, b < H.next → F.s b → G.s b) (h : @IsNat F H v n) : @IsNat G H v n :=
 @IsNat.mk G H v n ((@IsNat.ex F H v n h).imp fun _ q => ⟨IsN.refoot F G hw hs q.1, q.2⟩)
theorem IsFrac.refoot (F G : Foot) {H : Heap} {v : Value} {q : Rat} (hw : ∀ b, H.next ≤ b → H.get b = none) (hs : ∀ b, b < H.next → F.s b → G.s b) (h : @IsFrac F H v q) : @IsFrac G H v q := by
 refine @IsFrac.mk G H v q ((@IsFrac.ex F H v q h).imp id ?_)
 rintro ⟨b, x, pn, pd, h1, h2, h3, h4, h5⟩
 exact ⟨b, x, pn, pd, h1, h2, h3, IsNat.refoot F G hw hs h4, IsNat.refoot F G hw hs h5⟩
theorem PRow.refoot (F G : Foot) {H : Heap} {v : Value} {c n : Nat} {x : Nat → Rat} (hw : ∀ b, H.next ≤ b → H.get b = none) (hs : ∀ b, b < H.next → F.s b → G.s b) (h : @PRow F H v c n x) : @PRow G H v c n x := by
 obtain ⟨cap, ps, h1, h2, h3, h4, h5⟩ := @PRow.ex F H v c n x h
 exact @PRow.mk G H v c n x ⟨cap, ps, h1, h2, h3, h4, fun i hi => (h5 i hi).imp fun p q => ⟨q.1, IsFrac.refoot F G hw hs q.2⟩⟩
theorem Ok.refoot (F G : Foot) {pm : Perm} {H : Heap} (h : @Ok F pm H) (hs : ∀ b, H.next ≤ b → G.s b) : @Ok G pm H := @Ok.mk G pm H (@Ok.num F pm H h) (@Ok.lo F pm H h) (@Ok.wf F pm H h) hs
theorem Keep.refoot (F G : Foot) {pm : Perm} {H H' : Heap} (h : @Keep F pm H H') (hs : ∀ b, H'.next ≤ b → G.s b) : @Keep G pm H H' := @Keep.mk G pm H H' (Ok.refoot F G (@Keep.ok F pm H H' h) hs) (@Keep.next F pm H H' h) (@Keep.get F pm H H' h)
variable [Foot]
variable {X : Cx} {pm : Perm} {H H' H'' : Heap}
theorem Dig.le {v : Value} {ds : List Nat} (h : Dig H v ds) (hl : ∀ b y, H.get b = some y → H'.get b = some y) : Dig H' v ds := by
 refine ⟨h.1, h.2.imp id ?_⟩
 rintro ⟨c, off, cap, y, row, h1, h2, h3⟩
 exact ⟨c, off, cap, y, row, h1, hl _ _ h2, h3⟩
theorem IsN.le {v : Value} {ds : List Nat} (h : IsN H v ds) (hl : ∀ b y, H.get b = some y → H'.get b = some y) : IsN H' v ds := by
 refine h.imp id ?_
 rintro ⟨b, x, s, h1, h2, h3, h4⟩
 exact ⟨b, x, s, h1, hl _ _ h2, h3, h4.le hl⟩
theorem IsNat.le {v : Value} {n : Nat} (h : IsNat H v n) (hl : ∀ b y, H.get b = some y → H'.get b = some y) : IsNat H' v n := ⟨h.ex.imp fun _ q => ⟨q.1.le hl, q.2⟩⟩
theorem IsFrac.le {v : Value} {q : Rat} (h : IsFrac H v q) (hl : ∀ b y, H.get b = some y → H'.get b = some y) : IsFrac H' v q := by
 refine ⟨h.ex.imp id ?_⟩
 rintro ⟨b, x, pn, pd, h1, h2, h3, h4, h5⟩
 exact ⟨b, x, pn, pd, h1, hl _ _ h2, h3, h4.le hl, h5.le hl⟩
/-! ## A block that is given up -/
theorem Dig.kill {v : Value} {ds : List Nat} (h : Dig H v ds) {c : Nat} (hc : ¬ Foot.s c) (x : Blk) : Dig (H.put c x) v ds := by
 refine ⟨h.1, h.2.imp id ?_⟩
 rintro ⟨c', off, cap, y, row, h1, h2, h3, h4, h5, h6, h7⟩
 exact ⟨c', off, cap, y, row, h1, by rw [get_put_ne (by rintro rfl; exact hc h7)]; exact h2, h3, h4, h5, h6, h7⟩
theorem IsN.kill {v : Value} {ds : List Nat} (h : IsN H v ds) {c : Nat} (hc : ¬ Foot.s c) {y : Blk} (hy : H.get c = some y) (ht : typedB y = false) (x : Blk) : IsN (H.put c x) v ds := by
 refine h.imp id ?_
 rintro ⟨b, z, s, h1, h2, h3, h4⟩
 refine ⟨b, z, s, h1, ?_, h3, h4.kill hc x⟩
 rw [get_put_ne]
 · exact h2
 · rintro rfl
   rw [hy] at h2
   cases h2
   rw [h3.2] at ht
   cases ht
theorem IsNat.kill {v : Value} {n : Nat} (h : IsNat H v n) {c : Nat} (hc : ¬ Foot.s c) {y : Blk} (hy : H.get c = some y) (ht : typedB y = false) (x : Blk) : IsNat (H.put c x) v n :=
 ⟨h.ex.imp fun _ q => ⟨q.1.kill hc hy ht x, q.2⟩⟩
theorem IsFrac.kill {v : Value} {q : Rat} (h : IsFrac H v q) {c : Nat} (hc : ¬ Foot.s c) {y : Blk} (hy : H.get c = some y) (ht : typedB y = false) (x : Blk) : IsFrac (H.put c x) v q := by
 refine ⟨h.ex.imp id ?_⟩
 rintro ⟨b, z, pn, pd, h1, h2, h3, h4, h5⟩
 refine ⟨b, z, pn, pd, h1, ?_, h3, h4.kill hc hy ht x, h5.kill hc hy ht x⟩
 rw [get_put_ne]
 · exact h2
 · rintro rfl
   rw [hy] at h2
   cases h2
   rw [h3.2] at ht
   cases ht
/-! ## A basis -/
structure IsBasis (H : Heap) (v : Value) (n b C V : Nat) (cb vb : Nat → Nat) (A B : Nat → Nat → Rat) : Prop where
 ex : ∃ x vc vi, v = .pointer (some ⟨b, 0, none⟩) ∧ H.get b = some x ∧ RowT x [vc, vi] ∧ MRow H vc C cb n n A ∧ MRow H vi V vb n n B
 cv : C ≠ V
 cbV : ∀ i, i < n → cb i ≠ V
 vbC : ∀ i, i < n → vb i ≠ C
 cbvb : ∀ i j, i < n → j < n → cb i ≠ vb j
theorem MRow.keep {v : Value} {c n m : Nat} {rb : Nat → Nat} {A : Nat → Nat → Rat} (h : MRow H v c rb n m A) (ho : Ok pm H) (hk : Keep pm H H') : MRow H' v c rb n m A := by
 obtain ⟨⟨cap, ss, h1, h2, h3, h4, h5⟩, hi, hn⟩ := h
 exact ⟨⟨cap, ss, h1, hk.some ho h2, h3, h4, fun i hi => (h5 i hi).imp fun s q => ⟨q.1, q.2.keep ho hk⟩⟩, hi, hn⟩
theorem MRow.lt {v : Value} {c n m : Nat} {rb : Nat → Nat} {A : Nat → Nat → Rat} (h : MRow H v c rb n m A) (ho : Ok pm H) : c < H.next ∧ ∀ i, i < n → rb i < H.next := by
 obtain ⟨⟨cap, ss, h1, h2, h3, h4, h5⟩, hi, hn⟩ := h
 exact ⟨ho.lt h2, fun i hi => by obtain ⟨s, _, q⟩ := h5 i hi; exact q.lt ho⟩
theorem IsBasis.keep {v : Value} {n b C V : Nat} {cb vb : Nat → Nat} {A B : Nat → Nat → Rat} (h : IsBasis H v n b C V cb vb A B) (ho : Ok pm H) (hk : Keep pm H H') : IsBasis H' v n b C V cb vb A B := by
 obtain ⟨⟨x, vc, vi, h1, h2, h3, h4, h5⟩, g1, g2, g3, g4⟩ := h
 exact ⟨⟨x, vc, vi, h1, hk.some ho h2, h3, h4.keep ho hk, h5.keep ho hk⟩, g1, g2, g3, g4⟩
theorem New_basis (hX : LX X) (ho : Ok pm H) {n : Nat} (hn : n ≤ 440) :
  Call X pm F.a_New [.int .i64 (n : Int)] H fun r H' => Keep pm H H' ∧ ∃ b C V cb vb, IsBasis H' r n b C V cb vb idM idM ∧ H.next ≤ C ∧ H.next ≤ V ∧ (∀ i, i < n → H.next ≤ cb i) ∧ (∀ i, i < n → H.next ≤ vb i) := by
 refine Call.has hX.a_New rfl ?_
 have hn2 : ¬ 440 < n := by omega
 simp [hn2]
 refine CallAt.of (by simp) (by simp) (units_spec hX ho hn) ?_
 rintro v1 H1 ⟨k1, C, cb, hm1, hC, hcb⟩
 simp
 refine CallAt.of (by simp) (by simp) (units_spec hX k1.ok hn) ?_
 rintro v2 H2 ⟨k2, V, vb, hm2, hV, hvb⟩
 obtain ⟨l1, l2⟩ := hm1.lt k1.ok
 have hm1' := hm1.keep k1.ok k2
 obtain ⟨cap1, ss1, rfl, q1⟩ := hm1'.ex
 obtain ⟨cap2, ss2, rfl, q2⟩ := hm2.ex
 simp [k2.ok.make, k2.ok.pick]
 have k3 := (Keep.refl k2.ok).new (Blk.cells [.slice (some ⟨C, 0, none⟩) n cap1, .slice (some ⟨V, 0, none⟩) n cap2] (.t T.a_New_0))
 have hn1 := k1.next
 refine ⟨k1.trans (k2.trans k3), H2.next, C, V, cb, vb, ⟨⟨_, _, _, rfl, get_new_next, ⟨rfl, rfl⟩, hm1'.keep k2.ok k3, hm2.keep k2.ok k3⟩, by omega, fun i hi => ?_, fun i hi => ?_, fun i j hi hj => ?_⟩, hC, by omega, hcb, fun i hi => ?_⟩
 · have := l2 i hi; omega
 · have := hvb i hi; omega
 · have := l2 i hi; have := hvb j hj; omega
 · have := hvb i hi; omega
end Go.Dam.C
namespace Go.Dam.C
open Go Go.Dam
variable {X : Cx} {pm : Perm} {H H' H'' : Heap}
end Go.Dam.C
namespace Go.Dam.C
section
open Go Go.Dam
abbrev fless (F : Foot) (c : Nat) : Foot := ⟨fun b => F.s b ∧ b ≠ c⟩
theorem getCells_all (l : List Value) : getCells l 0 l.length = some l := by
 simp [getCells]
/-- A row that grows by one: the old block is given up. -/
theorem grow_row (F : Foot) {pm : Perm} {H1 H2 : Heap} {cx i : Nat} {ps : List Value} {x : Nat → Rat} {p : Value} {q : Rat} (k2 : @Keep (fless F cx) pm H1 H2) (hF : ∀ b, H1.next ≤ b → F.s b)
  (h1 : H1.get cx = some (.cells ps (.n 1))) (h2 : ps.length = i) (hw : @Ok (fless F cx) pm H1) (h3 : ∀ j, j < i → ∃ p, ps[j]? = some p ∧ @IsFrac (fless F cx) H1 p (x j)) (hp : @IsFrac (fless F cx) H2 p q) {H3 : Heap} {cx' : Nat}
  (e3 : H3 = ((H2.new (.cells [p] (.n 1))).put cx .dead).new (.cells (ps ++ [p]) (.n 1))) (ec : cx' = H2.next + 1) :
  H3.get cx' = some (.cells (ps ++ [p]) (.n 1)) ∧ @Ok (fless F cx') pm H3 ∧ ∀ j, j < i + 1 → ∃ p', (ps ++ [p])[j]? = some p' ∧ @IsFrac (fless F cx') H3 p' (if j = i then q else x j) := by
 have ok2 := @Keep.ok (fless F cx) _ _ _ k2
 have hcx : cx < H1.next := @Ok.lt (fless F cx) _ _ hw _ _ h1
 have hn2 := @Keep.next (fless F cx) _ _ _ k2
 have kn : @Keep (fless F cx) pm H2 (H2.new (.cells [p] (.n 1))) := @Keep.new (fless F cx) _ _ _ (@Keep.refl (fless F cx) _ _ ok2) _
 have hg2 : (H2.new (.cells [p] (.n 1))).get cx = some (.cells ps (.n 1)) := by
  rw [get_new_lt (by omega)]
  exact (@Keep.get (fless F cx) _ _ _ k2 cx hcx).trans h1
 have hwf2 : ∀ b, H2.next + 1 ≤ b → ((H2.new (.cells [p] (.n 1))).put cx .dead).get b = none := fun b hb => by
  rw [get_put_ne (by omega)]
  exact (@Ok.wf (fless F cx) _ _ (@Keep.ok (fless F cx) _ _ _ kn)) b hb
 have ok3 : @Ok (fless F cx') pm H3 := by
  rw [e3]
  refine @Ok.mk (fless F cx') pm _ (@Ok.num (fless F cx) _ _ ok2) (Nat.le_trans (@Ok.lo (fless F cx) _ _ ok2) (by show H2.next ≤ H2.next + 1 + 1; omega)) (fun b hb => ?_) (fun b hb => ?_)
  · have hb : H2.next + 1 + 1 ≤ b := hb
    rw [Heap.get_new, if_neg (by show b ≠ H2.next + 1; omega)]
    exact hwf2 b (by omega)
  · have hb : H2.next + 1 + 1 ≤ b := hb
    exact ⟨hF b (by omega), by omega⟩
 have conv : ∀ {u : Value} {r : Rat}, @IsFrac (fless F cx) H2 u r → @IsFrac (fless F cx') H3 u r := by
  intro u r hu
  have a1 := @IsFrac.keep (fless F cx) _ _ _ _ _ hu ok2 kn
  have a2 := @IsFrac.kill (fless F cx) _ _ _ a1 cx (fun h => h.2 rfl) _ hg2 rfl .dead
  have a3 : @IsFrac (fless F cx') ((H2.new (.cells [p] (.n 1))).put cx .dead) u r := IsFrac.refoot (fless F cx) (fless F cx') hwf2 (fun b hb h => ⟨h.1, by have hb : b < H2.next + 1 := hb; omega⟩) a2
  rw [e3]
  refine @IsFrac.le (fless F cx') _ _ _ _ a3 fun b y hy => ?_
  rw [get_new_lt]
  · exact hy
  · apply Classical.byContradiction
    intro hb
    rw [hwf2 b (by have : ¬ b < H2.next + 1 := hb; omega)] at hy
    cases hy
 refine ⟨by rw [e3, ec]; exact get_new_next, ok3, fun j hj => ?_⟩
 by_cases hji : j = i
 · subst hji
   refine ⟨p, by rw [← h2]; simp, ?_⟩
   simp only [if_true]
   exact conv hp
 · obtain ⟨u, u1, u2⟩ := h3 j (by omega)
   refine ⟨u, by rw [List.getElem?_append_left (by omega)]; exact u1, ?_⟩
   simp only [hji, if_false]
   exact conv (@IsFrac.keep (fless F cx) _ _ _ _ _ u2 hw k2)
end
section
open Go Go.Dam
theorem Solve_spec [Fo : Foot] {X : Cx} {pm : Perm} {H : Heap} (hX : LX X) (ho : Ok pm H) {v vy : Value} {n b C V cy k K : Nat} {cb vb : Nat → Nat} {A B : Nat → Nat → Rat} {y : Nat → Rat} (hb : IsBasis H v n b C V cb vb A B) (hy : PRow H vy cy n y) (hn : n ≤ 440)
  (sB : ∀ i j, i < n → j < n → sz (B i j) k) (sy : ∀ i, i < n → sz (y i) k) (sK : ∀ i j, i < n → j ≤ n → sz (sumTo (fun t => B i t * y t) j) K) (hkK : 2 * k ≤ K) (hK : K < 67108864) :
  Call X pm F.a_Solve [v, vy] H fun r H' => Keep pm H H' ∧ ∃ cx, PRow H' r cx n (fun i => sumTo (fun t => B i t * y t) n) ∧ H.next ≤ cx := by
 obtain ⟨plo, pok, pnum⟩ := pm
 obtain rfl : pnum = none := ho.num
 refine Call.has hX.a_Solve rfl ?_
 obtain ⟨⟨bx, vc, vi, rfl, hgb, hrb, hmc, hmv⟩, _⟩ := hb
 obtain ⟨capC, ssC, rfl, hgC, hlC, hcC, hrC⟩ := hmc.ex
 obtain ⟨capV, ssV, rfl, hgV, hlV, hcV, hrV⟩ := hmv.ex
 obtain ⟨capy, psy, rfl, hgy, hly, hcy, hry⟩ := id hy.ex
 obtain ⟨hrb, _⟩ := hrb
 have hbl : b < H.next := ho.lt hgb
 have hg0 : ∀ x, (H.new x).get b = some bx := fun x => by rw [get_new_lt hbl]; exact hgb
 simp [hgb, hrb, fill, ho.make, ho.pick, hg0]
 have kn : Keep ⟨plo, pok, none⟩ H (H.new (.cells [] (.n 1))) := (Keep.refl ho).new _
 have hFo : ∀ b, H.next ≤ b → Fo.s b := ho.new
 refine LoopAt.of (fun s : Nat × Nat => [(1, .slice (some ⟨cy, 0, none⟩) n capy), (5, .slice (some ⟨s.2, 0, none⟩) s.1 s.1), (24, .slice (some ⟨V, 0, none⟩) n capV), (25, .int .i64 (n : Int)), (26, .int .i64 (s.1 : Int))])
  (fun s H1 => Keep ⟨plo, pok, none⟩ H H1 ∧ s.1 ≤ n ∧ H.next ≤ s.2 ∧ @Ok (fless Fo s.2) ⟨plo, pok, none⟩ H1 ∧ ∃ ps, H1.get s.2 = some (.cells ps (.n 1)) ∧ ps.length = s.1 ∧ ∀ j, j < s.1 → ∃ p, ps[j]? = some p ∧ @IsFrac (fless Fo s.2) H1 p (sumTo (fun t => B j t * y t) n)) (fun s => n - s.1) (0, H.next) (by simp)
  ⟨kn, by simp, by simp, Ok.refoot Fo (fless Fo H.next) kn.ok (fun b hb => ⟨hFo b (by simp at hb; omega), by simp at hb; omega⟩), [], by simp, rfl, by simp⟩ ?_
 rintro ⟨i, cx⟩ H1 ⟨k1, hi, hcx, ok1, ps, hg1, hl1, hp1⟩
 simp only at hi hcx ok1 hg1 hl1 hp1
 by_cases hin : i < n
 · have w1 : wr .i64 ((i : Int) + 1) = ((i + 1 : Nat) : Int) := by rw [wr_i64 (by omega) (by omega)]; simp
   obtain ⟨row, r1, r2⟩ := hrV i hin
   have hs1 : ∀ b, b < H.next → Fo.s b → (fless Fo cx).s b := fun b hb h => ⟨h, by omega⟩
   have ler : ∀ b x, H.get b = some x → H1.get b = some x := fun b x hb => k1.some ho hb
   have row1 : @PRow (fless Fo cx) H1 row (vb i) n (B i) := by
    have h := PRow.refoot Fo (fless Fo cx) ho.wf hs1 r2
    obtain ⟨cap, ps, q1, q2, q3, q4, q5⟩ := @PRow.ex (fless Fo cx) _ _ _ _ _ h
    exact @PRow.mk (fless Fo cx) _ _ _ _ _ ⟨cap, ps, q1, ler _ _ q2, q3, q4, fun j hj => (q5 j hj).imp fun p h => ⟨h.1, @IsFrac.le (fless Fo cx) _ _ _ _ h.2 ler⟩⟩
   have y1 : @PRow (fless Fo cx) H1 (.slice (some ⟨cy, 0, none⟩) n capy) cy n y := by
    have h := PRow.refoot Fo (fless Fo cx) ho.wf hs1 hy
    obtain ⟨cap, ps, q1, q2, q3, q4, q5⟩ := @PRow.ex (fless Fo cx) _ _ _ _ _ h
    exact @PRow.mk (fless Fo cx) _ _ _ _ _ ⟨cap, ps, q1, ler _ _ q2, q3, q4, fun j hj => (q5 j hj).imp fun p h => ⟨h.1, @IsFrac.le (fless Fo cx) _ _ _ _ h.2 ler⟩⟩
   have hgV1 := k1.some ho hgV
   simp [hin, hgV1, r1]
   refine CallAt.of (by simp) (by simp) (@dot_spec (fless Fo cx) X _ H1 hX ok1 _ _ (vb i) cy n k K (B i) y row1 y1 (by omega) (sB i · hin) sy (sK i · hin) hkK hK) ?_
   rintro p H2 ⟨k2, hp⟩
   obtain ⟨a, rfl⟩ := @IsFrac.ptr (fless Fo cx) _ _ _ hp
   have hcx1 : cx < H1.next := @Ok.lt (fless Fo cx) _ _ ok1 _ _ hg1
   have hn2 := @Keep.next (fless Fo cx) _ _ _ k2
   have hg2 : ∀ x, (H2.new x).get cx = some (.cells ps (.n 1)) := fun x => by
    rw [get_new_lt (by omega)]
    exact (@Keep.get (fless Fo cx) _ _ _ k2 cx hcx1).trans hg1
   have hmay : Perm.may ⟨plo, pok, none⟩ cx = true := ho.may hcx
   have hgr := grow_row Fo k2 (fun b hb => hFo b (by have := k1.next; omega)) hg1 hl1 ok1 hp1 hp rfl rfl
   have htk : List.take i ps = ps := List.take_of_length_le (by omega)
   have hpk : ∀ (H : Heap), Perm.pick ⟨plo, pok, none⟩ H = H.next := fun _ => rfl
   have hmk : ∀ (H : Heap) x, Perm.make ⟨plo, pok, none⟩ H x = H.new x := fun _ _ => rfl
   simp [fill, hpk, hmk, effAppend, getCells, hg2, htk, hmay, hl1, show ¬ (i + 1 ≤ i) by omega, show (i + 1) * 8 ≤ 17179869184 by omega, show i + 1 ≤ 17179869184 by omega, w1]
   have hk1n := k1.next
   have k2F : Keep ⟨plo, pok, none⟩ H1 H2 := Keep.refoot (fless Fo cx) Fo k2 (fun b hb => hFo b (by omega))
   refine .of (i + 1, H2.next + 1) (by show n - (i + 1) < n - i; omega) (by simp) ⟨((((k1.trans k2F).new _).put hcx (hg2 _) .dead).new _), by simp; omega, by simp; omega, hgr.2.1, ps ++ [.pointer a], hgr.1, by simp [hl1], fun j hj => ?_⟩
   obtain ⟨p', p1, p2⟩ := hgr.2.2 j hj
   refine ⟨p', p1, ?_⟩
   by_cases hji : j = i
   · subst hji; simpa using p2
   · simpa [hji] using p2
 · have : i = n := by omega
   subst this
   simp
   refine ⟨k1, cx, ⟨i, ps, rfl, hg1, hl1, Nat.le_refl _, fun j hj => ?_⟩, hcx⟩
   obtain ⟨p, p1, p2⟩ := hp1 j hj
   exact ⟨p, p1, IsFrac.refoot (fless Fo cx) Fo k1.ok.wf (fun b _ h => h.1) p2⟩
end
end Go.Dam.C
namespace Go.Dam.C
open Go Go.Dam
variable [Foot]
variable {X : Cx} {pm : Perm} {H H' H'' : Heap}
end Go.Dam.C
namespace Go.Dam.C
open Go Go.Dam
variable {X : Cx} {pm : Perm} {H H' H'' : Heap}
theorem disj_ptrs {pm : Perm} {c : Nat} : ∀ {l : List Value}, (∀ a, .pointer (some a) ∈ l → a.block ≠ c) → disj (ptrs pm l) [c] = true
 | [], _ => rfl
 | v :: l, h => by
   have ih := disj_ptrs (pm := pm) (c := c) (l := l) fun a ha => h a (.tail _ ha)
   cases v with
   | pointer o =>
     cases o with
     | none => exact ih
     | some a =>
       simp only [ptrs]
       cases pm.may a.block with
       | false => exact ih
       | true =>
         simp only [cond_true, disj, List.all_cons, Bool.and_eq_true]
         exact ⟨by simp [h a (.head _)], ih⟩
   | _ => exact ih
end Go.Dam.C
namespace Go.Dam.C
open Go Go.Dam
variable [Foot]
variable {X : Cx} {pm : Perm} {H H' H'' : Heap}
theorem IsFrac.ne {p : Value} {q : Rat} (h : IsFrac H p q) {c : Nat} {y : Blk} (hy : H.get c = some y) (hn : ∀ u pn pd, ¬ RowT y [.bool u, pn, pd]) : ∀ a, p = .pointer (some a) → a.block ≠ c := by
 rintro a rfl hc
 rcases h.ex with ⟨e, _⟩ | ⟨b, x, pn, pd, h1, h2, h3, _⟩
 · cases e
 · cases h1
   subst hc
   rw [hy] at h2
   cases h2
   exact hn _ _ _ h3
end Go.Dam.C
namespace Go.Dam.C
open Go Go.Dam
variable {X : Cx} {pm : Perm} {H H' H'' : Heap}
theorem cells_no (cs : List Value) : ∀ u pn pd, ¬ RowT (.cells cs (.n 1)) [.bool u, pn, pd] := by
 rintro u pn pd ⟨_, h⟩
 cases h
end Go.Dam.C
namespace Go.Dam.C
open Go Go.Dam
variable [Foot]
variable {X : Cx} {pm : Perm} {H H' H'' : Heap}
theorem MRow.mut {S : Nat → Prop} {v : Value} {c n m : Nat} {rb : Nat → Nat} {A : Nat → Nat → Rat} (h : MRow H v c rb n m A) (ho : Ok pm H) (u : Upd pm S H H') (hc : ¬ S c) (hr : ∀ i, i < n → ¬ S (rb i)) : MRow H' v c rb n m A := by
 obtain ⟨lc, lr⟩ := h.lt ho
 obtain ⟨⟨cap, ss, h1, h2, h3, h4, h5⟩, hi, hn⟩ := h
 exact ⟨⟨cap, ss, h1, (u.same c lc hc).trans h2, h3, h4, fun i hi => (h5 i hi).imp fun s q => ⟨q.1, q.2.mut ho u.toMut (u.same _ (lr i hi) (hr i hi))⟩⟩, hi, hn⟩
theorem MRow.congr {v : Value} {c n m : Nat} {rb : Nat → Nat} {A B : Nat → Nat → Rat} (h : MRow H v c rb n m A) (e : ∀ i k, i < n → k < m → B i k = A i k) : MRow H v c rb n m B := by
 obtain ⟨⟨cap, ss, h1, h2, h3, h4, h5⟩, hi, hn⟩ := h
 exact ⟨⟨cap, ss, h1, h2, h3, h4, fun i hi => (h5 i hi).imp fun s q => ⟨q.1, q.2.congr fun k hk => e i k hi hk⟩⟩, hi, hn⟩
theorem MRow.put {v : Value} {c n m : Nat} {rb : Nat → Nat} {A : Nat → Nat → Rat} (ho : Ok pm H) (h : MRow H v c rb n m A) {i k : Nat} (hi : i < n) (hk : k < m) {ps : List Value} (hg : H.get (rb i) = some (.cells ps (.n 1))) {p : Value} {q : Rat} (hp : IsFrac H p q) :
  MRow (H.put (rb i) (.cells (ps.set k p) (.n 1))) v c rb n m (fun a b => if a = i ∧ b = k then q else A a b) ∧ Upd pm (fun b => b = rb i) H (H.put (rb i) (.cells (ps.set k p) (.n 1))) := by
 obtain ⟨lc, lr⟩ := h.lt ho
 obtain ⟨⟨cap, ss, h1, h2, h3, h4, h5⟩, hinj, hne⟩ := h
 obtain ⟨s, s1, s2⟩ := h5 i hi
 obtain ⟨cap', ps', rfl, _⟩ := s2.parts
 obtain ⟨p1, p2⟩ := PRow.put ho s2 hg hk hp
 refine ⟨⟨⟨cap, ss, h1, (p2.same c lc fun e => hne i hi e.symm).trans h2, h3, h4, fun a ha => ?_⟩, hinj, hne⟩, p2⟩
 by_cases hai : a = i
 · subst hai
   exact ⟨_, s1, p1.congr fun b _ => by simp⟩
 · obtain ⟨s', t1, t2⟩ := h5 a ha
   refine ⟨s', t1, (t2.mut ho p2.toMut (p2.same _ (lr a ha) fun e => hai (hinj a i ha hi e))).congr fun b _ => by simp [hai]⟩
theorem IsBasis.congr {v : Value} {n b C V : Nat} {cb vb : Nat → Nat} {A A' B B' : Nat → Nat → Rat} (h : IsBasis H v n b C V cb vb A B) (eA : ∀ i k, i < n → k < n → A' i k = A i k) (eB : ∀ i k, i < n → k < n → B' i k = B i k) : IsBasis H v n b C V cb vb A' B' := by
 obtain ⟨⟨x, vc, vi, h1, h2, h3, h4, h5⟩, g1, g2, g3, g4⟩ := h
 exact ⟨⟨x, vc, vi, h1, h2, h3, h4.congr eA, h5.congr eB⟩, g1, g2, g3, g4⟩
theorem IsBasis.mut {S : Nat → Prop} {v : Value} {n b C V : Nat} {cb vb : Nat → Nat} {A B : Nat → Nat → Rat} (h : IsBasis H v n b C V cb vb A B) (ho : Ok pm H) (u : Upd pm S H H') (hC : ¬ S C) (hV : ¬ S V) (hc : ∀ i, i < n → ¬ S (cb i)) (hv : ∀ i, i < n → ¬ S (vb i)) : IsBasis H' v n b C V cb vb A B := by
 obtain ⟨⟨x, vc, vi, h1, h2, h3, h4, h5⟩, g1, g2, g3, g4⟩ := h
 exact ⟨⟨x, vc, vi, h1, typed_mut u.toMut ho h2 h3.2, h3, h4.mut ho u hC hc, h5.mut ho u hV hv⟩, g1, g2, g3, g4⟩
theorem IsBasis.put {v : Value} {n b C V : Nat} {cb vb : Nat → Nat} {A B : Nat → Nat → Rat} (ho : Ok pm H) (h : IsBasis H v n b C V cb vb A B) {i k : Nat} (hi : i < n) (hk : k < n) {ps : List Value} (hg : H.get (vb i) = some (.cells ps (.n 1))) {p : Value} {q : Rat} (hp : IsFrac H p q) :
  IsBasis (H.put (vb i) (.cells (ps.set k p) (.n 1))) v n b C V cb vb A (fun a c => if a = i ∧ c = k then q else B a c) ∧ Upd pm (fun b => b = vb i) H (H.put (vb i) (.cells (ps.set k p) (.n 1))) := by
 obtain ⟨⟨x, vc, vi, h1, h2, h3, h4, h5⟩, g1, g2, g3, g4⟩ := h
 obtain ⟨m1, m2⟩ := MRow.put ho h5 hi hk hg hp
 exact ⟨⟨⟨x, vc, vi, h1, typed_mut m2.toMut ho h2 h3.2, h3, h4.mut ho m2 (fun e => g3 i hi e.symm) (fun j hj e => g4 j i hj hi e), m1⟩, g1, g2, g3, g4⟩, m2⟩
/-- A new column in the place of one. -/
theorem IsBasis.putC {v : Value} {n b C V : Nat} {cb vb : Nat → Nat} {A B : Nat → Nat → Rat} (ho : Ok pm H) (h : IsBasis H v n b C V cb vb A B) {i : Nat} (hi : i < n) {ss : List Value} (hg : H.get C = some (.cells ss (.n 1))) {o cap : Nat} {x : Nat → Rat} (hp : PRow H (.slice (some ⟨o, 0, none⟩) n cap) o n x)
  (hoC : o ≠ C) (hoV : o ≠ V) (hoc : ∀ j, j < n → o ≠ cb j) (hov : ∀ j, j < n → o ≠ vb j) :
  IsBasis (H.put C (.cells (ss.set i (.slice (some ⟨o, 0, none⟩) n cap)) (.n 1))) v n b C V (fun j => if j = i then o else cb j) vb (fun a c => if a = i then x c else A a c) B ∧ Upd pm (fun b => b = C) H (H.put C (.cells (ss.set i (.slice (some ⟨o, 0, none⟩) n cap)) (.n 1))) := by
 obtain ⟨⟨y, vc, vi, h1, h2, h3, h4, h5⟩, g1, g2, g3, g4⟩ := h
 obtain ⟨lc, lr⟩ := h4.lt ho
 obtain ⟨⟨capC, ss', e1, e2, e3, e4, e5⟩, hinj, hne⟩ := id h4
 rw [hg] at e2
 cases e2
 have hrv : RowV ss := by
  intro u hu
  obtain ⟨j, hj⟩ := List.getElem?_of_mem hu
  have hl := (List.getElem?_eq_some_iff.1 hj).1
  obtain ⟨s, s1, s2⟩ := e5 j (by omega)
  obtain ⟨_, _, rfl, _⟩ := s2.parts
  rw [hj] at s1
  cases s1
  rfl
 have u := Upd.put (cs' := ss.set i (.slice (some ⟨o, 0, none⟩) n cap)) ho hg hrv (hrv.set rfl) (by simp)
 have hol := hp.lt ho
 refine ⟨⟨⟨y, vc, vi, h1, typed_mut u.toMut ho h2 h3.2, h3, ⟨⟨capC, _, e1, get_put_same, by simp [e3], e4, fun j hj => ?_⟩, fun a b ha hb hab => ?_, fun a ha => ?_⟩, h5.mut ho u (fun e => g1 e.symm) (fun j hj e => g3 j hj e)⟩, g1, fun j hj => ?_, g3, fun a b ha hb => ?_⟩, u⟩
 · by_cases hji : j = i
   · subst hji
     refine ⟨_, List.getElem?_set_self (by omega), ?_⟩
     simp only [if_true]
     exact hp.mut ho u.toMut (u.same _ hol hoC)
   · obtain ⟨s, s1, s2⟩ := e5 j hj
     refine ⟨s, by rw [List.getElem?_set_ne (by omega)]; exact s1, ?_⟩
     simp only [hji, if_false]
     exact s2.mut ho u.toMut (u.same _ (lr j hj) (hne j hj))
 · by_cases q1 : a = i <;> by_cases q2 : b = i <;> simp only [q1, q2, if_true, if_false] at hab
   · rw [q1, q2]
   · exact absurd hab (hoc b hb)
   · exact absurd hab.symm (hoc a ha)
   · exact hinj a b ha hb hab
 · by_cases q1 : a = i
   · simp only [q1, if_true]; exact hoC
   · simp only [q1, if_false]; exact hne a ha
 · by_cases q1 : j = i
   · simp only [q1, if_true]; exact hoV
   · simp only [q1, if_false]; exact g2 j hj
 · by_cases q1 : a = i
   · simp only [q1, if_true]; exact hov b hb
   · simp only [q1, if_false]; exact g4 a b ha hb
end Go.Dam.C
namespace Go.Dam.C
section
open Go Go.Dam
variable [Foot]
variable {X : Cx} {pm : Perm} {H H' H'' : Heap}
def elimM (at' : Nat) (x : Nat → Rat) (B : Nat → Nat → Rat) (i k : Nat) : Rat := if i = at' then B i k else B i k - x i * B at' k
def PutPost (pm : Perm) (S : Nat → Prop) (H : Heap) (R : Heap → Prop) : Post := fun z l H' => (z = Ex.normal ∨ z = Ex.ret) ∧ ∃ vs, resL l H' [.slot 6] = some vs ∧ (tupOf vs = .bool true ∧ Upd pm S H H' ∧ R H')
theorem Put_elim (hX : LX X) {H0 : Heap} {S0 : Nat → Prop} (u0 : Upd pm S0 H0 H) {v vx : Value} {n b C V at' cx k : Nat} {cb vb : Nat → Nat} {A B : Nat → Nat → Rat} {x : Nat → Rat} (hb : IsBasis H v n b C V cb vb A B) (hx : PRow H vx cx n x) (hn : n ≤ 440) (hat : at' < n)
  (hcx : ∀ i, i < n → cx ≠ vb i) (hmay : ∀ i, i < n → pm.may (vb i) = true) (hS : ∀ i, i < n → S0 (vb i)) (sB : ∀ i j, i < n → j < n → sz (B i j) k) (sx : ∀ i, i < n → sz (x i) k) (hk : k < 33554432) {L : Sl} (l0 : lk 0 L = some v) (l1 : lk 1 L = some (.int .i64 (at' : Int))) (l7 : lk 7 L = some vx) :
  wp X pm (.code a_Put_k16) L H [] (PutPost pm S0 H0 fun H' => IsBasis H' v n b C V cb vb A (elimM at' x B)) := by
 have ho := u0.ok
 obtain ⟨plo, pok, pnum⟩ := pm
 obtain rfl : pnum = none := ho.num
 have hmay' : ∀ o i, i < n → Perm.may ⟨plo, pok, o⟩ (vb i) = true := fun o i hi => hmay i hi
 obtain ⟨⟨bx, vc, vi, rfl, hgb, hrb, hmc, hmv⟩, hsep⟩ := id hb
 obtain ⟨capV, ssV, rfl, hgV, hlV, hcV, hrV⟩ := hmv.ex
 obtain ⟨capx, psx, rfl, hgx, hlx, hcx0, hfx⟩ := id hx.ex
 simp [l0, hgb, hrb.1, -a_Put_b14]
 refine LoopAt.of (fun i : Nat => [(0, .pointer (some ⟨b, 0, none⟩)), (1, .int .i64 (at' : Int)), (7, .slice (some ⟨cx, 0, none⟩) n capx), (104, .int .i64 (n : Int)), (105, .int .i64 (i : Int))])
  (fun i H' => Upd ⟨plo, pok, none⟩ (fun b => ∃ i, i < n ∧ b = vb i) H H' ∧ i ≤ n ∧ IsBasis H' (.pointer (some ⟨b, 0, none⟩)) n b C V cb vb A (fun a c => if a < i then elimM at' x B a c else B a c)) (fun i => n - i) 0 (by simp [l0, l1, l7]) ⟨.refl ho, by simp, hb.congr (fun _ _ _ _ => rfl) fun _ _ _ _ => by simp⟩ ?_
 rintro i H1 ⟨u1, hi, hb1⟩
 have hx1 : PRow H1 (.slice (some ⟨cx, 0, none⟩) n capx) cx n x := hx.mut ho u1.toMut (u1.same _ (hx.lt ho) fun ⟨i, hi, e⟩ => hcx i hi e)
 obtain ⟨capx1, psx1, e1, hgx1, hlx1, _, hfx1⟩ := id hx1.ex
 by_cases hin : i < n
 · obtain ⟨p, hp1, hp2⟩ := hfx1 i hin
   have w1 : wr .i64 ((i : Int) + 1) = ((i + 1 : Nat) : Int) := by rw [wr_i64 (by omega) (by omega)]; simp
   by_cases hia : i = at'
   · subst hia
     simp [hin, -a_Put_k8]
     refine CallAt.not (by simp) ?_
     simp [w1]
     refine .of (i + 1) (by show n - (i + 1) < n - i; omega) (by simp) ⟨u1, by omega, hb1.congr (fun _ _ _ _ => rfl) fun a c ha hc => ?_⟩
     by_cases h1 : a < i
     · simp [h1, show a < i + 1 by omega]
     · by_cases h2 : a = i
       · subst h2; simp [elimM]
       · simp [h1, show ¬ a < i + 1 by omega]
   · have hia2 : ((i : Int) == (at' : Int)) = false := by simp; omega
     simp [hin, hia2, hgx1, hp1, -a_Put_k8]
     refine CallAt.of (by simp) (by simp) (Sign0_spec hX.toNX u1.ok hp2 (sx i hin) (by omega)) ?_
     rintro _ H2 ⟨k2, sv, rfl, hsv⟩
     have u2 := u1.trans k2.upd
     have hb2 := hb1.keep u1.ok k2
     by_cases hx0 : x i = 0
     · simp [hsv, hx0, w1, -a_Put_k8]
       refine .of (i + 1) (by show n - (i + 1) < n - i; omega) (by simp) ⟨u2, by omega, hb2.congr (fun _ _ _ _ => rfl) fun a c ha hc => ?_⟩
       by_cases h1 : a < i
       · simp [h1, show a < i + 1 by omega]
       · by_cases h2 : a = i
         · subst h2; simp [elimM, hia, hx0, Rat.zero_mul, Rat.sub_eq_add_neg, Rat.add_zero]
         · simp [h1, show ¬ a < i + 1 by omega]
     · obtain ⟨⟨bx2, vc2, vi2, eb2, hgb2, hrb2, hmc2, hmv2⟩, hsep2⟩ := id hb2
       obtain ⟨capV2, ssV2, rfl, hgV2, hlV2, hcV2, hrV2⟩ := hmv2.ex
       obtain ⟨s2, s2a, s2b⟩ := hrV2 i hin
       obtain ⟨cap2, ps2, rfl, _⟩ := s2b.parts
       simp [hsv, hx0, hgb2, hrb2.1, hin, hgV2, s2a, -a_Put_b6]
       refine LoopAt.of (fun c : Nat => [(0, .pointer (some ⟨b, 0, none⟩)), (1, .int .i64 (at' : Int)), (7, .slice (some ⟨cx, 0, none⟩) n capx), (11, .int .i64 (i : Int)), (104, .int .i64 (n : Int)), (105, .int .i64 (i : Int)), (126, .int .i64 (n : Int)), (127, .int .i64 (c : Int))])
        (fun c H' => Upd ⟨plo, pok, none⟩ (fun b => ∃ i, i < n ∧ b = vb i) H2 H' ∧ c ≤ n ∧ IsBasis H' (.pointer (some ⟨b, 0, none⟩)) n b C V cb vb A (fun a d => if a < i ∨ (a = i ∧ d < c) then elimM at' x B a d else B a d)) (fun c => n - c) 0 (by simp) ⟨.refl u2.ok, by simp, hb2.congr (fun _ _ _ _ => rfl) fun _ _ _ _ => by simp⟩ ?_
       rintro c H3 ⟨u3, hc, hb3⟩
       have hx3 : PRow H3 (.slice (some ⟨cx, 0, none⟩) n capx) cx n x := (hx1.keep u1.ok k2).mut u2.ok u3.toMut (u3.same _ ((hx1.keep u1.ok k2).lt u2.ok) fun ⟨i, hi, e⟩ => hcx i hi e)
       by_cases hcn : c < n
       · obtain ⟨capx3, psx3, e3, hgx3, hlx3, _, hfx3⟩ := id hx3.ex
         obtain ⟨⟨bx3, vc3, vi3, eb3, hgb3, hrb3, hmc3, hmv3⟩, hsep3⟩ := id hb3
         obtain ⟨capV3, ssV3, rfl, hgV3, hlV3, hcV3, hrV3⟩ := hmv3.ex
         obtain ⟨si, si1, si2⟩ := hrV3 i hin
         obtain ⟨capi, psi, rfl, hgi, hli, _, _, hfi⟩ := si2.parts
         obtain ⟨sa, sa1, sa2⟩ := hrV3 at' hat
         obtain ⟨capa, psa, rfl, hga, hla, _, _, hfa⟩ := sa2.parts
         obtain ⟨pi, pi1, pi2⟩ := hfi c hcn
         obtain ⟨pa, pa1, pa2⟩ := hfa c hcn
         obtain ⟨px, px1, px2⟩ := hfx3 i hin
         have vi' : (if i < i ∨ i = i ∧ c < c then elimM at' x B i c else B i c) = B i c := by simp
         have va' : (if at' < i ∨ at' = i ∧ c < c then elimM at' x B at' c else B at' c) = B at' c := by simp [elimM]
         rw [vi'] at pi2
         rw [va'] at pa2
         have w2 : wr .i64 ((c : Int) + 1) = ((c + 1 : Nat) : Int) := by rw [wr_i64 (by omega) (by omega)]; simp
         have hres : ∀ k, H3.get (H3.next + k) = none := fun k => u3.ok.wf _ (by omega)
         have hres0 : H3.get H3.next = none := u3.ok.wf _ (by omega)
         simp [hcn]
         refine DrawAt.of u3.ok.lo rfl ?_
         simp [inOrd, hres, hres0, hin, hcn, hat, hgb3, hrb3.1, hgV3, si1, sa1, hgi, hga, hgx3, pi1, pa1, px1]
         refine CallD.of (vs := [px, pa]) (by simp [hres]) (by simp) (by simp) rfl (Mul_frac hX.toNX (H := H3.up 36) (u3.ok.up 36).fresh (px2.keep u3.ok ((Keep.refl u3.ok).up 36)) (pa2.keep u3.ok ((Keep.refl u3.ok).up 36)) (sx i hin) (sB at' c hat hcn) (by omega)) ?_
         rintro r4 H4 ⟨k4, hr4⟩
         have hbx : ∀ u pn pd, ¬ RowT bx3 [.bool u, pn, pd] := by
          rintro u pn pd ⟨h, _⟩
          rw [hrb3.1] at h
          simp at h
         have nepx : ∀ {q y}, H3.get q = some y → (∀ u pn pd, ¬ RowT y [.bool u, pn, pd]) → ∀ num, disj (ptrs ⟨plo, pok, num⟩ [px, pa]) [q] = true := fun hq hy num => disj_ptrs fun a ha => by
          rcases List.mem_cons.1 ha with e | ha
          · exact px2.ne hq hy a e.symm
          · rcases List.mem_cons.1 ha with e | ha
            · exact pa2.ne hq hy a e.symm
            · cases ha
         have hD1 := nepx hgb3 hbx
         have hD2 := nepx hgV3 (cells_no _)
         have hD3 := nepx hgi (cells_no _)
         have hn4 := k4.next
         simp at hn4
         have k4' : Keep ⟨plo, pok, none⟩ (H3.up 36) H4 := k4.perm rfl (u3.ok.up 36).lo
         have k34 : Keep ⟨plo, pok, none⟩ H3 H4 := ((Keep.refl u3.ok).up 36).trans k4'
         have hres4 : ∀ j, j < 36 → H4.get (H3.next + j) = none := fun j hj => (k4.get _ (by simp; omega)).trans (hres j)
         have g4 : ∀ {q y}, H3.get q = some y → H4.get q = some y := fun h => k34.some u3.ok h
         simp
         refine CallD.of (vs := [pi, r4]) (by simp [hres4]) (by simp) (by simp) rfl (Sub_frac hX.toNX (k := 2 * k) k4'.ok.fresh (pi2.keep u3.ok k34) hr4 (sz_mono (sB i c hin hcn) (by omega)) (sz_mul (sx i hin) (sB at' c hat hcn)) (by omega)) ?_
         rintro r5 H5 ⟨k5, hr5⟩
         have ne4 : ∀ {q y}, H4.get q = some y → (∀ u pn pd, ¬ RowT y [.bool u, pn, pd]) → ∀ num, disj (ptrs ⟨plo, pok, num⟩ [pi, r4]) [q] = true := fun hq hy num => disj_ptrs fun a ha => by
          rcases List.mem_cons.1 ha with e | ha
          · exact (pi2.keep u3.ok k34).ne hq hy a e.symm
          · rcases List.mem_cons.1 ha with e | ha
            · exact hr4.ne hq hy a e.symm
            · cases ha
         have hE1 := ne4 (g4 hgb3) hbx
         have hE2 := ne4 (g4 hgV3) (cells_no _)
         have hn5 := k5.next
         have k5' : Keep ⟨plo, pok, none⟩ H4 H5 := k5.perm rfl k4'.ok.lo
         have k35 := k34.trans k5'
         have hres5 : ∀ j, j < 36 → H5.get (H3.next + j) = none := fun j hj => (k5.get _ (by omega)).trans (hres4 j hj)
         have hgi5 : H5.get (vb i) = some (.cells psi (.n 1)) := k35.some u3.ok hgi
         obtain ⟨a5, rfl⟩ := hr5.ptr
         have hput := IsBasis.put k35.ok (hb3.keep u3.ok k35) hin hcn hgi5 hr5
         have lb : b < H3.next := u3.ok.lt hgb3
         have lV : V < H3.next := u3.ok.lt hgV3
         have li : vb i < H3.next := u3.ok.lt hgi
         have la : vb at' < H3.next := u3.ok.lt hga
         have lx : cx < H3.next := u3.ok.lt hgx3
         have hd1 : ∀ l, disj [] l = true := fun l => rfl
         have hd2 : ∀ l, disj l [] = true := fun l => by simp [disj]
         simp [hres5, hcn, hgi5, hli, hmay' _ i hin, confFine, madeB, hD1, hD2, hD3, hE1, hE2, hd2, lb, lV, li, la, lx, w2]
         refine .of (c + 1) (by show n - (c + 1) < n - c; omega) (by simp) ⟨u3.trans (k35.upd.trans (hput.2.weaken fun b _ h => ⟨i, hin, h⟩)), by omega, hput.1.congr (fun _ _ _ _ => rfl) fun a d ha hd => ?_⟩
         by_cases h1 : a = i
         · subst h1
           by_cases h2 : d = c
           · subst h2; simp [elimM, hia]
           · have e1 : (d < c + 1) = (d < c) := propext ⟨fun h => by omega, fun h => by omega⟩
             simp [h2, e1]
         · simp [h1]
       · have : c = n := by omega
         subst this
         simp [w1]
         refine .of (i + 1) (by show c - (i + 1) < c - i; omega) (by simp) ⟨u2.trans u3, by omega, hb3.congr (fun _ _ _ _ => rfl) fun a d ha hd => ?_⟩
         by_cases h1 : a < i
         · simp [h1, show a < i + 1 by omega]
         · by_cases h2 : a = i
           · subst h2; simp [hd]
           · simp [h1, h2, show ¬ a < i + 1 by omega]
 · have : i = n := by omega
   subst this
   simp [PutPost]
   exact ⟨u0.trans (u1.weaken fun b _ ⟨i, hi, e⟩ => by rw [e]; exact hS i hi), hb1.congr (fun _ _ _ _ => rfl) fun a c ha hc => by simp [ha]⟩
end
section
open Go Go.Dam
variable [Foot]
variable {X : Cx} {pm : Perm} {H H' H'' : Heap}
def divM (at' : Nat) (y : Rat) (B : Nat → Nat → Rat) (i k : Nat) : Rat := if i = at' then B i k / y else B i k
theorem Put_div (hX : LX X) {H0 : Heap} {S0 : Nat → Prop} (u0 : Upd pm S0 H0 H) {v vx : Value} {n b C V at' cx k : Nat} {cb vb : Nat → Nat} {A B : Nat → Nat → Rat} {x : Nat → Rat} (hb : IsBasis H v n b C V cb vb A B) (hx : PRow H vx cx n x) (hn : n ≤ 440) (hat : at' < n)
  (hcx : ∀ i, i < n → cx ≠ vb i) (hmay : ∀ i, i < n → pm.may (vb i) = true) (hS : ∀ i, i < n → S0 (vb i)) (sB : ∀ i j, i < n → j < n → sz (B i j) k) (sx : ∀ i, i < n → sz (x i) k) (hk : k < 16777216) (hx0 : x at' ≠ 0) {L : Sl} (l0 : lk 0 L = some v) (l1 : lk 1 L = some (.int .i64 (at' : Int))) (l7 : lk 7 L = some vx) :
  wp X pm (.code a_Put_k23) L H [] (PutPost pm S0 H0 fun H' => IsBasis H' v n b C V cb vb A (elimM at' x (divM at' (x at') B))) := by
 have ho := u0.ok
 obtain ⟨plo, pok, pnum⟩ := pm
 obtain rfl : pnum = none := ho.num
 have hmay' : ∀ o i, i < n → Perm.may ⟨plo, pok, o⟩ (vb i) = true := fun o i hi => hmay i hi
 obtain ⟨⟨bx, vc, vi, rfl, hgb, hrb, hmc, hmv⟩, hsep⟩ := id hb
 obtain ⟨capV, ssV, rfl, hgV, hlV, hcV, hrV⟩ := hmv.ex
 obtain ⟨capx, psx, rfl, hgx, hlx, hcx0, hfx⟩ := id hx.ex
 obtain ⟨s0, s0a, s0b⟩ := hrV at' hat
 obtain ⟨cap0, ps0, rfl, _⟩ := s0b.parts
 simp [l0, l1, hgb, hrb.1, hat, hgV, s0a, -a_Put_b21, -a_Put_k16]
 refine LoopAt.of (fun c : Nat => [(0, .pointer (some ⟨b, 0, none⟩)), (1, .int .i64 (at' : Int)), (7, .slice (some ⟨cx, 0, none⟩) n capx), (68, .int .i64 (n : Int)), (69, .int .i64 (c : Int))])
  (fun c H' => Upd ⟨plo, pok, none⟩ (fun b => ∃ i, i < n ∧ b = vb i) H H' ∧ c ≤ n ∧ IsBasis H' (.pointer (some ⟨b, 0, none⟩)) n b C V cb vb A (fun a d => if d < c then divM at' (x at') B a d else B a d)) (fun c => n - c) 0 (by simp [l0, l1, l7]) ⟨.refl ho, by simp, hb.congr (fun _ _ _ _ => rfl) fun _ _ _ _ => by simp⟩ ?_
 rintro c H3 ⟨u3, hc, hb3⟩
 have hx3 : PRow H3 (.slice (some ⟨cx, 0, none⟩) n capx) cx n x := hx.mut ho u3.toMut (u3.same _ (hx.lt ho) fun ⟨i, hi, e⟩ => hcx i hi e)
 by_cases hcn : c < n
 · obtain ⟨capx3, psx3, e3, hgx3, hlx3, _, hfx3⟩ := id hx3.ex
   obtain ⟨⟨bx3, vc3, vi3, eb3, hgb3, hrb3, hmc3, hmv3⟩, hsep3⟩ := id hb3
   obtain ⟨capV3, ssV3, rfl, hgV3, hlV3, hcV3, hrV3⟩ := hmv3.ex
   obtain ⟨sa, sa1, sa2⟩ := hrV3 at' hat
   obtain ⟨capa, psa, rfl, hga, hla, _, _, hfa⟩ := sa2.parts
   obtain ⟨pa, pa1, pa2⟩ := hfa c hcn
   obtain ⟨px, px1, px2⟩ := hfx3 at' hat
   have va' : (if c < c then divM at' (x at') B at' c else B at' c) = B at' c := by simp
   rw [va'] at pa2
   have w2 : wr .i64 ((c : Int) + 1) = ((c + 1 : Nat) : Int) := by rw [wr_i64 (by omega) (by omega)]; simp
   have hres : ∀ k, H3.get (H3.next + k) = none := fun k => u3.ok.wf _ (by omega)
   have hres0 : H3.get H3.next = none := u3.ok.wf _ (by omega)
   simp [hcn, -a_Put_k16]
   refine DrawAt.of u3.ok.lo rfl ?_
   simp [inOrd, hres, hres0, hcn, hat, hgb3, hrb3.1, hgV3, sa1, hga, hgx3, pa1, px1, -a_Put_k16]
   refine CallD.of (vs := [pa, px]) (by simp [hres]) (by simp) (by simp) rfl (Div_frac hX.toNX (H := H3.up 28) (u3.ok.up 28).fresh (pa2.keep u3.ok ((Keep.refl u3.ok).up 28)) (px2.keep u3.ok ((Keep.refl u3.ok).up 28)) (sB at' c hat hcn) (sx at' hat) (by omega)) ?_
   rintro _ H4 ⟨k4, ⟨h, _⟩ | ⟨_, r4, rfl, hr4⟩⟩
   · exact absurd h hx0
   have hbx : ∀ u pn pd, ¬ RowT bx3 [.bool u, pn, pd] := by
    rintro u pn pd ⟨h, _⟩
    rw [hrb3.1] at h
    simp at h
   have nepx : ∀ {q y}, H3.get q = some y → (∀ u pn pd, ¬ RowT y [.bool u, pn, pd]) → ∀ num, disj (ptrs ⟨plo, pok, num⟩ [pa, px]) [q] = true := fun hq hy num => disj_ptrs fun a ha => by
    rcases List.mem_cons.1 ha with e | ha
    · exact pa2.ne hq hy a e.symm
    · rcases List.mem_cons.1 ha with e | ha
      · exact px2.ne hq hy a e.symm
      · cases ha
   have hD1 := nepx hgb3 hbx
   have hD2 := nepx hgV3 (cells_no _)
   have hn4 := k4.next
   simp at hn4
   have k4' : Keep ⟨plo, pok, none⟩ (H3.up 28) H4 := k4.perm rfl (u3.ok.up 28).lo
   have k34 : Keep ⟨plo, pok, none⟩ H3 H4 := ((Keep.refl u3.ok).up 28).trans k4'
   have hres4 : ∀ j, j < 28 → H4.get (H3.next + j) = none := fun j hj => (k4.get _ (by simp; omega)).trans (hres j)
   have hga5 : H4.get (vb at') = some (.cells psa (.n 1)) := k34.some u3.ok hga
   obtain ⟨a5, rfl⟩ := hr4.ptr
   have hput := IsBasis.put k34.ok (hb3.keep u3.ok k34) hat hcn hga5 hr4
   have lb : b < H3.next := u3.ok.lt hgb3
   have lV : V < H3.next := u3.ok.lt hgV3
   have la : vb at' < H3.next := u3.ok.lt hga
   have lx : cx < H3.next := u3.ok.lt hgx3
   have hd1 : ∀ l, disj [] l = true := fun l => rfl
   have hd2 : ∀ l, disj l [] = true := fun l => by simp [disj]
   simp [hres4, hcn, hga5, hla, hmay' _ at' hat, confFine, madeB, hD1, hD2, hd2, lb, lV, la, lx, w2, -a_Put_k16]
   refine .of (c + 1) (by show n - (c + 1) < n - c; omega) (by simp) ⟨u3.trans (k34.upd.trans (hput.2.weaken fun b _ h => ⟨at', hat, h⟩)), by omega, hput.1.congr (fun _ _ _ _ => rfl) fun a d ha hd => ?_⟩
   by_cases h2 : d = c
   · subst h2
     by_cases h1 : a = at'
     · subst h1; simp [divM]
     · simp [divM, h1]
   · have e1 : (d < c + 1) = (d < c) := propext ⟨fun h => by omega, fun h => by omega⟩
     simp [h2, e1]
 · have : c = n := by omega
   subst this
   simp [-a_Put_k16]
   have sd : ∀ i j, i < c → j < c → sz (divM at' (x at') B i j) (2 * k) := fun i j hi hj => by
    unfold divM
    split
    · exact sz_div (sB i j hi hj) (sx at' hat) hx0
    · exact sz_mono (sB i j hi hj) (by omega)
   refine Put_elim hX (u0.trans (u3.weaken fun b _ ⟨i, hi, e⟩ => by rw [e]; exact hS i hi)) (hb3.congr (fun _ _ _ _ => rfl) (B' := divM at' (x at') B) fun a d ha hd => by simp [hd]) hx3 hn hat hcx hmay hS sd (fun i hi => sz_mono (sx i hi) (by omega)) (by omega) ?_ ?_ ?_ <;> simp
end
section
open Go Go.Dam
variable [Foot]
variable {X : Cx} {pm : Perm} {H H' H'' : Heap}
theorem Put_spec (hX : LX X) (ho : Ok pm H) {v vcol : Value} {n b C V at' cc k K : Nat} {cb vb : Nat → Nat} {A B : Nat → Nat → Rat} {col x : Nat → Rat} (hb : IsBasis H v n b C V cb vb A B) (hcol : PRow H vcol cc n col) (hn : n ≤ 440) (hat : at' < n)
  (hmayC : pm.may C = true) (hmay : ∀ i, i < n → pm.may (vb i) = true) (sB : ∀ i j, i < n → j < n → sz (B i j) k) (sc : ∀ i, i < n → sz (col i) k) (sK : ∀ i j, i < n → j ≤ n → sz (sumTo (fun t => B i t * col t) j) K) (hkK : 2 * k ≤ K) (hK : K < 16777216)
  (hx : ∀ i, x i = sumTo (fun t => B i t * col t) n) :
  Call X pm F.a_Put [v, .int .i64 (at' : Int), vcol] H fun r H' => x at' = 0 ∧ r = .bool false ∧ Keep pm H H' ∨ x at' ≠ 0 ∧ r = .bool true ∧ Upd pm (fun b => b = C ∨ ∃ i, i < n ∧ b = vb i) H H' ∧
   ∃ o, H.next ≤ o ∧ IsBasis H' v n b C V (fun j => if j = at' then o else cb j) vb (fun a c => if a = at' then col c else A a c) (elimM at' x (divM at' (x at') B)) := by
 obtain ⟨plo, pok, pnum⟩ := pm
 obtain rfl : pnum = none := ho.num
 refine Call.has hX.a_Put rfl ?_
 obtain ⟨⟨bx, vc, vi, rfl, hgb, hrb, hmc, hmv⟩, hsep⟩ := id hb
 obtain ⟨capC, ssC, rfl, hgC, hlC, hcC, hrC⟩ := hmc.ex
 obtain ⟨capc, psc, rfl, hgc, hlc, hcc, hfc⟩ := id hcol.ex
 simp [-a_Put_k38]
 refine CallAt.of (by simp) (by simp) (Size_spec hX hgb hrb.1) ?_
 rintro _ H ⟨rfl, rfl⟩
 simp [hat, -a_Put_k38]
 refine CallAt.of (by simp) (by simp) (Size_spec hX hgb hrb.1) ?_
 rintro _ H ⟨rfl, rfl⟩
 simp [-a_Put_k36]
 refine CallAt.of (by simp) (by simp) (Solve_spec hX ho hb hcol hn sB sc sK hkK (by omega)) ?_
 rintro vx H1 ⟨k1, cx, hx1, hcx⟩
 have hxr : PRow H1 vx cx n x := hx1.congr fun i _ => hx i
 have sx : ∀ i, i < n → sz (x i) K := fun i hi => by rw [hx]; exact sK i n hi (Nat.le_refl _)
 obtain ⟨capx, psx, rfl, hgx, hlx, hcx0, hfx⟩ := id hxr.ex
 obtain ⟨px, px1, px2⟩ := hfx at' hat
 simp [hat, hgx, px1, -a_Put_k33]
 refine CallAt.of (by simp) (by simp) (Sign0_spec hX.toNX k1.ok px2 (sx at' hat) (by omega)) ?_
 rintro _ H2 ⟨k2, sv, rfl, hsv⟩
 by_cases hx0 : x at' = 0
 · simp [hsv, hx0]
   exact k1.trans k2
 have k12 := k1.trans k2
 have lH1 := k1.next
 have lH2 := k2.next
 simp [hsv, hx0, -a_Put_k24]
 rw [mk_run k2.ok (by omega) (by omega)]
 obtain ⟨o, hoe⟩ : ∃ o, o = H2.next := ⟨_, rfl⟩
 obtain ⟨Ho, hHo⟩ : ∃ Ho, Ho = H2.new (.cells (times [.pointer none] n) (.n 1)) := ⟨_, rfl⟩
 have ko : Keep ⟨plo, pok, none⟩ H2 Ho := by rw [hHo]; exact (Keep.refl k2.ok).new _
 have hpo : PRow Ho (.slice (some ⟨o, 0, none⟩) n n) o n (fun _ => 0) := by rw [hHo, hoe]; exact PRow.new
 have lHo : Ho.next = o + 1 := by rw [hHo, hoe]; rfl
 simp [← hHo, ← hoe, -a_Put_k24]
 have kHo := k12.trans ko
 refine LoopAt.of (fun j : Nat => [(0, .pointer (some ⟨b, 0, none⟩)), (1, .int .i64 (at' : Int)), (2, .slice (some ⟨cc, 0, none⟩) n capc), (7, .slice (some ⟨cx, 0, none⟩) n capx), (8, .slice (some ⟨o, 0, none⟩) n n), (41, .int .i64 (n : Int)), (42, .int .i64 (j : Int))])
  (fun j H' => Upd ⟨plo, pok, none⟩ (fun b => b = o) Ho H' ∧ j ≤ n ∧ PRow H' (.slice (some ⟨o, 0, none⟩) n n) o n (fun t => if t < j then col t else 0)) (fun j => n - j) 0 (by simp) ⟨.refl kHo.ok, by simp, hpo.congr fun _ _ => by simp⟩ ?_
 rintro j H3 ⟨u3, hj, hp3⟩
 have hcl := hcol.lt ho
 have hcol3 : PRow H3 (.slice (some ⟨cc, 0, none⟩) n capc) cc n col := (hcol.keep ho kHo).mut kHo.ok u3.toMut (u3.same _ (by omega) (by omega))
 by_cases hjn : j < n
 · obtain ⟨capc3, psc3, ec3, hgc3, hlc3, _, hfc3⟩ := hcol3.ex
   obtain ⟨p, p1, p2⟩ := hfc3 j hjn
   have w1 : wr .i64 ((j : Int) + 1) = ((j + 1 : Nat) : Int) := by rw [wr_i64 (by omega) (by omega)]; simp
   simp [hjn, hgc3, p1, -a_Put_k24]
   refine CallAt.of (by simp) (by simp) (Add_frac hX.toNX u3.ok p2 IsFrac.nil (sz_mono (sc j hjn) (show k ≤ K + 1 by omega)) (sz_zero (by omega)) (by omega)) ?_
   rintro r4 H4 ⟨k4, hr4⟩
   rw [Rat.add_zero] at hr4
   obtain ⟨_, ps3, e3, hg3, hl3, _, _, _⟩ := hp3.parts
   obtain ⟨a4, rfl⟩ := hr4.ptr
   have hput := PRow.put k4.ok (hp3.keep u3.ok k4) (k4.some u3.ok hg3) hjn hr4
   have hmo : Perm.may ⟨plo, pok, none⟩ o = true := ho.may (by omega)
   simp [hjn, k4.some u3.ok hg3, hl3, hmo, w1, -a_Put_k24]
   refine .of (j + 1) (by show n - (j + 1) < n - j; omega) (by simp) ⟨u3.trans (k4.upd.trans hput.2), by omega, hput.1.congr fun t _ => ?_⟩
   by_cases h2 : t = j
   · subst h2; simp
   · have e1 : (t < j + 1) = (t < j) := propext ⟨fun h => by omega, fun h => by omega⟩
     simp [h2, e1]
 · have : j = n := by omega
   subst this
   have hb3 : IsBasis H3 (.pointer (some ⟨b, 0, none⟩)) j b C V cb vb A B := by
    obtain ⟨lC, lc⟩ := hmc.lt ho
    obtain ⟨lV, lv⟩ := hmv.lt ho
    exact (hb.keep ho kHo).mut kHo.ok u3 (by omega) (by omega) (fun i hi => by have := lc i hi; omega) (fun i hi => by have := lv i hi; omega)
   have hp3' : PRow H3 (.slice (some ⟨o, 0, none⟩) j j) o j col := hp3.congr fun t ht => by simp [ht]
   obtain ⟨⟨bx3, vc3, vi3, eb3, hgb3, hrb3, hmc3, hmv3⟩, hsep3⟩ := id hb3
   obtain ⟨capC3, ssC3, rfl, hgC3, hlC3, hcC3, hrC3⟩ := hmc3.ex
   obtain ⟨lC, lc⟩ := hmc.lt ho
   obtain ⟨lV, lv⟩ := hmv.lt ho
   have hput := IsBasis.putC u3.ok hb3 hat hgC3 hp3' (by omega) (by omega) (fun i hi => by have := lc i hi; omega) (fun i hi => by have := lv i hi; omega)
   simp [hgb3, hrb3.1, hat, hgC3, hlC3, hmayC, -a_Put_k23]
   have u5 : Upd ⟨plo, pok, none⟩ (fun b => b = C ∨ ∃ i, i < j ∧ b = vb i) H (H3.put C (.cells (ssC3.set at' (.slice (some ⟨o, 0, none⟩) j j)) (.n 1))) :=
    (Keep.upd (Upd.keep kHo u3 (by intro b hb; omega))).trans (hput.2.weaken fun b _ h => .inl h)
   have hx5 : PRow (H3.put C (.cells (ssC3.set at' (.slice (some ⟨o, 0, none⟩) j j)) (.n 1))) (.slice (some ⟨cx, 0, none⟩) j capx) cx j x := by
    have l1 := hxr.lt k1.ok
    have h2 := hxr.keep k1.ok (k2.trans ko)
    have h3 := h2.mut kHo.ok u3.toMut (u3.same _ (by omega) (by omega))
    exact h3.mut u3.ok hput.2.toMut (hput.2.same _ (h3.lt u3.ok) (by omega))
   refine wp_mono ?_ (Put_div hX u5 hput.1 hx5 hn hat (fun i hi => by have := lv i hi; omega) hmay (fun i hi => .inr ⟨i, hi, rfl⟩) (fun i j hi hj => sz_mono (sB i j hi hj) (show k ≤ K by omega)) sx hK hx0 ?_ ?_ ?_)
   · rintro z l H' ⟨h1, vs, h2, h3, h4, h5⟩
     exact ⟨h1, vs, h2, h3, h4, o, by omega, h5⟩
   all_goals simp
end
end Go.Dam.C
namespace Go.Dam.C
open Go Go.Dam
variable [Foot]
variable {X : Cx} {pm : Perm} {H H' H'' : Heap}
end Go.Dam.C
namespace Go.Dam.C
open Go Go.Dam
variable {X : Cx} {pm : Perm} {H H' H'' : Heap}
theorem RowV.one {ps : List Value} (h : RowV ps) : ps.all oneCellV = true := by
 rw [List.all_eq_true]
 intro v hv
 have := h v hv
 cases v <;> first | rfl | cases this
end Go.Dam.C
namespace Go.Dam.C
open Go Go.Dam
variable [Foot]
variable {X : Cx} {pm : Perm} {H H' H'' : Heap}
theorem Clone_spec (hX : LX X) (ho : Ok pm H) {v : Value} {c n : Nat} {x : Nat → Rat} (h : PRow H v c n x) (hn : n ≤ 440) (hn0 : 0 < n) :
  Call X pm F.s_CloneF [v] H fun r H' => Keep pm H H' ∧ ∃ c', PRow H' r c' n x ∧ H.next ≤ c' := by
 obtain ⟨plo, pok, pnum⟩ := pm
 obtain rfl : pnum = none := ho.num
 obtain ⟨cap, ps, rfl, hg, hl, hc, hv, hf⟩ := h.parts
 refine Call.has hX.s_CloneF rfl ?_
 have hcl := ho.lt hg
 have hg1 : ∀ x, (H.new x).get c = some (.cells ps (.n 1)) := fun x => (get_new_lt hcl).trans hg
 have htk : List.take n ps = ps := List.take_of_length_le (by omega)
 have hm : Perm.may ⟨plo, pok, none⟩ H.next = true := ho.may (Nat.le_refl _)
 have hpk : ∀ (H : Heap), Perm.pick ⟨plo, pok, none⟩ H = H.next := fun _ => rfl
 have hmk : ∀ (H : Heap) x, Perm.make ⟨plo, pok, none⟩ H x = H.new x := fun _ _ => rfl
 simp [fill, hpk, hmk, hg1, getCells, hl, htk, effAppend, show ¬ n = 0 by omega, show n * 8 ≤ 17179869184 by omega, show n ≤ 17179869184 by omega, hv.one, hm, show ¬ n ≤ 0 by omega]
 have k1 : Keep ⟨plo, pok, none⟩ H (((H.new (.cells [] (.n 1))).put H.next .dead).new (.cells ps (.n 1))) := (((Keep.refl ho).new _).put (Nat.le_refl _) get_new_next .dead).new _
 exact ⟨k1, _, ⟨n, ps, rfl, get_new_next, hl, Nat.le_refl _, fun i hi => (hf i hi).imp fun p q => ⟨q.1, q.2.keep ho k1⟩⟩, by simp⟩
theorem Col_spec (hX : LX X) (ho : Ok pm H) {v : Value} {n b C V at' : Nat} {cb vb : Nat → Nat} {A B : Nat → Nat → Rat} (hb : IsBasis H v n b C V cb vb A B) (hn : n ≤ 440) (hat : at' < n) :
  Call X pm F.a_Col [v, .int .i64 (at' : Int)] H fun r H' => Keep pm H H' ∧ ∃ c', PRow H' r c' n (A at') ∧ H.next ≤ c' := by
 obtain ⟨⟨bx, vc, vi, rfl, hgb, hrb, hmc, hmv⟩, hsep⟩ := id hb
 obtain ⟨capC, ssC, rfl, hgC, hlC, hcC, hrC⟩ := hmc.ex
 obtain ⟨s, s1, s2⟩ := hrC at' hat
 refine Call.has hX.a_Col rfl ?_
 simp
 refine CallAt.of (by simp) (by simp) (Size_spec hX hgb hrb.1) ?_
 rintro _ H ⟨rfl, rfl⟩
 simp [hat, hgb, hrb.1, hgC, s1]
 refine CallAt.of (by simp) (by simp) (Clone_spec hX ho s2 hn (by omega)) ?_
 rintro r H1 ⟨k1, c', h1, h2⟩
 simp
 exact ⟨k1, c', h1, h2⟩
end Go.Dam.C
namespace Go.Dam.C
open Go Go.Dam
variable {X : Cx} {pm : Perm} {H H' H'' : Heap}
theorem LText_spec (hX : LX X) {l : List UInt8} : Call X pm F.l_Text [St l, .int .i64 20] H fun r H' => H' = H ∧ r = St (l.take 20) := by
 refine Call.has hX.l_Text rfl ?_
 by_cases h : 20 < l.length
 · simp [h, show 20 ≤ l.length by omega]
 · simp [h]
   rw [List.take_of_length_le (by omega)]
end Go.Dam.C
namespace Go.Dam.C
open Go Go.Dam
variable [Foot]
variable {X : Cx} {pm : Perm} {H H' H'' : Heap}
end Go.Dam.C
namespace Go.Dam.C
open Go Go.Dam
variable {X : Cx} {pm : Perm} {H H' H'' : Heap}
theorem getQ_sz {l : List UInt8} {q : Rat} (h : getQ l = some q) (hl : l.length ≤ 20) : sz q 3 := by
 unfold getQ finQ at h
 split at h
 · rename_i hg
   cases h
   obtain ⟨h1, h2, h3, _⟩ := hg
   have hn : (negT l).2.length ≤ 20 := by
    unfold negT
    split
    · simp; omega
    · exact hl
   have hc : ∀ t : List UInt8, t.length ≤ 20 → (cutT t).1.length ≤ 20 ∧ (cutT t).2.length ≤ 20 := by
    intro t ht
    unfold cutT
    split
    · refine ⟨Nat.le_trans (List.takeWhile_sublist _).length_le ht, ?_⟩
      have := (List.dropWhile_sublist (fun x : UInt8 => x != 47) (l := t)).length_le
      simp only [List.length_tail]
      omega
    · exact ⟨ht, by simp⟩
   have hd : ∀ t : List UInt8, good t = true → t.length ≤ 20 → decVal t < 4294967296 ^ 3 := by
    intro t hg ht
    unfold good at hg
    simp at hg
    have h4 := decVal_lt (l := t) (by rw [List.all_eq_true]; exact hg.2.2.2)
    have h5 : 10 ^ t.length ≤ 10 ^ 20 := Nat.pow_le_pow_right (by decide) ht
    omega
   obtain ⟨c1, c2⟩ := hc _ hn
   exact sz_mkq (hd _ h1 c1) (hd _ h2 c2) h3
 · cases h
end Go.Dam.C
namespace Go.Dam.C
open Go Go.Dam
variable [Foot]
variable {X : Cx} {pm : Perm} {H H' H'' : Heap}
end Go.Dam.C
