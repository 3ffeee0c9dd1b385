/- The natural numbers of the program reckon right. -/
import Derived.Test.YtedamoknpbihhaaGreatDoorCode
namespace Go.Dam.C
open Go Go.Dam
variable [Foot]
/-! ## Naturals by digits -/
def nv : List Nat → Nat
 | [] => 0
 | d :: ds => d + 4294967296 * nv ds
def dg (ds : List Nat) (i : Nat) : Nat := ds[i]?.getD 0
def Lim (ds : List Nat) : Prop := ∀ d ∈ ds, d < 4294967296
def strip : List Nat → List Nat
 | [] => []
 | d :: ds => if strip ds = [] ∧ d = 0 then [] else d :: strip ds
def u32s (ds : List Nat) : List Value := ds.map fun (d : Nat) => Value.int .u32 (d : Int)
def RowB (y : Blk) (row : List Value) : Prop := y = .cells row (.n 1) ∨ y = .ro row
/-- A slice of digits. -/
def Dig (H : Heap) (v : Value) (ds : List Nat) : Prop :=
 Lim ds ∧ ((v = .slice none 0 0 ∧ ds = []) ∨ ∃ c off cap y row, v = .slice (some ⟨c, off, none⟩) ds.length cap ∧ H.get c = some y ∧ RowB y row ∧ (row.drop off).take ds.length = u32s ds ∧ off + ds.length ≤ row.length ∧ ds.length ≤ cap ∧ Foot.s c)
/-- A variable of a type. -/
def typedB : Blk → Bool
 | .cells _ (.t _) => true
 | _ => false
end Go.Dam.C
namespace Go.Dam.C
open Go Go.Dam
@[simp] theorem typedB_t (cs : List Value) (t : TypeId) : typedB (.cells cs (.t t)) = true := rfl
end Go.Dam.C
namespace Go.Dam.C
open Go Go.Dam
variable [Foot]
abbrev RowT (x : Blk) (l : List Value) : Prop := rowOf x = some l ∧ typedB x = true
/-- A number. -/
def IsN (H : Heap) (v : Value) (ds : List Nat) : Prop :=
 (v = .pointer none ∧ ds = []) ∨ ∃ b x s, v = .pointer (some ⟨b, 0, none⟩) ∧ H.get b = some x ∧ RowT x [s] ∧ Dig H s ds
def Has (X : Cx) (f : Nat) (F : DFunc) : Prop := X.ov f = none ∧ X.T f = some F
/-- The program has these bodies. -/
structure NX (X : Cx) : Prop where
 n_Of : Has X F.n_Of C.n_Of
 n_of : Has X F.n_of C.n_of
 n_at : Has X F.n_at C.n_at
 n_digits : Has X F.n_digits C.n_digits
 n_Cmp : Has X F.n_Cmp C.n_Cmp
 n_Add : Has X F.n_Add C.n_Add
 n_Less : Has X F.n_Less C.n_Less
 n_Mul : Has X F.n_Mul C.n_Mul
 n_Bits : Has X F.n_Bits C.n_Bits
 n_Twos : Has X F.n_Twos C.n_Twos
 n_Word : Has X F.n_Word C.n_Word
 n_up : Has X F.n_up C.n_up
 n_down : Has X F.n_down C.n_down
 n_short : Has X F.n_short C.n_short
 n_step : Has X F.n_step C.n_step
 n_Div : Has X F.n_Div C.n_Div
 n_common : Has X F.n_common C.n_common
 n_shifts : Has X F.n_shifts C.n_shifts
 n_Gcd : Has X F.n_Gcd C.n_Gcd
 n_Text : Has X F.n_Text C.n_Text
 n_Get : Has X F.n_Get C.n_Get
 b_Len : Has X F.b_Len C.b_Len
 b_Zeros : Has X F.b_Zeros C.b_Zeros
 b_Abs : Has X F.b_Abs C.b_Abs
 q_zero : Has X F.q_zero C.q_zero
 q_Parts : Has X F.q_Parts C.q_Parts
 q_New : Has X F.q_New C.q_New
 q_Of : Has X F.q_Of C.q_Of
 q_sure : Has X F.q_sure C.q_sure
 q_Text : Has X F.q_Text C.q_Text
 q_Get : Has X F.q_Get C.q_Get
 q_signed : Has X F.q_signed C.q_signed
 q_Add : Has X F.q_Add C.q_Add
 q_Neg : Has X F.q_Neg C.q_Neg
 q_Sub : Has X F.q_Sub C.q_Sub
 q_Mul : Has X F.q_Mul C.q_Mul
 q_Div : Has X F.q_Div C.q_Div
 q_Cmp : Has X F.q_Cmp C.q_Cmp
 q_Sign : Has X F.q_Sign C.q_Sign
 q_Floor : Has X F.q_Floor C.q_Floor
 q_Whole : Has X F.q_Whole C.q_Whole
variable {X : Cx} {pm : Perm} {H H' : Heap}
end Go.Dam.C
namespace Go.Dam.C
open Go Go.Dam
variable {X : Cx} {pm : Perm} {H H' : Heap}
theorem Call.has {f : FuncId} {args : List Value} {R : Value → Heap → Prop} {F : DFunc} (hX : Has X f F) (hn : Nat.ble args.length F.nt = true)
  (h : wp X pm (.code F.body) (argsL args 0 []) H [] fun x l H' => (x = .normal ∨ x = .ret) ∧ ∃ vs, resL l H' F.res = some vs ∧ R (tupOf vs) H') : Call X pm f args H R :=
 Call.func hX.1 hX.2 (Nat.le_of_ble_eq_true hn) h
theorem RowB.row {y : Blk} {row : List Value} (h : RowB y row) : rowOf y = some row := by rcases h with rfl | rfl <;> rfl
theorem RowB.slSl {y : Blk} {row : List Value} (hy : RowB y row) {l h m cap c off : Nat} (hb : H.get c = some y) (h1 : l ≤ h) (h2 : h ≤ m) (h3 : m ≤ cap) :
  (effSlSl 1 (some ⟨c, off, none⟩) l h m cap).run pm H = some (.slice (some ⟨c, off + l, none⟩) (h - l) (m - l), H) := by
 rcases hy with rfl | rfl
 · have := slSl_cells (pm := pm) (esz := 1) (off := off) hb (.inl rfl) h1 h2 h3; simpa using this
 · rw [slSl_ro hb h1 h2 h3]; simp
end Go.Dam.C
namespace Go.Dam.C
open Go Go.Dam
variable [Foot]
variable {X : Cx} {pm : Perm} {H H' : Heap}
theorem Dig.take {base : Option Addr} {cap : Nat} {ds : List Nat} (h : Dig H (.slice base ds.length cap) ds) (k : Nat) (hk : k ≤ ds.length) : Dig H (.slice base k cap) (ds.take k) := by
 obtain ⟨hl, h⟩ := h
 refine ⟨fun d hd => hl d (List.mem_of_mem_take hd), ?_⟩
 rcases h with ⟨h1, rfl⟩ | ⟨c, off, cap', y, row, h0, h1, h2, h3, h4, h5⟩
 · cases h1
   obtain rfl : k = 0 := by simpa using hk
   exact .inl ⟨rfl, by simp⟩
 · cases h0
   refine .inr ⟨c, off, cap, y, row, by simp [Nat.min_eq_left hk], h1, h2, ?_, by simp; omega, by have := h5.1; simp; omega, h5.2⟩
   have := congrArg (List.take k) h3
   rw [List.take_take] at this
   simp only [List.length_take]
   rw [this]
   simp [u32s, List.map_take]
theorem Dig.form {v : Value} {ds : List Nat} (h : Dig H v ds) : ∃ base cap, v = .slice base ds.length cap := by
 obtain ⟨_, ⟨rfl, rfl⟩ | ⟨c, off, cap, y, row, rfl, _⟩⟩ := h
 · exact ⟨_, _, rfl⟩
 · exact ⟨_, _, rfl⟩
theorem Dig.nil : Dig H (.slice none 0 0) [] := ⟨fun _ h => (by cases h), .inl ⟨rfl, rfl⟩⟩
theorem Dig.keep {v : Value} {ds : List Nat} (h : Dig H v ds) (ho : Ok pm H) (hk : Keep pm H H') : Dig H' v ds := by
 refine ⟨h.1, h.2.imp id ?_⟩
 rintro ⟨c, off, cap, y, row, h1, h2, h3⟩
 exact ⟨c, off, cap, y, row, h1, hk.some ho h2, h3⟩
theorem IsN.keep {v : Value} {ds : List Nat} (h : IsN H v ds) (ho : Ok pm H) (hk : Keep pm H H') : IsN H' v ds := by
 refine h.imp id ?_
 rintro ⟨b, x, s, h1, h2, h3, h4⟩
 exact ⟨b, x, s, h1, hk.some ho h2, h3, h4.keep ho hk⟩
end Go.Dam.C
namespace Go.Dam.C
open Go Go.Dam
variable {X : Cx} {pm : Perm} {H H' : Heap}
theorem Dig.cell {ds : List Nat} {row : List Value} {off i : Nat} (h : (row.drop off).take ds.length = u32s ds) (hi : i < ds.length) : row[off + i]? = some (.int .u32 ((ds[i] : Nat) : Int)) := by
 have := congrArg (·[i]?) h
 simp only [List.getElem?_take_of_lt hi, List.getElem?_drop] at this
 rw [this]
 simp [u32s, hi]
theorem Lim.get {ds : List Nat} (h : Lim ds) (i : Nat) : ds[i]?.getD 0 < 4294967296 := by
 cases e : ds[i]? with
 | none => simp
 | some d => exact h d (List.mem_of_getElem? e)
theorem wr_u64 {n : Int} (h0 : 0 ≤ n) (h : n < 18446744073709551616) : wr .u64 n = n := by
 rw [wr_eq]
 simp [IntKind.wrap, IntKind.bits, IntKind.signed]
 omega
theorem wr_i64 {n : Int} (h0 : -9223372036854775808 ≤ n) (h : n < 9223372036854775808) : wr .i64 n = n := by
 rw [wr_eq]
 simp [IntKind.wrap, IntKind.bits, IntKind.signed]
 split <;> omega
theorem wr_u32 {n : Int} : wr .u32 n = n % 4294967296 := by
 rw [wr_eq]
 simp [IntKind.wrap, IntKind.bits, IntKind.signed]
end Go.Dam.C
namespace Go.Dam.C
open Go Go.Dam
variable [Foot]
variable {X : Cx} {pm : Perm} {H H' : Heap}
theorem digits_spec (hX : Has X F.n_digits n_digits) {v : Value} {ds : List Nat} (hd : IsN H v ds) : Call X pm F.n_digits [v] H fun r H' => H' = H ∧ Dig H r ds := by
 refine Call.has hX rfl ?_
 rcases hd with ⟨rfl, rfl⟩ | ⟨b, x, s, rfl, h1, h2, h3⟩
 · simp [Dig, Lim]
 · simp [h1, h2, h3]
theorem at_spec (hX : Has X F.n_at n_at) {v : Value} {ds : List Nat} (hd : Dig H v ds) (i : Nat) :
  Call X pm F.n_at [v, .int .i64 (i : Int)] H fun r H' => H' = H ∧ r = .int .u64 ((dg ds i : Nat) : Int) := by
 refine Call.has hX rfl ?_
 obtain ⟨hl, ⟨rfl, rfl⟩ | ⟨c, off, cap, y, row, rfl, h1, h2, h3, _⟩⟩ := hd
 · simp [dg]
 · have hlim := hl.get i
   by_cases hi : i < ds.length
   · have hc := Dig.cell h3 hi
     have hw : wr .u64 ((ds[i] : Nat) : Int) = ((ds[i] : Nat) : Int) := wr_u64 (by omega) (by simp [hi] at hlim; omega)
     simp [hi, h1, h2.row, hc, hw, dg]
   · simp [hi, dg]
end Go.Dam.C
namespace Go.Dam.C
open Go Go.Dam
variable {X : Cx} {pm : Perm} {H H' : Heap}
theorem strip_take {ds : List Nat} {k : Nat} (h : ∀ i, k ≤ i → ds[i]?.getD 0 = 0) : strip ds = strip (ds.take k) := by
 induction ds generalizing k with
 | nil => simp
 | cons d ds ih =>
   cases k with
   | zero =>
     have h1 : strip ds = strip (ds.take 0) := ih fun i _ => by simpa using h (i + 1) (by omega)
     have h2 : d = 0 := by simpa using h 0 (by omega)
     simp [strip, h1, h2]
   | succ k =>
     have h1 : strip ds = strip (ds.take k) := ih fun i hi => by simpa using h (i + 1) (by omega)
     simp only [List.take_succ_cons, strip, ← h1]
theorem strip_id {ds : List Nat} (h : ds = [] ∨ ds[ds.length - 1]?.getD 0 ≠ 0) : strip ds = ds := by
 induction ds with
 | nil => rfl
 | cons d ds ih =>
   cases ds with
   | nil => simp [strip] at h ⊢; exact h
   | cons e es =>
     have := ih (.inr (by simpa using h))
     simp only [strip] at this ⊢
     simp only [this]
     simp
end Go.Dam.C
namespace Go.Dam.C
open Go Go.Dam
variable [Foot]
variable {X : Cx} {pm : Perm} {H H' : Heap}
/-- A number that is not nil. -/
def IsP (H : Heap) (v : Value) (ds : List Nat) : Prop := ∃ b x s, v = .pointer (some ⟨b, 0, none⟩) ∧ H.get b = some x ∧ RowT x [s] ∧ Dig H s ds
theorem of_specP (hX : Has X F.n_of n_of) (ho : Ok pm H) {v : Value} {ds : List Nat} (hd : Dig H v ds) (hlen : ds.length ≤ 1073741824) :
  Call X pm F.n_of [v] H fun r H' => Keep pm H H' ∧ IsP H' r (strip ds) := by
 refine Call.has hX rfl ?_
 have hcap : ∃ base cap, v = .slice base ds.length cap := by
  obtain ⟨_, ⟨rfl, rfl⟩ | ⟨c, off, cap, y, row, rfl, _⟩⟩ := hd
  · exact ⟨_, _, rfl⟩
  · exact ⟨_, _, rfl⟩
 obtain ⟨base, cap, rfl⟩ := hcap
 simp
 refine LoopAt.of (fun k : Nat => [(3, .int .i64 (k : Int)), (0, .slice base ds.length cap)]) (fun k H' => H' = H ∧ k ≤ ds.length ∧ ∀ i, k ≤ i → ds[i]?.getD 0 = 0) id ds.length (by simp) ⟨rfl, Nat.le_refl _, fun i hi => by simp [hi]⟩ ?_
 rintro k H' ⟨rfl, hk, hz⟩
 by_cases hk0 : 0 < k
 · obtain ⟨hlim, ⟨_, rfl⟩ | ⟨c, off, cap', y, row, h0, h1, h2, h3, _⟩⟩ := id hd
   · simp at hk; omega
   cases h0
   have hw : wr .i64 ((k : Int) - 1) = ((k - 1 : Nat) : Int) := by rw [wr_i64 (by omega) (by omega)]; omega
   have hc := Dig.cell h3 (show k - 1 < ds.length by omega)
   simp [hk0, hw, h1, h2.row, hc, show k - 1 < ds.length by omega]
   refine ⟨fun hz0 => .of (k - 1) (by simp; omega) (by simp) ⟨rfl, by omega, fun i hi => ?_⟩, fun hz0 => ?_⟩
   · by_cases hik : i = k - 1
     · subst hik; simp [show k - 1 < ds.length by omega, hz0]
     · exact hz i (by omega)
   · rw [h2.slSl h1 (by omega) (by omega) (by omega)]
     simp [ho.make, ho.pick]
     refine ⟨(Keep.refl ho).new _, ⟨_, _, _, rfl, get_new_next, ⟨rfl, rfl⟩, ?_⟩⟩
     have hst : strip ds = ds.take k := by
      rw [strip_take hz, strip_id]
      right
      simp [List.length_take, Nat.min_eq_left hk]
      rw [List.getElem?_take_of_lt (by omega)]
      simpa [show k - 1 < ds.length by omega] using hz0
     rw [hst]
     exact (Dig.take hd k hk).keep ho ((Keep.refl ho).new _)
 · obtain rfl : k = 0 := by omega
   have hst : strip ds = [] := by rw [strip_take hz]; rfl
   rw [hst]
   obtain ⟨hlim, ⟨e0, rfl⟩ | ⟨c, off, cap', y, row, h0, h1, h2, h3, _⟩⟩ := id hd
   · cases e0
     simp [slSl_nil, ho.make, ho.pick]
     exact ⟨(Keep.refl ho).new _, ⟨_, _, _, rfl, get_new_next, ⟨rfl, rfl⟩, .nil⟩⟩
   · cases h0
     simp
     rw [h2.slSl h1 (by omega) (by omega) (by omega)]
     simp [ho.make, ho.pick]
     exact ⟨(Keep.refl ho).new _, ⟨_, _, _, rfl, get_new_next, ⟨rfl, rfl⟩, (Dig.take hd 0 hk).keep ho ((Keep.refl ho).new _)⟩⟩
theorem of_spec (hX : Has X F.n_of n_of) (ho : Ok pm H) {v : Value} {ds : List Nat} (hd : Dig H v ds) (hlen : ds.length ≤ 1073741824) :
  Call X pm F.n_of [v] H fun r H' => Keep pm H H' ∧ IsN H' r (strip ds) := (of_specP hX ho hd hlen).mono fun _ _ h => ⟨h.1, .inr h.2⟩
end Go.Dam.C
namespace Go.Dam.C
open Go Go.Dam
variable [Foot]
variable {X : Cx} {pm : Perm} {H H' : Heap}
/-! ### Digits and values -/
def tv (ds : List Nat) : Nat → Nat
 | 0 => 0
 | i + 1 => tv ds i + dg ds i * 4294967296 ^ i
end Go.Dam.C
namespace Go.Dam.C
open Go Go.Dam
variable {X : Cx} {pm : Perm} {H H' : Heap}
theorem Lim.dg {ds : List Nat} (h : Lim ds) (i : Nat) : dg ds i < 4294967296 := h.get i
end Go.Dam.C
namespace Go.Dam.C
open Go Go.Dam
variable {X : Cx} {pm : Perm} {H H' : Heap}
theorem dg_cons (d : Nat) (ds : List Nat) (i : Nat) : dg (d :: ds) (i + 1) = dg ds i := by simp [dg]
end Go.Dam.C
namespace Go.Dam.C
open Go Go.Dam
variable [Foot]
variable {X : Cx} {pm : Perm} {H H' : Heap}
end Go.Dam.C
namespace Go.Dam.C
open Go Go.Dam
variable {X : Cx} {pm : Perm} {H H' : Heap}
theorem tv_cons (d : Nat) (ds : List Nat) (i : Nat) : tv (d :: ds) (i + 1) = d + 4294967296 * tv ds i := by
 induction i with
 | zero => simp [tv, dg]
 | succ i ih =>
   rw [tv, ih, dg_cons, tv, Nat.pow_succ]
   grind
end Go.Dam.C
namespace Go.Dam.C
open Go Go.Dam
variable [Foot]
variable {X : Cx} {pm : Perm} {H H' : Heap}
end Go.Dam.C
namespace Go.Dam.C
open Go Go.Dam
variable {X : Cx} {pm : Perm} {H H' : Heap}
theorem tv_len {ds : List Nat} {i : Nat} (h : ds.length ≤ i) : tv ds i = nv ds := by
 induction ds generalizing i with
 | nil =>
   induction i with
   | zero => rfl
   | succ i ih => rw [tv, ih (by simp)]; simp [dg, nv]
 | cons d ds ih =>
   cases i with
   | zero => simp at h
   | succ i => rw [tv_cons, ih (by simpa using h)]; rfl
theorem tv_lt {ds : List Nat} (h : Lim ds) (i : Nat) : tv ds i < 4294967296 ^ i := by
 induction i with
 | zero => simp [tv]
 | succ i ih =>
   have := h.dg i
   rw [tv, Nat.pow_succ]
   have : dg ds i * 4294967296 ^ i ≤ 4294967295 * 4294967296 ^ i := Nat.mul_le_mul_right _ (by omega)
   omega
end Go.Dam.C
namespace Go.Dam.C
open Go Go.Dam
variable [Foot]
variable {X : Cx} {pm : Perm} {H H' : Heap}
end Go.Dam.C
namespace Go.Dam.C
open Go Go.Dam
variable {X : Cx} {pm : Perm} {H H' : Heap}
theorem nv_lt {ds : List Nat} (h : Lim ds) : nv ds < 4294967296 ^ ds.length := by rw [← tv_len (Nat.le_refl _)]; exact tv_lt h _
end Go.Dam.C
namespace Go.Dam.C
open Go Go.Dam
variable {X : Cx} {pm : Perm} {H H' : Heap}
theorem nv_strip (ds : List Nat) : nv (strip ds) = nv ds := by
 induction ds with
 | nil => rfl
 | cons d ds ih =>
   simp only [strip]
   split
   · rename_i h; simp [nv, ← ih, h.1, h.2]
   · simp [nv, ih]
theorem lim_strip {ds : List Nat} (h : Lim ds) : Lim (strip ds) := by
 induction ds with
 | nil => exact h
 | cons d ds ih =>
   simp only [strip]
   split
   · intro d hd; cases hd
   · intro e he
     rcases List.mem_cons.1 he with rfl | he
     · exact h _ (.head _)
     · exact ih (fun d hd => h d (.tail _ hd)) e he
theorem strip_strip (ds : List Nat) : strip (strip ds) = strip ds := by
 induction ds with
 | nil => rfl
 | cons d ds ih =>
   simp only [strip]
   split
   · rfl
   · rename_i h
     simp only [strip, ih, if_neg h]
theorem strip_length (ds : List Nat) : (strip ds).length ≤ ds.length := by
 induction ds with
 | nil => simp [strip]
 | cons d ds ih => simp only [strip]; split <;> simp; omega
end Go.Dam.C
namespace Go.Dam.C
open Go Go.Dam
variable [Foot]
variable {X : Cx} {pm : Perm} {H H' : Heap}
/-- The row's part from k on, as a number. -/
def hv (ds : List Nat) (k : Nat) : Nat := nv (ds.drop k)
end Go.Dam.C
namespace Go.Dam.C
open Go Go.Dam
variable {X : Cx} {pm : Perm} {H H' : Heap}
theorem hv_step (ds : List Nat) (k : Nat) : hv ds k = dg ds k + 4294967296 * hv ds (k + 1) := by
 unfold hv dg
 induction ds generalizing k with
 | nil => simp [nv]
 | cons d ds ih =>
   cases k with
   | zero => simp [nv]
   | succ k => simpa using ih k
theorem hv_zero (ds : List Nat) : hv ds 0 = nv ds := rfl
theorem hv_end {ds : List Nat} {k : Nat} (h : ds.length ≤ k) : hv ds k = 0 := by simp [hv, List.drop_eq_nil_of_le h, nv]
end Go.Dam.C
namespace Go.Dam.C
open Go Go.Dam
variable [Foot]
variable {X : Cx} {pm : Perm} {H H' : Heap}
end Go.Dam.C
namespace Go.Dam.C
open Go Go.Dam
variable {X : Cx} {pm : Perm} {H H' : Heap}
theorem hv_lt {as bs : List Nat} (ha : Lim as) (hb : Lim bs) {k : Nat} (h : hv as k < hv bs k) : nv as < nv bs := by
 induction k with
 | zero => exact h
 | succ k ih =>
   refine ih ?_
   rw [hv_step as k, hv_step bs k]
   have := ha.dg k
   have := hb.dg k
   omega
end Go.Dam.C
namespace Go.Dam.C
open Go Go.Dam
variable [Foot]
variable {X : Cx} {pm : Perm} {H H' : Heap}
/-- A number that bears no noughts above. -/
structure IsNat (H : Heap) (v : Value) (n : Nat) : Prop where
 ex : ∃ ds, IsN H v ds ∧ strip ds = ds ∧ nv ds = n
theorem IsN.lim {v : Value} {ds : List Nat} (h : IsN H v ds) : Lim ds := by
 rcases h with ⟨_, rfl⟩ | ⟨b, x, s, _, _, _, h⟩
 · intro d hd; cases hd
 · exact h.1
theorem IsNat.keep {v : Value} {n : Nat} (h : IsNat H v n) (ho : Ok pm H) (hk : Keep pm H H') : IsNat H' v n := ⟨h.ex.imp fun _ h => ⟨h.1.keep ho hk, h.2⟩⟩
end Go.Dam.C
namespace Go.Dam.C
open Go Go.Dam
variable {X : Cx} {pm : Perm} {H H' : Heap}
theorem nv_high {ds : List Nat} (h : strip ds = ds) (h0 : ds ≠ []) : 4294967296 ^ (ds.length - 1) ≤ nv ds := by
 induction ds with
 | nil => exact absurd rfl h0
 | cons d ds ih =>
   have h2 : strip ds = ds ∧ ¬ (strip ds = [] ∧ d = 0) := by
    simp only [strip] at h
    split at h
    · cases h
    · rename_i h3; simp only [List.cons.injEq, true_and] at h; exact ⟨h, h3⟩
   cases ds with
   | nil =>
     have : d ≠ 0 := by intro e; exact h2.2 ⟨rfl, e⟩
     simp [nv]; omega
   | cons e es =>
     have := ih h2.1 (by simp)
     simp only [List.length_cons, Nat.add_sub_cancel] at this ⊢
     rw [nv, Nat.pow_succ]
     omega
end Go.Dam.C
namespace Go.Dam.C
open Go Go.Dam
variable [Foot]
variable {X : Cx} {pm : Perm} {H H' : Heap}
end Go.Dam.C
namespace Go.Dam.C
open Go Go.Dam
variable {X : Cx} {pm : Perm} {H H' : Heap}
theorem len_of_lt {ds : List Nat} (h : strip ds = ds) {k : Nat} (hk : nv ds < 4294967296 ^ k) : ds.length ≤ k := by
 by_cases h0 : ds = []
 · simp [h0]
 · have := nv_high h h0
   have h2 : 4294967296 ^ (ds.length - 1) < 4294967296 ^ k := Nat.lt_of_le_of_lt this hk
   have := (Nat.pow_lt_pow_iff_right (by omega : 1 < 4294967296)).1 h2
   omega
end Go.Dam.C
namespace Go.Dam.C
open Go Go.Dam
variable [Foot]
variable {X : Cx} {pm : Perm} {H H' : Heap}
/-- A number that is small enough for what is done with it. -/
def Small (n : Nat) : Prop := n < 4294967296 ^ 134217728
end Go.Dam.C
namespace Go.Dam.C
open Go Go.Dam
variable {X : Cx} {pm : Perm} {H H' : Heap}
theorem Small.len {n : Nat} {ds : List Nat} (h : Small n) (hs : strip ds = ds) (hn : nv ds = n) : ds.length ≤ 134217728 := by
 unfold Small at h
 generalize 134217728 = k at h ⊢
 exact len_of_lt hs (hn ▸ h)
end Go.Dam.C
namespace Go.Dam.C
open Go Go.Dam
variable [Foot]
variable {X : Cx} {pm : Perm} {H H' : Heap}
def cmpI (a b : Nat) : Int := if a < b then -1 else if a = b then 0 else 1
theorem Cmp_spec (hX : NX X) {v w : Value} {a b : List Nat} (ha : IsN H v a) (hb : IsN H w b) (la : a.length ≤ 1073741824) (lb : b.length ≤ 1073741824) :
  Call X pm F.n_Cmp [v, w] H fun r H' => H' = H ∧ r = .int .i64 (cmpI (nv a) (nv b)) := by
 have hla := ha.lim
 have hlb := hb.lim
 refine Call.has hX.n_Cmp rfl ?_
 simp
 refine CallAt.of (by simp) (by simp) (digits_spec hX.n_digits ha) ?_
 rintro va _ ⟨rfl, hda⟩
 simp
 refine CallAt.of (by simp) (by simp) (digits_spec hX.n_digits hb) ?_
 rintro vb H ⟨rfl, hdb⟩
 obtain ⟨ab, ac, rfl⟩ := hda.form
 obtain ⟨bb, bc, rfl⟩ := hdb.form
 simp
 refine LoopAt.of (fun k : Nat => [(7, .int .i64 ((k : Int) - 1)), (5, .slice ab a.length ac), (6, .slice bb b.length bc)]) (fun k H' => H' = H ∧ k ≤ max a.length b.length ∧ hv a k = hv b k) id (max a.length b.length) ?_ ⟨rfl, Nat.le_refl _, by rw [hv_end (by omega), hv_end (by omega)]⟩ ?_
 · simp
   have : wr .i64 ((if a.length < b.length then (b.length : Int) else a.length) - 1) = ((max a.length b.length : Nat) : Int) - 1 := by
    rw [wr_i64 (by split <;> omega) (by split <;> omega)]
    split <;> omega
   rw [this]
 rintro k H' ⟨rfl, hk, hz⟩
 cases k with
 | zero =>
   simp
   rw [hv_zero, hv_zero] at hz
   simp [cmpI, hz]
 | succ k =>
   simp
   refine CallAt.of (by simp) (by simp) (at_spec hX.n_at hda k) ?_
   rintro _ _ ⟨rfl, rfl⟩
   simp
   refine CallAt.of (by simp) (by simp) (at_spec hX.n_at hdb k) ?_
   rintro _ _ ⟨rfl, rfl⟩
   simp
   have e1 := hv_step a k
   have e2 := hv_step b k
   refine ⟨fun hne => ⟨fun hlt => ?_, fun hle => ?_⟩, fun heq => .of k (by simp) (by simp; rw [wr_i64 (by omega) (by omega)]) ⟨rfl, by omega, by omega⟩⟩
   · have := hv_lt hla hlb (k := k) (by omega)
     simp [cmpI, this]
   · have := hv_lt hlb hla (k := k) (by omega)
     have h2 : ¬ nv a < nv b := by omega
     have h3 : ¬ nv a = nv b := by omega
     simp [cmpI, h2, h3]
end Go.Dam.C
namespace Go.Dam.C
open Go Go.Dam
variable [Foot]
variable {X : Cx} {pm : Perm} {H H' : Heap}
end Go.Dam.C
namespace Go.Dam.C
open Go Go.Dam
variable {X : Cx} {pm : Perm} {H H' : Heap}
theorem times_u32 (n : Nat) : times [.int .u32 0] n = u32s (List.replicate n 0) := by
 induction n with
 | zero => rfl
 | succ n ih => simp only [times, ih, List.replicate_succ]; rfl
@[simp] theorem u32s_length (ds : List Nat) : (u32s ds).length = ds.length := by simp [u32s]
theorem u32s_set (ds : List Nat) (i d : Nat) : (u32s ds).set i (.int .u32 (d : Int)) = u32s (ds.set i d) := by simp [u32s, List.map_set]
theorem u32s_get {ds : List Nat} {i : Nat} (h : i < ds.length) : (u32s ds)[i]? = some (.int .u32 ((dg ds i : Nat) : Int)) := by simp [u32s, dg, h]
end Go.Dam.C
namespace Go.Dam.C
open Go Go.Dam
variable [Foot]
variable {X : Cx} {pm : Perm} {H H' : Heap}
theorem dig_out {c : Nat} {ds : List Nat} {n : Nat} (h : H.get c = some (.cells (u32s ds) (.n 1))) (hl : Lim ds) (hn : ds.length = n) (hs : Foot.s c) : Dig H (.slice (some ⟨c, 0, none⟩) n n) ds := by
 subst hn
 exact ⟨hl, .inr ⟨c, 0, _, _, _, rfl, h, .inl rfl, by simp [u32s, List.take_of_length_le], by simp, Nat.le_refl _, hs⟩⟩
end Go.Dam.C
namespace Go.Dam.C
open Go Go.Dam
variable {X : Cx} {pm : Perm} {H H' : Heap}
theorem Lim.set {ds : List Nat} (h : Lim ds) (i : Nat) {d : Nat} (hd : d < 4294967296) : Lim (ds.set i d) := fun e he => (List.mem_or_eq_of_mem_set he).elim (h e) fun q => q ▸ hd
theorem lim_rep (n : Nat) : Lim (List.replicate n 0) := fun d hd => by rw [List.eq_of_mem_replicate hd]; omega
theorem tv_set {ds : List Nat} {i j d : Nat} (h : i ≤ j) : tv (ds.set j d) i = tv ds i := by
 induction i with
 | zero => rfl
 | succ i ih => rw [tv, tv, ih (by omega)]; simp [dg, show ¬ j = i by omega]
theorem dg_set {ds : List Nat} {i d : Nat} (h : i < ds.length) : dg (ds.set i d) i = d := by simp [dg, h]
end Go.Dam.C
namespace Go.Dam.C
open Go Go.Dam
variable [Foot]
variable {X : Cx} {pm : Perm} {H H' : Heap}
end Go.Dam.C
namespace Go.Dam.C
open Go Go.Dam
variable {X : Cx} {pm : Perm} {H H' : Heap}
theorem tv_put {ds : List Nat} {i d : Nat} (h : i < ds.length) : tv (ds.set i d) (i + 1) = tv ds i + d * 4294967296 ^ i := by
 rw [tv, tv_set (Nat.le_refl _), dg_set h]
end Go.Dam.C
namespace Go.Dam.C
open Go Go.Dam
variable [Foot]
variable {X : Cx} {pm : Perm} {H H' : Heap}
/-- A place to write to. -/
structure Out (pm : Perm) (H H' : Heap) (c : Nat) (ds : List Nat) (n : Nat) : Prop where
 keep : Keep pm H H'
 get : H'.get c = some (.cells (u32s ds) (.n 1))
 len : ds.length = n
 lim : Lim ds
 low : H.next ≤ c
theorem Out.mk0 (_ho : Ok pm H) (h : Keep pm H H') (n : Nat) : Out pm H (H'.new (.cells (times [.int .u32 0] n) (.n 1))) H'.next (List.replicate n 0) n :=
 ⟨h.new _, by rw [times_u32]; simp, by simp, lim_rep n, h.next⟩
theorem Out.put {c : Nat} {ds : List Nat} {n : Nat} (h : Out pm H H' c ds n) (i : Nat) {d : Nat} (hd : d < 4294967296) : Out pm H (H'.put c (.cells (u32s (ds.set i d)) (.n 1))) c (ds.set i d) n :=
 ⟨h.keep.put h.low h.get _, by simp, by simp [h.len], h.lim.set i hd, h.low⟩
theorem Add_spec (hX : NX X) (ho : Ok pm H) {v w : Value} {a b : List Nat} (ha : IsN H v a) (hb : IsN H w b) (la : a.length < 1073741824) (lb : b.length < 1073741824) :
  Call X pm F.n_Add [v, w] H fun r H' => Keep pm H H' ∧ ∃ ds, IsN H' r (strip ds) ∧ Lim ds ∧ nv ds = nv a + nv b := by
 have hla := ha.lim
 have hlb := hb.lim
 refine Call.has hX.n_Add rfl ?_
 simp
 refine CallAt.of (by simp) (by simp) (digits_spec hX.n_digits ha) ?_
 rintro va _ ⟨rfl, hda⟩
 simp
 refine CallAt.of (by simp) (by simp) (digits_spec hX.n_digits hb) ?_
 rintro vb H ⟨rfl, hdb⟩
 obtain ⟨ab, ac, rfl⟩ := hda.form
 obtain ⟨bb, bc, rfl⟩ := hdb.form
 obtain ⟨n, hn⟩ : ∃ n, n = max a.length b.length + 1 := ⟨_, rfl⟩
 have hw : wr .i64 ((if a.length < b.length then (b.length : Int) else a.length) + 1) = (n : Int) := by
  rw [wr_i64 (by split <;> omega) (by split <;> omega)]
  split <;> omega
 simp [hw]
 rw [mk_run ho (by omega) (by omega)]
 simp
 refine LoopAt.of (fun s : Nat × List Nat × Nat => [(8, .int .u64 (s.2.2 : Int)), (7, .slice (some ⟨H.next, 0, none⟩) n n), (5, .slice ab a.length ac), (6, .slice bb b.length bc), (23, .int .i64 (s.1 : Int)), (22, .int .i64 (n : Int))])
  (fun s H' => Out pm H H' H.next s.2.1 n ∧ s.2.2 ≤ 1 ∧ s.1 ≤ n ∧ tv s.2.1 s.1 + s.2.2 * 4294967296 ^ s.1 = tv a s.1 + tv b s.1) (fun s => n - s.1) (0, List.replicate n 0, 0) (by simp) ⟨Out.mk0 ho (Keep.refl ho) n, by simp, by simp, rfl⟩ ?_
 rintro ⟨i, outs, c⟩ H' ⟨hout, hc, hi, hsum⟩
 simp only at hout hc hi hsum
 by_cases hin : i < n
 · simp [hin]
   refine CallAt.of (by simp) (by simp) (at_spec hX.n_at (hda.keep ho hout.keep) i) ?_
   rintro _ _ ⟨rfl, rfl⟩
   simp
   refine CallAt.of (by simp) (by simp) (at_spec hX.n_at (hdb.keep ho hout.keep) i) ?_
   rintro _ H' ⟨rfl, rfl⟩
   have l1 := hla.dg i
   have l2 := hlb.dg i
   obtain ⟨s, hs⟩ : ∃ s, s = c + (dg a i + dg b i) := ⟨_, rfl⟩
   obtain ⟨d, hd⟩ : ∃ d, d = s % 4294967296 := ⟨_, rfl⟩
   have hw1 : wr .u64 ((c : Int) + wr .u64 ((dg a i : Int) + (dg b i : Int))) = (s : Int) := by
    rw [wr_u64 (n := (dg a i : Int) + dg b i) (by omega) (by omega), wr_u64 (by omega) (by omega)]; omega
   have hw2 : wr .u32 (s : Int) = (d : Int) := by rw [wr_u32]; omega
   simp [hw1, hw2, hin, hout.get, hout.len, ho.may (Nat.le_refl _), u32s_set]
   refine .of (i + 1, outs.set i d, s / 4294967296) (by simp; omega) (by simp; rw [wr_i64 (by omega) (by omega)]) ⟨hout.put i (by omega), by simp; omega, by simp; omega, ?_⟩
   · simp only
     rw [tv_put (by rw [hout.len]; exact hin), tv, tv, Nat.pow_succ]
     have : s = d + 4294967296 * (s / 4294967296) := by omega
     have h5 : d * 4294967296 ^ i + s / 4294967296 * (4294967296 ^ i * 4294967296) = s * 4294967296 ^ i := by
      generalize s / 4294967296 = q at *
      subst this
      generalize 4294967296 ^ i = p
      grind
     have h6 : s * 4294967296 ^ i = c * 4294967296 ^ i + dg a i * 4294967296 ^ i + dg b i * 4294967296 ^ i := by subst hs; grind
     omega
 · obtain rfl : i = n := by omega
   simp
   have h1 : tv a i = nv a := tv_len (by omega)
   have h2 : tv b i = nv b := tv_len (by omega)
   have h3 : tv outs i = nv outs := tv_len (by rw [hout.len]; exact Nat.le_refl _)
   have h4 := tv_lt hla (max a.length b.length)
   have h5 := tv_lt hlb (max a.length b.length)
   rw [tv_len (by omega)] at h4 h5
   have hc0 : c = 0 := by
    rcases Nat.eq_zero_or_pos c with h | h
    · exact h
    · obtain rfl : c = 1 := by omega
      rw [hn, Nat.pow_succ] at hsum
      rw [← hn] at hsum
      omega
   subst hc0
   refine CallAt.of (by simp) (by simp) (of_spec hX.n_of hout.keep.ok (dig_out hout.get hout.lim hout.len (ho.new _ hout.low)) (by rw [hout.len]; omega)) ?_
   rintro r H2 ⟨k2, hr⟩
   simp
   exact ⟨hout.keep.trans k2, outs, hr, hout.lim, by omega⟩
end Go.Dam.C
namespace Go.Dam.C
section
open Go Go.Dam
variable [Foot]
variable {X : Cx} {pm : Perm} {H H' : Heap}
theorem Less_spec (hX : NX X) (ho : Ok pm H) {v w : Value} {a b : List Nat} (ha : IsN H v a) (hb : IsN H w b) (la : a.length < 1073741824) (lb : b.length < 1073741824) (hsb : strip b = b) :
  Call X pm F.n_Less [v, w] H fun r H' => Keep pm H H' ∧ (nv a < nv b ∧ r = .tuple #[.pointer none, .bool false] ∨ nv b ≤ nv a ∧ ∃ p ds, r = .tuple #[p, .bool true] ∧ IsN H' p (strip ds) ∧ Lim ds ∧ nv ds = nv a - nv b) := by
 have hla := ha.lim
 have hlb := hb.lim
 refine Call.has hX.n_Less rfl ?_
 simp
 refine CallAt.of (by simp) (by simp) (Cmp_spec hX ha hb (by omega) (by omega)) ?_
 rintro _ H ⟨rfl, rfl⟩
 simp
 by_cases hlt : nv a < nv b
 · simp [cmpI, hlt]
   exact Keep.refl ho
 have hge : (cmpI (nv a) (nv b) < 0) = False := by
  unfold cmpI
  rw [if_neg hlt]
  split <;> simp
 simp [hge]
 intro _
 refine CallAt.of (by simp) (by simp) (digits_spec hX.n_digits ha) ?_
 rintro va _ ⟨rfl, hda⟩
 simp
 refine CallAt.of (by simp) (by simp) (digits_spec hX.n_digits hb) ?_
 rintro vb H ⟨rfl, hdb⟩
 obtain ⟨ab, ac, rfl⟩ := hda.form
 obtain ⟨bb, bc, rfl⟩ := hdb.form
 obtain ⟨n, hn⟩ : ∃ n, n = a.length := ⟨_, rfl⟩
 simp
 rw [← hn] at hda ⊢
 rw [mk_run ho (by omega) (by omega)]
 simp
 refine LoopAt.of (fun s : Nat × List Nat × Int => [(9, .int .i64 s.2.2), (8, .slice (some ⟨H.next, 0, none⟩) n n), (6, .slice ab n ac), (7, .slice bb b.length bc), (24, .int .i64 (s.1 : Int)), (23, .int .i64 (n : Int))])
  (fun s H' => Out pm H H' H.next s.2.1 n ∧ -1 ≤ s.2.2 ∧ s.2.2 ≤ 0 ∧ s.1 ≤ n ∧ (tv s.2.1 s.1 : Int) + s.2.2 * ((4294967296 ^ s.1 : Nat) : Int) = tv a s.1 - tv b s.1) (fun s => n - s.1) (0, List.replicate n 0, 0) (by simp [hn]) ⟨Out.mk0 ho (Keep.refl ho) n, by simp, by simp, by simp, rfl⟩ ?_
 rintro ⟨i, outs, c⟩ H' ⟨hout, hc, hc2, hi, hsum⟩
 simp only at hout hc hc2 hi hsum
 by_cases hin : i < n
 · simp [hin]
   refine CallAt.of (by simp) (by simp) (at_spec hX.n_at (hda.keep ho hout.keep) i) ?_
   rintro _ _ ⟨rfl, rfl⟩
   have l1 := hla.dg i
   have l2 := hlb.dg i
   have hwa : wr .i64 ((dg a i : Nat) : Int) = ((dg a i : Nat) : Int) := wr_i64 (by omega) (by omega)
   have hwb : wr .i64 ((dg b i : Nat) : Int) = ((dg b i : Nat) : Int) := wr_i64 (by omega) (by omega)
   simp [hwa]
   refine CallAt.of (by simp) (by simp) (at_spec hX.n_at (hdb.keep ho hout.keep) i) ?_
   rintro _ H' ⟨rfl, rfl⟩
   obtain ⟨s, hs⟩ : ∃ s : Int, s = c + ((dg a i : Int) - dg b i) := ⟨_, rfl⟩
   obtain ⟨d, hd⟩ : ∃ d : Nat, (d : Int) = s % 4294967296 := ⟨(s % 4294967296).toNat, by omega⟩
   obtain ⟨q, hq⟩ : ∃ q : Int, q = s / 4294967296 := ⟨_, rfl⟩
   have hw1 : wr .i64 (c + wr .i64 ((dg a i : Int) - (dg b i : Int))) = s := by
    rw [wr_i64 (n := (dg a i : Int) - dg b i) (by omega) (by omega), wr_i64 (by omega) (by omega)]; omega
   have hw2 : wr .u32 s = (d : Int) := by rw [wr_u32]; omega
   have hw3 : s.fdiv 4294967296 = q := by rw [Int.fdiv_eq_ediv_of_nonneg _ (by omega)]; exact hq.symm
   simp [hwb, hw1, hw2, hw3, hin, hout.get, hout.len, ho.may (Nat.le_refl _), u32s_set]
   refine .of (i + 1, outs.set i d, q) (by simp; omega) (by simp; rw [wr_i64 (by omega) (by omega)]) ⟨hout.put i (by omega), by simp; omega, by simp; omega, by simp; omega, ?_⟩
   show ((tv (outs.set i d) (i + 1) : Nat) : Int) + q * ((4294967296 ^ (i + 1) : Nat) : Int) = (tv a (i + 1) : Int) - (tv b (i + 1) : Int)
   rw [tv_put (by rw [hout.len]; exact hin), tv, tv, Nat.pow_succ]
   have : s = d + 4294967296 * q := by omega
   generalize 4294967296 ^ i = p at *
   simp only [Int.natCast_add, Int.natCast_mul]
   have h6 : s * p = c * p + dg a i * p - dg b i * p := by rw [hs]; grind
   have h7 : s * p = d * p + q * (p * 4294967296) := by rw [this]; grind
   simp only [Int.cast_ofNat_Int]
   omega
 · obtain rfl : i = n := by omega
   simp
   have hbl : b.length ≤ a.length := len_of_lt hsb (Nat.lt_of_le_of_lt (by omega) (nv_lt hla))
   have h1 : tv a i = nv a := tv_len (by omega)
   have h2 : tv b i = nv b := tv_len (by omega)
   have h3 : tv outs i = nv outs := tv_len (by rw [hout.len]; exact Nat.le_refl _)
   have h4 := tv_lt hout.lim i
   have hc0 : c = 0 := by
    rcases (by omega : c < 0 ∨ c ≥ 0) with h | h
    · obtain rfl : c = -1 := by omega
      omega
    · omega
   subst hc0
   refine CallAt.of (by simp) (by simp) (of_spec hX.n_of hout.keep.ok (dig_out hout.get hout.lim hout.len (ho.new _ hout.low)) (by rw [hout.len]; omega)) ?_
   rintro r H2 ⟨k2, hr⟩
   simp
   exact ⟨hout.keep.trans k2, by omega, outs, hr, hout.lim, by omega⟩
end
section
open Go Go.Dam
variable [Foot]
variable {X : Cx} {pm : Perm} {H H' : Heap}
theorem Dig.at {base : Option Addr} {n cap i : Nat} {ds : List Nat} (h : Dig H (.slice base n cap) ds) (hn : n = ds.length) (hi : i < n) :
  ∃ c off y row, base = some ⟨c, off, none⟩ ∧ H.get c = some y ∧ rowOf y = some row ∧ row[off + i]? = some (.int .u32 ((dg ds i : Nat) : Int)) := by
 subst hn
 obtain ⟨_, ⟨h1, rfl⟩ | ⟨c, off, cap', y, row, h0, h1, h2, h3, _⟩⟩ := h
 · cases h1; simp at hi
 · cases h0
   refine ⟨c, off, y, row, rfl, h1, h2.row, ?_⟩
   rw [Dig.cell h3 hi]
   simp [dg, hi]
theorem Dig.len {base : Option Addr} {n cap : Nat} {ds : List Nat} (h : Dig H (.slice base n cap) ds) : n = ds.length := by
 obtain ⟨_, ⟨h1, rfl⟩ | ⟨c, off, cap', y, row, h0, _⟩⟩ := h
 · cases h1; rfl
 · cases h0; rfl
theorem Mul_spec (hX : NX X) (ho : Ok pm H) {v w : Value} {a b : List Nat} (ha : IsN H v a) (hb : IsN H w b) (la : a.length < 536870912) (lb : b.length < 536870912) :
  Call X pm F.n_Mul [v, w] H fun r H' => Keep pm H H' ∧ ∃ ds, IsN H' r (strip ds) ∧ Lim ds ∧ nv ds = nv a * nv b := by
 have hla := ha.lim
 have hlb := hb.lim
 refine Call.has hX.n_Mul rfl ?_
 simp
 refine CallAt.of (by simp) (by simp) (digits_spec hX.n_digits ha) ?_
 rintro va _ ⟨rfl, hda⟩
 simp
 refine CallAt.of (by simp) (by simp) (digits_spec hX.n_digits hb) ?_
 rintro vb H ⟨rfl, hdb⟩
 obtain ⟨ab, ac, rfl⟩ := hda.form
 obtain ⟨bb, bc, rfl⟩ := hdb.form
 obtain ⟨n, hn⟩ : ∃ n, n = a.length := ⟨_, rfl⟩
 obtain ⟨m, hm⟩ : ∃ m, m = b.length := ⟨_, rfl⟩
 rw [← hn] at hda ⊢
 rw [← hm] at hdb ⊢
 obtain ⟨N, hN⟩ : ∃ N, N = n + m := ⟨_, rfl⟩
 have hw : wr .i64 ((n : Int) + m) = (N : Int) := by rw [wr_i64 (by omega) (by omega)]; omega
 simp [hw]
 rw [mk_run ho (by omega) (by omega)]
 simp
 refine LoopAt.of (fun s : Nat × List Nat => [(7, .slice (some ⟨H.next, 0, none⟩) N N), (6, .slice bb m bc), (23, .slice ab n ac), (25, .int .i64 (s.1 : Int)), (24, .int .i64 (n : Int))])
  (fun s H' => Out pm H H' H.next s.2 N ∧ s.1 ≤ n ∧ tv s.2 (s.1 + m) = tv a s.1 * nv b) (fun s => n - s.1) (0, List.replicate N 0) (by simp) ⟨Out.mk0 ho (Keep.refl ho) _, by simp, ?_⟩ ?_
 · simp [tv]
   have : ∀ k, tv (List.replicate N 0) k = 0 := by
    intro k
    induction k with
    | zero => rfl
    | succ k ih => rw [tv, ih]; simp [dg, List.getElem?_replicate]; split <;> simp
   exact this m
 rintro ⟨i, o0⟩ H' ⟨hout, hi, hsum⟩
 simp only at hout hi hsum
 by_cases hin : i < n
 · obtain ⟨ca, offa, ya, rowa, rfl, g1, g2, g3⟩ := (hda.keep ho hout.keep).at hn hin
   have lx := hla.dg i
   simp [hin, g1, g2, g3]
   refine LoopAt.of (fun s : Nat × List Nat × Nat => [(10, .int .u64 (s.2.2 : Int)), (9, .int .u32 (dg a i : Int)), (8, .int .i64 (i : Int)), (7, .slice (some ⟨H.next, 0, none⟩) N N), (6, .slice bb m bc), (30, .slice bb m bc), (32, .int .i64 (s.1 : Int)), (31, .int .i64 (m : Int)), (23, .slice (some ⟨ca, offa, none⟩) n ac), (25, .int .i64 (i : Int)), (24, .int .i64 (n : Int))])
    (fun s H' => Out pm H H' H.next s.2.1 N ∧ s.1 ≤ m ∧ s.2.2 < 4294967296 ∧ tv s.2.1 (i + s.1) + s.2.2 * 4294967296 ^ (i + s.1) = tv o0 (i + s.1) + dg a i * (4294967296 ^ i * tv b s.1) ∧ ∀ j, i + s.1 ≤ j → dg s.2.1 j = dg o0 j) (fun s => m - s.1) (0, o0, 0) (by simp) ⟨hout, by simp, by simp, by simp [tv], by simp⟩ ?_
   rintro ⟨k, outs, c⟩ H' ⟨hout, hk, hc, hs2, hsame⟩
   simp only at hout hk hc hs2 hsame
   by_cases hkm : k < m
   · obtain ⟨cb, offb, yb, rowb, rfl, f1, f2, f3⟩ := (hdb.keep ho hout.keep).at hm hkm
     have ly := hlb.dg k
     have lo := hout.lim.dg (i + k)
     have hxy : dg a i * dg b k ≤ 4294967295 * 4294967295 := Nat.mul_le_mul (by omega) (by omega)
     obtain ⟨xy, hxy0⟩ : ∃ xy, xy = dg a i * dg b k := ⟨_, rfl⟩
     rw [← hxy0] at hxy
     obtain ⟨s, hs⟩ : ∃ s, s = c + (xy + dg outs (i + k)) := ⟨_, rfl⟩
     obtain ⟨d, hd⟩ : ∃ d, d = s % 4294967296 := ⟨_, rfl⟩
     have w1 : wr .u64 ((dg a i : Nat) : Int) = ((dg a i : Nat) : Int) := wr_u64 (by omega) (by omega)
     have w2 : wr .u64 ((dg b k : Nat) : Int) = ((dg b k : Nat) : Int) := wr_u64 (by omega) (by omega)
     have w3 : wr .u64 ((dg outs (i + k) : Nat) : Int) = ((dg outs (i + k) : Nat) : Int) := wr_u64 (by omega) (by omega)
     have w4 : wr .u64 ((dg a i : Int) * (dg b k : Int)) = (xy : Int) := by
      have e : (dg a i : Int) * (dg b k : Int) = (xy : Int) := by rw [hxy0]; simp
      rw [e]; exact wr_u64 (by omega) (by omega)
     have w5 : wr .u64 ((c : Int) + wr .u64 ((xy : Int) + (dg outs (i + k) : Int))) = (s : Int) := by
      rw [wr_u64 (n := (xy : Int) + (dg outs (i + k) : Int)) (by omega) (by omega), wr_u64 (by omega) (by omega)]; omega
     have w7 : wr .u32 (s : Int) = (d : Int) := by rw [wr_u32]; omega
     have w8 : wr .i64 ((i : Int) + (k : Int)) = ((i + k : Nat) : Int) := by rw [wr_i64 (by omega) (by omega)]; omega
     have hget := u32s_get (ds := outs) (i := i + k) (by rw [hout.len]; omega)
     have hset := setCells_one (cs := u32s outs) (i := i + k) (v := .int .u32 (d : Int)) (by rw [u32s_length, hout.len]; omega)
     simp [hkm, f1, f2, f3, w1, w2, w4, w5, w7, w8, hout.get, hget, w3, show i + k < N by omega, hset, ho.may (Nat.le_refl _), u32s_set]
     refine .of (k + 1, outs.set (i + k) d, s / 4294967296) (by simp; omega) (by simp; rw [wr_i64 (by omega) (by omega)]) ⟨hout.put (i + k) (by omega), by simp; omega, by simp; omega, ?_, fun j hj => ?_⟩
     · show tv (outs.set (i + k) d) (i + k + 1) + s / 4294967296 * 4294967296 ^ (i + k + 1) = tv o0 (i + k + 1) + dg a i * (4294967296 ^ i * tv b (k + 1))
       rw [tv_put (by rw [hout.len]; omega), tv, tv, ← hsame (i + k) (Nat.le_refl _), Nat.pow_succ]
       have e1 : 4294967296 ^ i * (dg b k * 4294967296 ^ k) = dg b k * 4294967296 ^ (i + k) := by rw [Nat.pow_add]; generalize 4294967296 ^ i = p; generalize 4294967296 ^ k = q; grind
       have e2 : s = d + 4294967296 * (s / 4294967296) := by omega
       have e3 : d * 4294967296 ^ (i + k) + s / 4294967296 * (4294967296 ^ (i + k) * 4294967296) = s * 4294967296 ^ (i + k) := by
        generalize s / 4294967296 = q at *
        subst e2
        generalize 4294967296 ^ (i + k) = p
        grind
       have e4 : s * 4294967296 ^ (i + k) = c * 4294967296 ^ (i + k) + dg a i * (dg b k * 4294967296 ^ (i + k)) + dg outs (i + k) * 4294967296 ^ (i + k) := by
        subst hs hxy0
        generalize 4294967296 ^ (i + k) = p
        grind
       rw [Nat.mul_add (4294967296 ^ i), e1, Nat.mul_add]
       omega
     · show dg (outs.set (i + k) d) j = dg o0 j
       have hj : i + (k + 1) ≤ j := hj
       rw [← hsame j (by omega)]
       simp [dg, show ¬ i + k = j by omega]
   · obtain rfl : k = m := by omega
     have w7 : wr .u32 (c : Int) = (c : Int) := by rw [wr_u32]; omega
     have w8 : wr .i64 ((i : Int) + (k : Int)) = ((i + k : Nat) : Int) := by rw [wr_i64 (by omega) (by omega)]; omega
     simp [w7, w8, show i + k < N by omega, hout.get, hout.len, ho.may (Nat.le_refl _), u32s_set]
     refine .of (i + 1, outs.set (i + k) c) (by simp; omega) (by simp; rw [wr_i64 (by omega) (by omega)]) ⟨hout.put (i + k) (by omega), by simp; omega, ?_⟩
     show tv (outs.set (i + k) c) (i + 1 + k) = tv a (i + 1) * nv b
     rw [show i + 1 + k = i + k + 1 by omega, tv_put (by rw [hout.len]; omega), hs2, hsum, tv, tv_len (ds := b) (by omega)]
     generalize 4294967296 ^ i = p
     grind
 · obtain rfl : i = n := by omega
   simp
   have h1 : tv a i = nv a := tv_len (by omega)
   have h3 : tv o0 (i + m) = nv o0 := tv_len (by rw [hout.len]; omega)
   refine CallAt.of (by simp) (by simp) (of_spec hX.n_of hout.keep.ok (dig_out hout.get hout.lim hout.len (ho.new _ hout.low)) (by rw [hout.len]; omega)) ?_
   rintro r H2 ⟨k2, hr⟩
   simp
   exact ⟨hout.keep.trans k2, o0, hr, hout.lim, by rw [← h3, hsum, h1]⟩
end
end Go.Dam.C
namespace Go.Dam.C
open Go Go.Dam
variable [Foot]
variable {X : Cx} {pm : Perm} {H H' : Heap}
theorem Of_spec (hX : NX X) (ho : Ok pm H) {x : Nat} (hx : x < 18446744073709551616) :
  Call X pm F.n_Of [.int .u64 (x : Int)] H fun r H' => Keep pm H H' ∧ IsN H' r (strip [x % 4294967296, x / 4294967296]) := by
 refine Call.has hX.n_Of rfl ?_
 have w1 : wr .u32 (x : Int) = ((x % 4294967296 : Nat) : Int) := by rw [wr_u32]; omega
 have w2 : wr .u32 ((x / 4294967296 : Nat) : Int) = ((x / 4294967296 : Nat) : Int) := by rw [wr_u32]; omega
 obtain ⟨a, ha⟩ : ∃ a, a = x % 4294967296 := ⟨_, rfl⟩
 obtain ⟨b, hb⟩ : ∃ b, b = x / 4294967296 := ⟨_, rfl⟩
 rw [← ha] at w1 ⊢
 rw [← hb] at w2 ⊢
 have w3 : ((x : Int)).fdiv 4294967296 = (b : Int) := by rw [hb]; exact fdiv_32 x
 simp [w1, w2, w3, ho.make, ho.pick]
 have hl : Lim [a, b] := by intro d hd; simp at hd; omega
 refine CallAt.of (by simp) (by simp) (of_spec hX.n_of ((Keep.refl ho).new (.cells (u32s [a, b]) (.n 1))).ok (dig_out (ds := [a, b]) get_new_next hl rfl (ho.new _ (Nat.le_refl _))) (by simp)) ?_
 rintro r H2 ⟨k2, hr⟩
 simp
 exact ⟨((Keep.refl ho).new _).trans k2, hr⟩
end Go.Dam.C
namespace Go.Dam.C
open Go Go.Dam
variable {X : Cx} {pm : Perm} {H H' : Heap}
theorem nv_Of (x : Nat) : nv (strip [x % 4294967296, x / 4294967296]) = x := by
 rw [nv_strip]; simp [nv]; omega
end Go.Dam.C
namespace Go.Dam.C
open Go Go.Dam
variable {X : Cx} {pm : Perm} {H H' : Heap}
end Go.Dam.C
namespace Go.Dam.C
open Go Go.Dam
variable [Foot]
variable {X : Cx} {pm : Perm} {H H' : Heap}
theorem Word_spec (hX : NX X) {v : Value} {a : List Nat} (ha : IsN H v a) (la : a.length ≤ 1073741824) :
  Call X pm F.n_Word [v] H fun r H' => H' = H ∧ r = if a.length ≤ 2 then .tuple #[.int .u64 ((nv a : Nat) : Int), .bool true] else .tuple #[.int .u64 0, .bool false] := by
 have hla := ha.lim
 refine Call.has hX.n_Word rfl ?_
 simp
 refine CallAt.of (by simp) (by simp) (digits_spec hX.n_digits ha) ?_
 rintro va H ⟨rfl, hda⟩
 obtain ⟨ab, ac, rfl⟩ := hda.form
 obtain ⟨n, hn⟩ : ∃ n, n = a.length := ⟨_, rfl⟩
 rw [← hn] at hda ⊢
 by_cases h2 : n ≤ 2
 · simp [show ¬ 2 < n by omega, h2]
   refine LoopAt.of (fun i : Nat => [(4, .int .u64 ((tv a i : Nat) : Int)), (13, .slice ab n ac), (14, .int .i64 (n : Int)), (15, .int .i64 (i : Int))]) (fun i H' => H' = H ∧ i ≤ n) (fun i => n - i) 0 (by simp [tv]) ⟨rfl, by omega⟩ ?_
   rintro i H ⟨rfl, hi⟩
   by_cases hin : i < n
   · obtain ⟨c, off, y, row, rfl, g1, g2, g3⟩ := hda.at hn hin
     have l1 := hla.dg i
     have l2 := tv_lt hla i
     have w1 : wr .u64 ((dg a i : Nat) : Int) = ((dg a i : Nat) : Int) := wr_u64 (by omega) (by omega)
     rcases (by omega : i = 0 ∨ i = 1) with rfl | rfl
     · have w2 : wr .i64 0 = 0 := rfl
       have h3 : (0 : Nat) ||| dg a 0 = dg a 0 := by simp
       have h4 := or_u64 (a := 0) (b := dg a 0) (by omega) (by omega)
       rw [h3] at h4
       have h4 : intOp .or .u64 0 ((dg a 0 : Nat) : Int) = some (.int .u64 ((dg a 0 : Nat) : Int)) := h4
       have g3 : row[off]? = some (.int .u32 ((dg a 0 : Nat) : Int)) := g3
       simp [hin, g1, g2, g3, w1, w2, tv, h4]
       refine .of 1 (by show n - 1 < n - 0; omega) ?_ ⟨rfl, by omega⟩
       simp [tv]; rfl
     · have w2 : wr .i64 32 = 32 := rfl
       obtain ⟨t, ht⟩ : ∃ t, t = dg a 1 * 4294967296 := ⟨_, rfl⟩
       have w3 : wr .u64 (((dg a 1 : Nat) : Int) * 4294967296) = (t : Int) := by rw [wr_u64 (by omega) (by omega)]; omega
       have h4 := or_u64 (a := tv a 1) (b := t) (by simp at l2; omega) (by omega)
       have h5 : tv a 1 ||| t = tv a 2 := by
        rw [Nat.or_comm, ht]
        have := or_add (a := dg a 1) (i := 32) (b := tv a 1) (by simpa using l2)
        simp only [Nat.reducePow] at this
        rw [this, tv.eq_2 a 1]
        simp
        omega
       rw [h5] at h4
       simp [hin, g1, g2, g3, w1, w2, w3, h4]
       refine .of 2 (by show n - 2 < n - 1; omega) ?_ ⟨rfl, by omega⟩
       simp
       rfl
   · obtain rfl : i = n := by omega
     simp [tv_len (ds := a) (i := i) (by omega)]
 · simp [show 2 < n by omega, h2]
end Go.Dam.C
namespace Go.Dam.C
open Go Go.Dam
variable [Foot]
variable {X : Cx} {pm : Perm} {H H' : Heap}
/-- How many bits. -/
def bl (x : Nat) : Nat := if x = 0 then 0 else x.log2 + 1
end Go.Dam.C
namespace Go.Dam.C
open Go Go.Dam
variable {X : Cx} {pm : Perm} {H H' : Heap}
theorem bl_lt (x : Nat) : x < 2 ^ bl x := by
 unfold bl
 split
 · subst x; simp
 · exact Nat.lt_log2_self
theorem bl_le {x : Nat} (h : x ≠ 0) : 2 ^ (bl x - 1) ≤ x := by
 unfold bl
 rw [if_neg h]
 exact Nat.log2_self_le h
end Go.Dam.C
namespace Go.Dam.C
open Go Go.Dam
variable [Foot]
variable {X : Cx} {pm : Perm} {H H' : Heap}
end Go.Dam.C
namespace Go.Dam.C
open Go Go.Dam
variable {X : Cx} {pm : Perm} {H H' : Heap}
theorem bl_eq {x n : Nat} (h1 : 2 ^ n ≤ x) (h2 : x < 2 ^ (n + 1)) : bl x = n + 1 := by
 have h0 : x ≠ 0 := by have := Nat.two_pow_pos n; omega
 have a := bl_lt x
 have b := bl_le h0
 have c := (Nat.pow_lt_pow_iff_right (by omega : 1 < 2)).1 (Nat.lt_of_le_of_lt h1 a)
 have d := (Nat.pow_lt_pow_iff_right (by omega : 1 < 2)).1 (Nat.lt_of_le_of_lt b h2)
 omega
end Go.Dam.C
namespace Go.Dam.C
open Go Go.Dam
variable [Foot]
variable {X : Cx} {pm : Perm} {H H' : Heap}
/-- The steps' widths: 32, 16, .. 1, 0. -/
def lenBy (k : Nat) : Nat := 2 ^ k / 2
def qt (x n : Nat) : Nat := x / 2 ^ n
end Go.Dam.C
namespace Go.Dam.C
open Go Go.Dam
variable {X : Cx} {pm : Perm} {H H' : Heap}
theorem bLen_spec (hX : NX X) {x : Nat} (hx : x < 18446744073709551616) : Call X pm F.b_Len [.int .u64 (x : Int)] H fun r H' => H' = H ∧ r = .int .i64 ((bl x : Nat) : Int) := by
 refine Call.has hX.b_Len rfl ?_
 simp
 refine LoopAt.of (fun s : Nat × Nat => [(0, .int .u64 ((qt x s.2 : Nat) : Int)), (3, .int .i64 (s.2 : Int)), (4, .int .i64 ((lenBy s.1 : Nat) : Int))])
  (fun s H' => H' = H ∧ s.1 ≤ 6 ∧ s.2 + 2 ^ s.1 ≤ 64 ∧ qt x s.2 < 2 ^ (2 ^ s.1) ∧ (s.2 = 0 ∨ qt x s.2 ≠ 0)) (fun s => s.1) (6, 0) (by simp [lenBy, qt]) ⟨rfl, by simp, by simp, by simpa [qt] using hx, .inl rfl⟩ ?_
 rintro ⟨k, n⟩ H ⟨rfl, hk, hn, hlt, hz⟩
 simp only at hk hn hlt hz
 cases k with
 | zero =>
   have h0 : lenBy 0 = 0 := rfl
   rw [h0]
   obtain ⟨q, hq⟩ : ∃ q, q = qt x n := ⟨_, rfl⟩
   rw [← hq] at hlt hz ⊢
   have w1 : wr .i64 (q : Int) = (q : Int) := wr_i64 (by omega) (by simp at hlt; omega)
   unfold qt at hq
   have w2 : wr .i64 ((n : Int) + (q : Int)) = ((n + q : Nat) : Int) := by rw [wr_i64 (by omega) (by simp at hlt; omega)]; simp
   simp [w1, w2]
   have hq2 : q = 0 ∨ q = 1 := by simp at hlt; omega
   rcases hq2 with rfl | rfl
   · have : n = 0 := by rcases hz with h | h; exact h; exact absurd rfl h
     subst this
     simp at hq
     subst hq
     simp [bl]
   · have h1 : 2 ^ n ≤ x := by
      have := Nat.div_mul_le_self x (2 ^ n)
      rw [← hq] at this
      omega
     have h2 : x < 2 ^ (n + 1) := by
      have := Nat.lt_mul_div_succ x (Nat.two_pow_pos n)
      rw [← hq] at this
      rw [Nat.pow_succ]; omega
     rw [bl_eq h1 h2]
     simp
 | succ k =>
   have hb : lenBy (k + 1) = 2 ^ k := by simp [lenBy, Nat.pow_succ]
   have hp : 0 < 2 ^ k := Nat.two_pow_pos k
   have hp5 : 2 ^ k ≤ 32 := Nat.pow_le_pow_right (n := 2) (i := k) (j := 5) (by omega) (by omega)
   rw [hb]
   have hpos : (0 : Int) < ((2 ^ k : Nat) : Int) := by omega
   obtain ⟨by', hby⟩ : ∃ b, b = 2 ^ k := ⟨_, rfl⟩
   have hn2 : n + by' * 2 ≤ 64 := by rw [hby]; simpa [Nat.pow_succ] using hn
   rw [← hby] at hp hp5 ⊢
   have hlb : lenBy k = by' / 2 := by rw [hby]; rfl
   obtain ⟨q, hq⟩ : ∃ q, q = qt x n := ⟨_, rfl⟩
   rw [← hq] at hlt hz ⊢
   have hmin : min by' 64 = by' := by omega
   have hf : ((q : Int)).fdiv (2 ^ by') = ((q / 2 ^ by' : Nat) : Int) := by
    have := fdiv_cast q (2 ^ by')
    simpa using this
   obtain ⟨p, hp2⟩ : ∃ p, p = q / 2 ^ by' := ⟨_, rfl⟩
   rw [← hp2] at hf
   have w2 : wr .i64 ((n : Int) + (by' : Int)) = ((n + by' : Nat) : Int) := by rw [wr_i64 (by omega) (by omega)]; simp
   have w1' : wr .i64 ((by' : Int) / 2) = ((by' / 2 : Nat) : Int) := by rw [wr_i64 (by omega) (by omega)]; omega
   by_cases hp0 : p = 0
   · simp [hp, hmin, hf, hp0, w1']
     refine .of (k, n) (by simp) (by simp [← hq, hlb]) ⟨rfl, by simp; omega, ?_, ?_, by simpa [← hq] using hz⟩
     · simp; rw [← hby]; omega
     · simp only
       rw [← hq, ← hby]
       rw [hp0] at hp2
       exact (Nat.div_eq_zero_iff_lt (Nat.two_pow_pos _)).1 hp2.symm
   · simp [hp, hmin, hf, hp0, w2, w1']
     have hpp : p = qt x (n + by') := by rw [hp2, hq, qt, qt, Nat.div_div_eq_div_mul, Nat.pow_add]
     refine .of (k, n + by') (by simp) (by simp [← hpp, hlb]) ⟨rfl, by simp; omega, ?_, ?_, .inr (by simp only; rw [← hpp]; exact hp0)⟩
     · simp; rw [← hby]; omega
     · simp only
       rw [← hpp, hp2, ← hby]
       rw [Nat.div_lt_iff_lt_mul (Nat.two_pow_pos _), ← Nat.pow_add]
       rw [show by' + by' = 2 ^ (k + 1) by rw [Nat.pow_succ, ← hby]; omega]
       exact hlt
end Go.Dam.C
namespace Go.Dam.C
open Go Go.Dam
variable [Foot]
variable {X : Cx} {pm : Perm} {H H' : Heap}
end Go.Dam.C
namespace Go.Dam.C
open Go Go.Dam
variable {X : Cx} {pm : Perm} {H H' : Heap}
/-- A number's twos: x = 2^z (2 q + 1). -/
theorem twos_ex {x : Nat} (h : x ≠ 0) : ∃ z q, x = 2 ^ z * (2 * q + 1) := by
 induction x using Nat.strongRecOn with
 | ind x ih =>
   by_cases h2 : x % 2 = 1
   · exact ⟨0, x / 2, by simp; omega⟩
   · obtain ⟨z, q, e⟩ := ih (x / 2) (by omega) (by omega)
     exact ⟨z + 1, q, by rw [Nat.pow_succ]; generalize 2 ^ z = p at *; have : x = 2 * (x / 2) := by omega
                         rw [this, e]; grind⟩
theorem low_bit {x z q : Nat} (hx : x = 2 ^ z * (2 * q + 1)) (hz : z < 64) (hlt : x < 18446744073709551616) : x &&& (18446744073709551616 - x) = 2 ^ z := by
 have h64 : 18446744073709551616 = 2 ^ z * (2 * 2 ^ (63 - z)) := by
  rw [show 2 * 2 ^ (63 - z) = 2 ^ (64 - z) by rw [← Nat.pow_succ']; congr 1; omega, ← Nat.pow_add, show z + (64 - z) = 64 by omega]
 have hp := Nat.two_pow_pos z
 have hq : q < 2 ^ (63 - z) := by
  rw [hx, h64] at hlt
  have := Nat.lt_of_mul_lt_mul_left hlt
  omega
 have hr : 18446744073709551616 - x = 2 ^ z * (2 * (2 ^ (63 - z) - (q + 1)) + 1) := by
  rw [hx, h64, ← Nat.mul_sub]
  congr 1
  omega
 rw [hr, hx]
 rw [Nat.mul_comm (2 ^ z), Nat.mul_comm (2 ^ z), ← Nat.shiftLeft_eq, ← Nat.shiftLeft_eq, ← Nat.shiftLeft_and_distrib]
 have hand : (2 * q + 1) &&& (2 * (2 ^ (63 - z) - (q + 1)) + 1) = 1 := by
  apply Nat.eq_of_testBit_eq
  intro i
  rw [Nat.testBit_and]
  cases i with
  | zero => simp [Nat.testBit_zero]
  | succ i =>
    rw [Nat.testBit_succ, Nat.testBit_succ, Nat.testBit_succ]
    rw [show (2 * q + 1) / 2 = q by omega, show (2 * (2 ^ (63 - z) - (q + 1)) + 1) / 2 = 2 ^ (63 - z) - (q + 1) by omega]
    rw [Nat.testBit_two_pow_sub_succ hq]
    simp
    intro h _
    simpa using h
 rw [hand, Nat.shiftLeft_eq, Nat.one_mul]
end Go.Dam.C
namespace Go.Dam.C
open Go Go.Dam
variable [Foot]
variable {X : Cx} {pm : Perm} {H H' : Heap}
end Go.Dam.C
namespace Go.Dam.C
open Go Go.Dam
variable {X : Cx} {pm : Perm} {H H' : Heap}
theorem bl_pow (z : Nat) : bl (2 ^ z) = z + 1 := bl_eq (Nat.le_refl _) (by rw [Nat.pow_succ]; have := Nat.two_pow_pos z; omega)
end Go.Dam.C
namespace Go.Dam.C
open Go Go.Dam
variable [Foot]
variable {X : Cx} {pm : Perm} {H H' : Heap}
end Go.Dam.C
namespace Go.Dam.C
open Go Go.Dam
variable {X : Cx} {pm : Perm} {H H' : Heap}
theorem bZeros_spec (hX : NX X) {x z q : Nat} (hx : x = 2 ^ z * (2 * q + 1)) (hlt : x < 18446744073709551616) : Call X pm F.b_Zeros [.int .u64 (x : Int)] H fun r H' => H' = H ∧ r = .int .i64 (z : Int) := by
 have hp := Nat.two_pow_pos z
 have h0 : x ≠ 0 := by
  rw [hx]
  have : 0 < 2 ^ z * (2 * q + 1) := Nat.mul_pos hp (by omega)
  omega
 have hz : z < 64 := by
  have : 2 ^ z ≤ x := by rw [hx]; exact Nat.le_mul_of_pos_right _ (by omega)
  exact (Nat.pow_lt_pow_iff_right (by omega : 1 < 2)).1 (Nat.lt_of_le_of_lt this (by simpa using hlt))
 have hlow := low_bit hx hz hlt
 refine Call.has hX.b_Zeros rfl ?_
 have w1 : wr .u64 (-(x : Int)) = ((18446744073709551616 - x : Nat) : Int) := by
  rw [wr_eq]
  simp [IntKind.wrap, IntKind.bits, IntKind.signed]
  omega
 obtain ⟨n, hn⟩ : ∃ n, n = 18446744073709551616 - x := ⟨_, rfl⟩
 rw [← hn] at w1 hlow
 have h4 := and_u64 (a := x) (b := n) hlt (by omega)
 rw [hlow] at h4
 obtain ⟨p, hpe⟩ : ∃ p, p = 2 ^ z := ⟨_, rfl⟩
 rw [← hpe] at h4
 simp [h0, w1, h4]
 have hbl : bl p = z + 1 := by rw [hpe]; exact bl_pow z
 refine CallAt.of (by simp) (by simp) (bLen_spec hX (x := p) ?_) ?_
 · rw [hpe]; have := (Nat.pow_lt_pow_iff_right (by omega : 1 < 2)).2 hz; simpa using this
 rintro _ H ⟨rfl, rfl⟩
 rw [hbl]
 have w2 : wr .i64 (z : Int) = (z : Int) := wr_i64 (by omega) (by omega)
 simp [w2]
end Go.Dam.C
namespace Go.Dam.C
open Go Go.Dam
variable {X : Cx} {pm : Perm} {H H' : Heap}
theorem nv_append (a b : List Nat) : nv (a ++ b) = nv a + 4294967296 ^ a.length * nv b := by
 induction a with
 | nil => simp [nv]
 | cons d a ih => simp only [List.cons_append, nv, ih, List.length_cons, Nat.pow_succ]; generalize 4294967296 ^ a.length = p; grind
end Go.Dam.C
namespace Go.Dam.C
open Go Go.Dam
variable [Foot]
variable {X : Cx} {pm : Perm} {H H' : Heap}
theorem Bits_spec (hX : NX X) {v : Value} {a : List Nat} (ha : IsN H v a) (hs : strip a = a) (la : a.length ≤ 1073741824) : Call X pm F.n_Bits [v] H fun r H' => H' = H ∧ r = .int .i64 ((bl (nv a) : Nat) : Int) := by
 have hla := ha.lim
 refine Call.has hX.n_Bits rfl ?_
 simp
 refine CallAt.of (by simp) (by simp) (digits_spec hX.n_digits ha) ?_
 rintro va H ⟨rfl, hda⟩
 obtain ⟨ab, ac, rfl⟩ := hda.form
 obtain ⟨n, hn⟩ : ∃ n, n = a.length := ⟨_, rfl⟩
 rw [← hn] at hda ⊢
 cases n with
 | zero =>
   obtain rfl : a = [] := List.length_eq_zero_iff.1 hn.symm
   simp [nv, bl]
 | succ n =>
   obtain ⟨c, off, y, row, rfl, g1, g2, g3⟩ := hda.at hn (i := n) (by omega)
   have l1 := hla.dg n
   have w1 : wr .u64 ((dg a n : Nat) : Int) = ((dg a n : Nat) : Int) := wr_u64 (by omega) (by omega)
   have w2 : wr .i64 (n : Int) = (n : Int) := wr_i64 (by omega) (by omega)
   have w3 : wr .i64 (32 * (n : Int)) = ((32 * n : Nat) : Int) := by rw [wr_i64 (by omega) (by omega)]; simp
   have hne : ¬ ((n : Int) + 1 = 0) := by omega
   simp [hne, w2, w3, g1, g2, g3, w1]
   refine CallAt.of (by simp) (by simp) (bLen_spec hX (x := dg a n) (by omega)) ?_
   rintro _ H ⟨rfl, rfl⟩
   have hd0 : dg a n ≠ 0 := by
    intro h0
    have h1 : strip a = strip (a.take n) := strip_take fun i hi => by
     by_cases hin : i = n
     · subst hin; exact h0
     · simp [show a.length ≤ i by omega]
    have h2 := strip_length (a.take n)
    rw [← h1, hs] at h2
    simp at h2
    omega
   have hbl : bl (nv a) = 32 * n + bl (dg a n) := by
    have hv : nv a = tv a n + dg a n * 4294967296 ^ n := by rw [← tv_len (ds := a) (i := n + 1) (by omega), tv]
    have ht := tv_lt hla n
    have h5 : (4294967296 : Nat) ^ n = 2 ^ (32 * n) := by rw [Nat.pow_mul]
    rw [h5] at hv ht
    have b1 := bl_lt (dg a n)
    have b2 := bl_le hd0
    have b3 : bl (dg a n) ≠ 0 := by unfold bl; rw [if_neg hd0]; omega
    obtain ⟨k, hk⟩ : ∃ k, bl (dg a n) = k + 1 := ⟨bl (dg a n) - 1, by omega⟩
    rw [hk] at b1 b2 ⊢
    rw [show 32 * n + (k + 1) = (32 * n + k) + 1 by omega]
    simp only [Nat.add_sub_cancel] at b2
    refine bl_eq ?_ ?_
    · rw [Nat.pow_add, hv, Nat.mul_comm]
      have := Nat.mul_le_mul_right (2 ^ (32 * n)) b2
      omega
    · rw [show 32 * n + k + 1 = (k + 1) + 32 * n by omega, Nat.pow_add, hv]
      have := Nat.mul_le_mul_right (2 ^ (32 * n)) (Nat.succ_le_of_lt b1)
      rw [Nat.succ_mul] at this
      omega
   rw [hbl]
   have hb3 : bl (dg a n) ≤ 64 := by
    have := bl_le hd0
    have h6 : (2 : Nat) ^ (bl (dg a n) - 1) < 2 ^ 32 := by omega
    have := (Nat.pow_lt_pow_iff_right (by omega : 1 < 2)).1 h6
    omega
   have w4 : wr .i64 (32 * (n : Int) + ((bl (dg a n) : Nat) : Int)) = ((32 * n + bl (dg a n) : Nat) : Int) := by rw [wr_i64 (by omega) (by omega)]; simp
   simp [w4]
end Go.Dam.C
namespace Go.Dam.C
open Go Go.Dam
variable [Foot]
variable {X : Cx} {pm : Perm} {H H' : Heap}
end Go.Dam.C
namespace Go.Dam.C
open Go Go.Dam
variable {X : Cx} {pm : Perm} {H H' : Heap}
theorem tv_zero {a : List Nat} {k : Nat} (h : ∀ i, i < k → dg a i = 0) : tv a k = 0 := by
 induction k with
 | zero => rfl
 | succ k ih => rw [tv, ih fun i hi => h i (by omega), h k (by omega)]; simp
end Go.Dam.C
namespace Go.Dam.C
open Go Go.Dam
variable [Foot]
variable {X : Cx} {pm : Perm} {H H' : Heap}
end Go.Dam.C
namespace Go.Dam.C
open Go Go.Dam
variable {X : Cx} {pm : Perm} {H H' : Heap}
theorem nv_tv_hv (a : List Nat) (k : Nat) : nv a = tv a k + 4294967296 ^ k * hv a k := by
 induction k with
 | zero => simp [tv, hv_zero]
 | succ k ih =>
   rw [ih, tv, hv_step a k, Nat.pow_succ]
   generalize 4294967296 ^ k = p
   grind
end Go.Dam.C
namespace Go.Dam.C
open Go Go.Dam
variable [Foot]
variable {X : Cx} {pm : Perm} {H H' : Heap}
/-- Twos of a number: those of its first digit that is not nought. -/
theorem Twos_spec (hX : NX X) {v : Value} {a : List Nat} (ha : IsN H v a) (la : a.length ≤ 1073741824) :
  Call X pm F.n_Twos [v] H fun r H' => H' = H ∧ ∃ z : Nat, r = .int .i64 (z : Int) ∧ z ≤ 34359738368 ∧ (nv a = 0 ∧ z = 0 ∨ ∃ q, nv a = 2 ^ z * (2 * q + 1)) := by
 have hla := ha.lim
 refine Call.has hX.n_Twos rfl ?_
 simp
 refine CallAt.of (by simp) (by simp) (digits_spec hX.n_digits ha) ?_
 rintro va H ⟨rfl, hda⟩
 obtain ⟨ab, ac, rfl⟩ := hda.form
 obtain ⟨n, hn⟩ : ∃ n, n = a.length := ⟨_, rfl⟩
 rw [← hn] at hda ⊢
 simp
 refine LoopAt.of (fun i : Nat => [(6, .slice ab n ac), (7, .int .i64 (n : Int)), (8, .int .i64 (i : Int))]) (fun i H' => H' = H ∧ i ≤ n ∧ ∀ j, j < i → dg a j = 0) (fun i => n - i) 0 (by simp) ⟨rfl, by omega, fun j hj => by omega⟩ ?_
 rintro i H ⟨rfl, hi, hz⟩
 by_cases hin : i < n
 · obtain ⟨c, off, y, row, rfl, g1, g2, g3⟩ := hda.at hn hin
   have l1 := hla.dg i
   have w1 : wr .u64 ((dg a i : Nat) : Int) = ((dg a i : Nat) : Int) := wr_u64 (by omega) (by omega)
   have w2 : wr .i64 ((i : Int) + 1) = ((i + 1 : Nat) : Int) := by rw [wr_i64 (by omega) (by omega)]; simp
   have w3 : wr .i64 (32 * (i : Int)) = ((32 * i : Nat) : Int) := by rw [wr_i64 (by omega) (by omega)]; simp
   by_cases hd : dg a i = 0
   · simp [hin, g1, g2, g3, hd, w2]
     exact .of (i + 1) (by show n - (i + 1) < n - i; omega) (by simp) ⟨rfl, by omega, fun j hj => by rcases (by omega : j < i ∨ j = i) with h | rfl; exact hz j h; exact hd⟩
   · obtain ⟨z, q, hzq⟩ := twos_ex hd
     simp [hin, g1, g2, g3, hd, w1, w3]
     refine CallAt.of (by simp) (by simp) (bZeros_spec hX hzq (by omega)) ?_
     rintro _ H ⟨rfl, rfl⟩
     have hz64 : z < 32 := by
      have : 2 ^ z ≤ dg a i := by rw [hzq]; exact Nat.le_mul_of_pos_right _ (by omega)
      exact (Nat.pow_lt_pow_iff_right (by omega : 1 < 2)).1 (Nat.lt_of_le_of_lt this (by simpa using l1))
     have w4 : wr .i64 (32 * (i : Int) + (z : Int)) = ((32 * i + z : Nat) : Int) := by rw [wr_i64 (by omega) (by omega)]; simp
     simp [w4]
     refine ⟨32 * i + z, by simp, by omega, .inr ⟨q + 2 ^ (31 - z) * hv a (i + 1), ?_⟩⟩
     rw [nv_tv_hv a i, tv_zero hz, hv_step a i, hzq, Nat.pow_add, show (4294967296 : Nat) ^ i = 2 ^ (32 * i) by rw [Nat.pow_mul]]
     have : (4294967296 : Nat) = 2 ^ z * (2 * 2 ^ (31 - z)) := by
      rw [show 2 * 2 ^ (31 - z) = 2 ^ (32 - z) by rw [← Nat.pow_succ']; congr 1; omega, ← Nat.pow_add, show z + (32 - z) = 32 by omega]
     rw [this]
     generalize 2 ^ (32 * i) = p
     generalize 2 ^ z = r
     generalize 2 ^ (31 - z) = s
     generalize hv a (i + 1) = t
     grind
 · obtain rfl : i = n := by omega
   simp
   exact ⟨0, by simp, by omega, .inl ⟨by rw [← tv_len (ds := a) (i := i) (by omega), tv_zero hz], rfl⟩⟩
theorem up_spec (hX : NX X) (ho : Ok pm H) {v : Value} {a : List Nat} (ha : IsN H v a) (la : a.length < 536870912) {k : Nat} (hk : k < 8589934592) :
  Call X pm F.n_up [v, .int .i64 (k : Int)] H fun r H' => Keep pm H H' ∧ ∃ ds, IsN H' r (strip ds) ∧ Lim ds ∧ nv ds = nv a * 2 ^ k ∧ ds.length = a.length + k / 32 + 1 := by
 have hla := ha.lim
 refine Call.has hX.n_up rfl ?_
 simp
 refine CallAt.of (by simp) (by simp) (digits_spec hX.n_digits ha) ?_
 rintro va H ⟨rfl, hda⟩
 obtain ⟨ab, ac, rfl⟩ := hda.form
 obtain ⟨n, hn⟩ : ∃ n, n = a.length := ⟨_, rfl⟩
 rw [← hn] at hda ⊢
 obtain ⟨q, hq⟩ : ∃ q, q = k / 32 := ⟨_, rfl⟩
 obtain ⟨s, hs⟩ : ∃ s, s = k % 32 := ⟨_, rfl⟩
 obtain ⟨N, hN⟩ : ∃ N, N = n + q + 1 := ⟨_, rfl⟩
 have d1 : ((k : Int)).tdiv 32 = (q : Int) := by rw [hq]; rfl
 have d2 : ((k : Int)).tmod 32 = (s : Int) := by rw [hs]; rfl
 have w0 : wr .i64 (q : Int) = (q : Int) := wr_i64 (by omega) (by omega)
 have w1 : wr .i64 (wr .i64 ((n : Int) + (q : Int)) + 1) = (N : Int) := by rw [wr_i64 (n := (n : Int) + q) (by omega) (by omega), wr_i64 (by omega) (by omega)]; omega
 have hpow : (2 : Nat) ^ k = 4294967296 ^ q * 2 ^ s := by rw [show (4294967296 : Nat) = 2 ^ 32 by rfl, ← Nat.pow_mul, ← Nat.pow_add]; congr 1; omega
 have hs2 : 2 ^ s * 2 ^ (32 - s) = 4294967296 := by rw [← Nat.pow_add, show s + (32 - s) = 32 by omega]
 have hps := Nat.two_pow_pos s
 have hps2 : 2 ^ s ≤ 2147483648 := Nat.pow_le_pow_right (n := 2) (i := s) (j := 31) (by omega) (by omega)
 simp [d1, w0, w1]
 rw [mk_run ho (by omega) (by omega)]
 simp
 refine LoopAt.of (fun s : Nat × List Nat => [(6, .slice (some ⟨H.next, 0, none⟩) N N), (1, .int .i64 (k : Int)), (19, .slice ab n ac), (20, .int .i64 (n : Int)), (21, .int .i64 (s.1 : Int))])
  (fun t H' => Out pm H H' H.next t.2 N ∧ t.1 ≤ n ∧ tv t.2 (t.1 + q + 1) = tv a t.1 * 2 ^ k ∧ dg t.2 (t.1 + q) < 2 ^ s) (fun s => n - s.1) (0, List.replicate N 0) (by simp) ⟨Out.mk0 ho (Keep.refl ho) _, by simp, ?_, ?_⟩ ?_
 · simp only [Nat.zero_add, tv, Nat.zero_mul]
   rw [tv_zero (fun i hi => by simp [dg, List.getElem?_replicate]; split <;> simp)]
   simp [dg, List.getElem?_replicate]
   split <;> simp
 · simp [dg, List.getElem?_replicate]
   split <;> simp <;> omega
 rintro ⟨i, outs⟩ H' ⟨hout, hi, hsum, hlow⟩
 simp only at hout hi hsum hlow
 by_cases hin : i < n
 · obtain ⟨c, off, y, row, rfl, g1, g2, g3⟩ := (hda.keep ho hout.keep).at hn hin
   have l1 := hla.dg i
   have l2 := hout.lim.dg (i + q)
   obtain ⟨y', hy⟩ : ∃ y', y' = dg a i * 2 ^ s := ⟨_, rfl⟩
   have hyl : y' < 4294967296 * 2 ^ s := by rw [hy]; exact Nat.mul_lt_mul_of_pos_right l1 hps
   obtain ⟨lo, hlo⟩ : ∃ lo, lo = y' % 4294967296 := ⟨_, rfl⟩
   obtain ⟨hi', hhi⟩ : ∃ h, h = y' / 4294967296 := ⟨_, rfl⟩
   have hhil : hi' < 2 ^ s := by rw [hhi]; exact Nat.div_lt_of_lt_mul hyl
   have x1 : wr .u64 ((dg a i : Nat) : Int) = ((dg a i : Nat) : Int) := wr_u64 (by omega) (by omega)
   have x2 : wr .i64 ((i : Int) + 1) = ((i + 1 : Nat) : Int) := by rw [wr_i64 (by omega) (by omega)]; simp
   have x3 : wr .i64 ((i : Int) + (q : Int)) = ((i + q : Nat) : Int) := by rw [wr_i64 (by omega) (by omega)]; simp
   have x4 : wr .i64 (((i : Int) + (q : Int)) + 1) = ((i + q + 1 : Nat) : Int) := by rw [wr_i64 (by omega) (by omega)]; simp
   have hmin : min s 64 = s := by omega
   have x5 : wr .u64 (((dg a i : Nat) : Int) * 2 ^ s) = (y' : Int) := by
    have e : ((dg a i : Nat) : Int) * 2 ^ s = (y' : Int) := by rw [hy]; simp
    rw [e]; exact wr_u64 (by omega) (by omega)
   have x6 : wr .u32 (y' : Int) = (lo : Int) := by rw [wr_u32]; omega
   have x7 : ((y' : Int)).fdiv 4294967296 = (hi' : Int) := by rw [hhi]; exact fdiv_32 y'
   have x8 : wr .u32 (hi' : Int) = (hi' : Int) := by rw [wr_u32]; omega
   obtain ⟨j, hj⟩ : ∃ j, j = i + q + 1 := ⟨_, rfl⟩
   have x9 : wr .i64 ((i : Int) + (q : Int) + 1) = (j : Int) := by rw [x4, hj]
   have hget := u32s_get (ds := outs) (i := i + q) (by rw [hout.len]; omega)
   obtain ⟨e, he⟩ : ∃ e, e = dg outs (i + q) + lo := ⟨_, rfl⟩
   have hmul : ∃ t, lo = t * 2 ^ s := by
    refine ⟨dg a i % 2 ^ (32 - s), ?_⟩
    rw [hlo, hy, ← hs2, Nat.mul_comm (dg a i), Nat.mul_mod_mul_left, Nat.mul_comm]
   have hor : dg outs (i + q) ||| lo = e := by
    obtain ⟨t, ht⟩ := hmul
    rw [Nat.or_comm, ht, or_add hlow, he, ht]; omega
   have hel : e < 4294967296 := by rw [← hor]; exact Nat.or_lt_two_pow (n := 32) l2 (by omega)
   have x10 := or_u32 (a := dg outs (i + q)) (b := lo) l2 (by omega)
   rw [hor] at x10
   have hset := setCells_one (cs := u32s outs) (i := i + q) (v := .int .u32 (e : Int)) (by rw [u32s_length, hout.len]; omega)
   have hset2 := setCells_one (cs := u32s (outs.set (i + q) e)) (i := j) (v := .int .u32 (hi' : Int)) (by rw [u32s_length, List.length_set, hout.len]; omega)
   rw [u32s_set] at hset hset2
   simp [hin, g1, g2, g3, x1, x2, x3, d1, d2, w0, hmin, x5, x6, hout.get, hget, x10, hset, ho.may (Nat.le_refl _), x7, x8, x9, hset2, show i + q < N by omega, show j < N by omega]
   subst hj
   refine .of (i + 1, (outs.set (i + q) e).set (i + q + 1) hi') (by show n - (i + 1) < n - i; omega) (by simp) ⟨(hout.put (i + q) hel).put (i + q + 1) (by omega), by simp; omega, ?_, ?_⟩
   · show tv ((outs.set (i + q) e).set (i + q + 1) hi') (i + 1 + q + 1) = tv a (i + 1) * 2 ^ k
     rw [show i + 1 + q + 1 = (i + q + 1) + 1 by omega, tv_put (by rw [List.length_set, hout.len]; omega), tv_put (by rw [hout.len]; omega), tv]
     rw [tv] at hsum
     rw [Nat.add_mul, ← hsum, Nat.pow_succ, hpow, he]
     have e1 : dg a i * 4294967296 ^ i * (4294967296 ^ q * 2 ^ s) = y' * 4294967296 ^ (i + q) := by
      rw [hy, Nat.pow_add]; generalize 4294967296 ^ i = p1; generalize 4294967296 ^ q = p2; generalize 2 ^ s = p3; grind
     rw [e1]
     have e2 : y' = lo + 4294967296 * hi' := by omega
     rw [e2]
     generalize 4294967296 ^ (i + q) = p
     grind
   · show dg ((outs.set (i + q) e).set (i + q + 1) hi') (i + 1 + q) < 2 ^ s
     rw [show i + 1 + q = i + q + 1 by omega, dg_set (by rw [List.length_set, hout.len]; omega)]
     exact hhil
 · obtain rfl : i = n := by omega
   simp
   have h3 : tv outs (i + q + 1) = nv outs := tv_len (by rw [hout.len]; omega)
   refine CallAt.of (by simp) (by simp) (of_spec hX.n_of hout.keep.ok (dig_out hout.get hout.lim hout.len (ho.new _ hout.low)) (by rw [hout.len]; omega)) ?_
   rintro r H2 ⟨k2, hr⟩
   simp
   exact ⟨hout.keep.trans k2, outs, hr, hout.lim, by rw [← h3, hsum, tv_len (ds := a) (by omega)], by rw [hout.len]; omega⟩
end Go.Dam.C
namespace Go.Dam.C
open Go Go.Dam
variable [Foot]
variable {X : Cx} {pm : Perm} {H H' : Heap}
theorem Dig.drop {c off cap : Nat} {n : Nat} {a : List Nat} (h : Dig H (.slice (some ⟨c, off, none⟩) n cap) a) (q : Nat) (hq : q ≤ n) : Dig H (.slice (some ⟨c, off + q, none⟩) (n - q) (cap - q)) (a.drop q) := by
 have hn := h.len
 obtain ⟨hl, ⟨h1, rfl⟩ | ⟨c', off', cap', y, row, h0, h1, h2, h3, h4, h5⟩⟩ := h
 · cases h1
 · cases h0
   refine ⟨fun d hd => hl d (List.mem_of_mem_drop hd), .inr ⟨c, off + q, cap - q, y, row, by simp, h1, h2, ?_, by simp; omega, by have := h5.1; simp; omega, h5.2⟩⟩
   have := congrArg (List.drop q) h3
   rw [List.drop_take, List.drop_drop] at this
   simp only [List.length_drop]
   rw [this]
   simp [u32s, List.map_drop]
end Go.Dam.C
namespace Go.Dam.C
open Go Go.Dam
variable {X : Cx} {pm : Perm} {H H' : Heap}
end Go.Dam.C
namespace Go.Dam.C
open Go Go.Dam
variable [Foot]
variable {X : Cx} {pm : Perm} {H H' : Heap}
end Go.Dam.C
namespace Go.Dam.C
open Go Go.Dam
variable {X : Cx} {pm : Perm} {H H' : Heap}
theorem hv_div (a : List Nat) (k : Nat) (hl : Lim a) : hv a k = nv a / 4294967296 ^ k := by
 rw [nv_tv_hv a k, Nat.add_mul_div_left _ _ (Nat.pow_pos (by omega)), Nat.div_eq_of_lt (tv_lt hl k)]
 omega
end Go.Dam.C
namespace Go.Dam.C
open Go Go.Dam
variable [Foot]
variable {X : Cx} {pm : Perm} {H H' : Heap}
theorem down_spec (hX : NX X) (ho : Ok pm H) {v : Value} {a : List Nat} (ha : IsN H v a) (la : a.length < 1073741824) {k : Nat} (hk : k < 137438953472) :
  Call X pm F.n_down [v, .int .i64 (k : Int)] H fun r H' => Keep pm H H' ∧ ∃ ds, IsN H' r (strip ds) ∧ Lim ds ∧ nv ds = nv a / 2 ^ k ∧ ds.length ≤ a.length := by
 have hla := ha.lim
 refine Call.has hX.n_down rfl ?_
 simp
 refine CallAt.of (by simp) (by simp) (digits_spec hX.n_digits ha) ?_
 rintro va H ⟨rfl, hda⟩
 obtain ⟨ab, ac, rfl⟩ := hda.form
 obtain ⟨n, hn⟩ : ∃ n, n = a.length := ⟨_, rfl⟩
 rw [← hn] at hda ⊢
 obtain ⟨q, hq⟩ : ∃ q, q = k / 32 := ⟨_, rfl⟩
 obtain ⟨s, hs⟩ : ∃ s, s = k % 32 := ⟨_, rfl⟩
 have d1 : ((k : Int)).tdiv 32 = (q : Int) := by rw [hq]; rfl
 have d2 : ((k : Int)).tmod 32 = (s : Int) := by rw [hs]; rfl
 have w0 : wr .i64 (q : Int) = (q : Int) := wr_i64 (by omega) (by omega)
 have hpow : (2 : Nat) ^ k = 4294967296 ^ q * 2 ^ s := by rw [show (4294967296 : Nat) = 2 ^ 32 by rfl, ← Nat.pow_mul, ← Nat.pow_add]; congr 1; omega
 have hs2 : 2 ^ s * 2 ^ (32 - s) = 4294967296 := by rw [← Nat.pow_add, show s + (32 - s) = 32 by omega]
 have hps := Nat.two_pow_pos s
 by_cases hnq : n ≤ q
 · simp [d1, w0, show ¬ q < n by omega]
   refine CallAt.of (by simp) (by simp) (of_spec hX.n_of ho .nil (by simp)) ?_
   rintro r H2 ⟨k2, hr⟩
   simp
   refine ⟨k2, [], hr, fun d hd => (by cases hd), ?_, by simp⟩
   rw [hpow, ← Nat.div_div_eq_div_mul, ← hv_div a q hla, hv_end (by omega)]
   simp [nv]
 · obtain ⟨c0, off0, y0, row0, rfl, f1, _, _⟩ := hda.at hn (i := q) (by omega)
   have hcap : n ≤ ac ∧ ∃ row, RowB y0 row := by
    obtain ⟨_, ⟨h1, _⟩ | ⟨c', off', cap', y, row, h0, h1, h2, h3, h4, h5⟩⟩ := id hda
    · cases h1
    · cases h0
      rw [f1] at h1
      cases h1
      exact ⟨by omega, row, h2⟩
   obtain ⟨hcap, row1, hrb⟩ := hcap
   have hsl := hrb.slSl (pm := pm) (H := H) (l := q) (h := n) (m := ac) (cap := ac) (off := off0) f1 (by omega) hcap (Nat.le_refl _)
   have hdb := hda.drop q (by omega)
   obtain ⟨b, hb⟩ : ∃ b, b = a.drop q := ⟨_, rfl⟩
   obtain ⟨N, hN⟩ : ∃ N, N = n - q := ⟨_, rfl⟩
   rw [← hb, ← hN] at hdb
   rw [← hN] at hsl
   have hlb : Lim b := hdb.1
   have hbl : b.length = N := by rw [hb, List.length_drop]; omega
   simp [d1, w0, show q < n by omega, hsl]
   rw [mk_run ho (by omega) (by omega)]
   simp
   refine LoopAt.of (fun t : Nat × List Nat => [(6, .slice (some ⟨H.next, 0, none⟩) N N), (1, .int .i64 (k : Int)), (5, .slice (some ⟨c0, off0 + q, none⟩) N (ac - q)), (24, .int .i64 (N : Int)), (25, .int .i64 (t.1 : Int))])
    (fun t H' => Out pm H H' H.next t.2 N ∧ t.1 ≤ N ∧ tv t.2 t.1 + 4294967296 ^ t.1 * (hv b t.1 / 2 ^ s) = nv b / 2 ^ s) (fun s => N - s.1) (0, List.replicate N 0) (by simp) ⟨Out.mk0 ho (Keep.refl ho) _, by simp, by simp [tv, hv_zero]⟩ ?_
   rintro ⟨i, outs⟩ H' ⟨hout, hi, hsum⟩
   simp only at hout hi hsum
   by_cases hin : i < N
   · simp [hin]
     refine CallAt.of (by simp) (by simp) (at_spec hX.n_at (hdb.keep ho hout.keep) i) ?_
     rintro _ H' ⟨rfl, rfl⟩
     have x1 : wr .i64 ((i : Int) + 1) = ((i + 1 : Nat) : Int) := by rw [wr_i64 (by omega) (by omega)]; simp
     obtain ⟨j, hj⟩ : ∃ j, j = i + 1 := ⟨_, rfl⟩
     rw [← hj] at x1
     simp [x1]
     refine CallAt.of (by simp) (by simp) (at_spec hX.n_at (hdb.keep ho hout.keep) j) ?_
     rintro _ H' ⟨rfl, rfl⟩
     have l1 := hlb.dg i
     have l2 := hlb.dg j
     obtain ⟨t, ht⟩ : ∃ t, t = dg b j * 4294967296 := ⟨_, rfl⟩
     have x2 : wr .u64 (((dg b j : Nat) : Int) * 4294967296) = (t : Int) := by rw [wr_u64 (by omega) (by omega)]; omega
     obtain ⟨u, hu⟩ : ∃ u, u = t + dg b i := ⟨_, rfl⟩
     have x3 := or_u64 (a := dg b i) (b := t) (by omega) (by omega)
     have hor : dg b i ||| t = u := by
      rw [Nat.or_comm, ht, hu]
      have := or_add (a := dg b j) (i := 32) (b := dg b i) (by simpa using l1)
      simp only [Nat.reducePow] at this
      omega
     rw [hor] at x3
     have hmin : min s 64 = s := by omega
     obtain ⟨w, hw⟩ : ∃ w, w = u / 2 ^ s := ⟨_, rfl⟩
     have x4 : ((u : Int)).fdiv (2 ^ s) = (w : Int) := by
      have := fdiv_cast u (2 ^ s)
      rw [hw]
      simpa using this
     obtain ⟨d, hd⟩ : ∃ d, d = w % 4294967296 := ⟨_, rfl⟩
     have x5 : wr .u32 (w : Int) = (d : Int) := by rw [wr_u32]; omega
     have hset := setCells_one (cs := u32s outs) (i := i) (v := .int .u32 (d : Int)) (by rw [u32s_length, hout.len]; omega)
     rw [u32s_set] at hset
     simp [x2, x3, d2, hmin, x4, x5, hset, hin, hout.get, ho.may (Nat.le_refl _), x1]
     refine .of (j, outs.set i d) (by show N - j < N - i; omega) (by simp) ⟨hout.put i (by omega), by simp; omega, ?_⟩
     show tv (outs.set i d) j + 4294967296 ^ j * (hv b j / 2 ^ s) = nv b / 2 ^ s
     rw [← hsum, hj, tv_put (by rw [hout.len]; omega), Nat.pow_succ]
     have key : hv b i / 2 ^ s = d + 4294967296 * (hv b (i + 1) / 2 ^ s) := by
      have e1 : (hv b i / 2 ^ s) / 4294967296 = hv b (i + 1) / 2 ^ s := by
       rw [Nat.div_div_eq_div_mul, Nat.mul_comm, ← Nat.div_div_eq_div_mul, hv_step b i, Nat.add_mul_div_left _ _ (by omega), Nat.div_eq_of_lt l1]
       simp
      have e2 : (hv b i / 2 ^ s) % 4294967296 = d := by
       rw [hd, hw, hu, ht, hv_step b i, hv_step b (i + 1), ← hj]
       have : dg b i + 4294967296 * (dg b j + 4294967296 * hv b (j + 1)) = (dg b j * 4294967296 + dg b i) + 2 ^ s * (4294967296 * (2 ^ (32 - s) * hv b (j + 1))) := by
        have e : 4294967296 * (4294967296 * hv b (j + 1)) = 2 ^ s * (4294967296 * (2 ^ (32 - s) * hv b (j + 1))) := by
         generalize hv b (j + 1) = z
         have : 2 ^ s * 2 ^ (32 - s) * (4294967296 * z) = 4294967296 * (4294967296 * z) := by rw [hs2]
         generalize 2 ^ s = x at *
         generalize 2 ^ (32 - s) = y at *
         grind
        omega
       rw [this, Nat.add_mul_div_left _ _ hps, Nat.add_mul_mod_self_left]
      omega
     rw [key]
     generalize 4294967296 ^ i = p
     generalize hv b (i + 1) / 2 ^ s = r
     grind
   · obtain rfl : i = N := by omega
     simp
     have h3 : tv outs i = nv outs := tv_len (by rw [hout.len]; omega)
     refine CallAt.of (by simp) (by simp) (of_spec hX.n_of hout.keep.ok (dig_out hout.get hout.lim hout.len (ho.new _ hout.low)) (by rw [hout.len]; omega)) ?_
     rintro r H2 ⟨k2, hr⟩
     simp
     refine ⟨hout.keep.trans k2, outs, hr, hout.lim, ?_, by rw [hout.len]; omega⟩
     rw [hv_end (by omega), h3] at hsum
     simp at hsum
     rw [hsum, hpow, ← Nat.div_div_eq_div_mul, ← hv_div a q hla, hb, hv]
end Go.Dam.C
namespace Go.Dam.C
open Go Go.Dam
variable [Foot]
variable {X : Cx} {pm : Perm} {H H' : Heap}
end Go.Dam.C
namespace Go.Dam.C
open Go Go.Dam
variable {X : Cx} {pm : Perm} {H H' : Heap}
theorem hv_set {ds : List Nat} {j k d : Nat} (h : j < k) : hv (ds.set j d) k = hv ds k := by
 unfold hv
 rw [List.drop_set, if_pos h]
end Go.Dam.C
namespace Go.Dam.C
open Go Go.Dam
variable [Foot]
variable {X : Cx} {pm : Perm} {H H' : Heap}
theorem short_spec (hX : NX X) (ho : Ok pm H) {v : Value} {a : List Nat} (hda : Dig H v a) (la : a.length ≤ 1073741824) {y : Nat} (hy0 : 0 < y) (hy : y < 4294967296) :
  Call X pm F.n_short [v, .int .u64 (y : Int)] H fun r H' => Keep pm H H' ∧ ∃ s qs, r = .tuple #[s, .int .u64 ((nv a % y : Nat) : Int)] ∧ Dig H' s qs ∧ nv qs = nv a / y ∧ qs.length = a.length := by
 have hla := hda.1
 refine Call.has hX.n_short rfl ?_
 obtain ⟨ab, ac, rfl⟩ := hda.form
 obtain ⟨n, hn⟩ : ∃ n, n = a.length := ⟨_, rfl⟩
 rw [← hn] at hda ⊢
 simp
 rw [mk_run ho (by omega) (by omega)]
 simp
 refine LoopAt.of (fun t : Nat × List Nat × Nat => [(0, .slice ab n ac), (1, .int .u64 (y : Int)), (6, .slice (some ⟨H.next, 0, none⟩) n n), (7, .int .u64 (t.2.2 : Int)), (8, .int .i64 ((t.1 : Int) - 1))])
  (fun t H' => Out pm H H' H.next t.2.1 n ∧ t.1 ≤ n ∧ t.2.2 < y ∧ hv a t.1 = hv t.2.1 t.1 * y + t.2.2) (fun t => t.1) (n, List.replicate n 0, 0) (by simp; rw [wr_i64 (by omega) (by omega)]) ⟨Out.mk0 ho (Keep.refl ho) _, by simp, hy0, ?_⟩ ?_
 · simp only
   rw [hv_end (by omega), hv_end (by simp)]
   simp
 rintro ⟨k, outs, r⟩ H' ⟨hout, hk, hr, hsum⟩
 simp only at hout hk hr hsum
 cases k with
 | zero =>
   simp
   rw [hv_zero, hv_zero] at hsum
   have e1 : nv a / y = nv outs := by
    rw [hsum, Nat.mul_comm, Nat.mul_add_div hy0, Nat.div_eq_of_lt hr]; omega
   have e2 : nv a % y = r := by
    rw [hsum, Nat.mul_comm, Nat.mul_add_mod, Nat.mod_eq_of_lt hr]
   exact ⟨hout.keep, _, ⟨rfl, by omega⟩, outs, dig_out hout.get hout.lim hout.len (ho.new _ hout.low), e1.symm, by rw [hout.len, hn]⟩
 | succ k =>
   obtain ⟨c, off, yb, row, rfl, g1, g2, g3⟩ := (hda.keep ho hout.keep).at hn (i := k) (by omega)
   have l1 := hla.dg k
   have x1 : wr .u64 ((dg a k : Nat) : Int) = ((dg a k : Nat) : Int) := wr_u64 (by omega) (by omega)
   obtain ⟨t, ht⟩ : ∃ t, t = r * 4294967296 := ⟨_, rfl⟩
   have x2 : wr .u64 ((r : Int) * 4294967296) = (t : Int) := by rw [wr_u64 (by omega) (by omega)]; omega
   obtain ⟨u, hu⟩ : ∃ u, u = t + dg a k := ⟨_, rfl⟩
   have x3 := or_u64 (a := t) (b := dg a k) (by omega) (by omega)
   have hor : t ||| dg a k = u := by
    rw [ht, hu]
    have := or_add (a := r) (i := 32) (b := dg a k) (by simpa using l1)
    simp only [Nat.reducePow] at this
    omega
   rw [hor] at x3
   obtain ⟨d, hd⟩ : ∃ d, d = u / y := ⟨_, rfl⟩
   have hdl : d < 4294967296 := by
    rw [hd]
    exact Nat.div_lt_of_lt_mul (by
     have : (r + 1) * 4294967296 ≤ y * 4294967296 := Nat.mul_le_mul_right _ hr
     omega)
   have x4 : ((u : Int)).tdiv (y : Int) = (d : Int) := by rw [hd]; rfl
   obtain ⟨r', hr'⟩ : ∃ r', r' = u % y := ⟨_, rfl⟩
   have x5 : ((u : Int)).tmod (y : Int) = (r' : Int) := by rw [hr']; rfl
   have x6 : wr .u64 (d : Int) = (d : Int) := wr_u64 (by omega) (by omega)
   have x7 : wr .u32 (d : Int) = (d : Int) := by rw [wr_u32]; omega
   have hy1 : ¬ y = 0 := by omega
   have hyq := intOp_quo .u64 (u : Int) (y : Int) (by omega)
   have hyr := intOp_rem .u64 (u : Int) (y : Int) (by omega)
   rw [x4, x6] at hyq
   rw [x5] at hyr
   have x8 : wr .i64 ((k : Int) - 1) = (k : Int) - 1 := wr_i64 (by omega) (by omega)
   have hset := setCells_one (cs := u32s outs) (i := k) (v := .int .u32 (d : Int)) (by rw [u32s_length, hout.len]; omega)
   rw [u32s_set] at hset
   simp [x1, x2, x3, hyq, x7, x8, hyr, g1, g2, g3, show k < n by omega, hout.get, hset, ho.may (Nat.le_refl _)]
   have hr'y : r' < y := by rw [hr']; exact Nat.mod_lt _ hy0
   refine .of (k, outs.set k d, r') (by simp) (by simp) ⟨hout.put k hdl, by simp; omega, hr'y, ?_⟩
   show hv a k = hv (outs.set k d) k * y + r'
   rw [hv_step a k, hsum, hv_step (outs.set k d) k, dg_set (by rw [hout.len]; omega), hv_set (by omega)]
   have e : y * d + r' = u := by rw [hd, hr']; exact Nat.div_add_mod u y
   have : u = r * 4294967296 + dg a k := by omega
   generalize hv outs (k + 1) = z at *
   grind
end Go.Dam.C
namespace Go.Dam.C
open Go Go.Dam
variable [Foot]
variable {X : Cx} {pm : Perm} {H H' : Heap}
/-! ### A step of long division -/
end Go.Dam.C
namespace Go.Dam.C
open Go Go.Dam
variable {X : Cx} {pm : Perm} {H H' : Heap}
theorem tv_top (w : List Nat) (m : Nat) : tv w (m + 3) = tv w m + 4294967296 ^ m * (dg w m + 4294967296 * (dg w (m + 1) + 4294967296 * dg w (m + 2))) := by
 simp only [tv, Nat.pow_succ]
 generalize 4294967296 ^ m = p
 grind
theorem tv_top2 (w : List Nat) (m : Nat) : tv w (m + 2) = tv w m + 4294967296 ^ m * (dg w m + 4294967296 * dg w (m + 1)) := by
 simp only [tv, Nat.pow_succ]
 generalize 4294967296 ^ m = p
 grind
end Go.Dam.C
namespace Go.Dam.C
open Go Go.Dam
variable [Foot]
variable {X : Cx} {pm : Perm} {H H' : Heap}
/-- What the two highest digits say of a quotient. -/
structure Guess (A V : Nat) (two v1 v2 a0 : Nat) : Prop where
 ex : ∃ P A0 V0, 0 < P ∧ A = A0 + P * (a0 + 4294967296 * two) ∧ V = V0 + P * (v2 + 4294967296 * v1) ∧ A0 < P ∧ V0 < P
 a0 : a0 < 4294967296
 v2 : v2 < 4294967296
 v1 : 0 < v1
 lt : A < 4294967296 * V
end Go.Dam.C
namespace Go.Dam.C
open Go Go.Dam
variable {X : Cx} {pm : Perm} {H H' : Heap}
theorem Guess.pos {A V two v1 v2 a0 : Nat} (g : Guess A V two v1 v2 a0) : 0 < V := by have := g.lt; omega
theorem Guess.low {A V two v1 v2 a0 : Nat} (g : Guess A V two v1 v2 a0) : A / V * (v2 + 4294967296 * v1) ≤ a0 + 4294967296 * two := by
 obtain ⟨P, A0, V0, hP, hA, hV, h1, h2⟩ := g.ex
 have h := Nat.div_mul_le_self A V
 generalize A / V = Q at *
 have e : Q * (P * (v2 + 4294967296 * v1)) ≤ Q * V := Nat.mul_le_mul_left Q (by omega)
 have e2 : P * (Q * (v2 + 4294967296 * v1)) < P * (a0 + 4294967296 * two + 1) := by
  have : P * (Q * (v2 + 4294967296 * v1)) = Q * (P * (v2 + 4294967296 * v1)) := by grind
  rw [this, Nat.mul_add P _ 1]
  omega
 have := Nat.lt_of_mul_lt_mul_left e2
 omega
end Go.Dam.C
namespace Go.Dam.C
open Go Go.Dam
variable [Foot]
variable {X : Cx} {pm : Perm} {H H' : Heap}
end Go.Dam.C
namespace Go.Dam.C
open Go Go.Dam
variable {X : Cx} {pm : Perm} {H H' : Heap}
theorem Guess.top {A V two v1 v2 a0 : Nat} (g : Guess A V two v1 v2 a0) : A / V * v1 ≤ two := by
 have h := g.low
 have ha := g.a0
 generalize A / V = Q at *
 have e : Q * (v2 + 4294967296 * v1) = Q * v2 + 4294967296 * (Q * v1) := by grind
 omega
end Go.Dam.C
namespace Go.Dam.C
open Go Go.Dam
variable {X : Cx} {pm : Perm} {H H' : Heap}
theorem Guess.mask {A V two v1 v2 a0 : Nat} (g : Guess A V two v1 v2 a0) : A / V ≤ 4294967295 := by
 have := Nat.div_lt_of_lt_mul (k := 4294967296) (by rw [Nat.mul_comm]; exact g.lt : A < V * 4294967296)
 omega
end Go.Dam.C
namespace Go.Dam.C
open Go Go.Dam
variable [Foot]
variable {X : Cx} {pm : Perm} {H H' : Heap}
end Go.Dam.C
namespace Go.Dam.C
open Go Go.Dam
variable {X : Cx} {pm : Perm} {H H' : Heap}
theorem Guess.start {A V two v1 v2 a0 : Nat} (g : Guess A V two v1 v2 a0) : A / V ≤ min (two / v1) 4294967295 := by
 have := g.top
 have h2 := (Nat.le_div_iff_mul_le g.v1).2 this
 have := g.mask
 omega
end Go.Dam.C
namespace Go.Dam.C
open Go Go.Dam
variable {X : Cx} {pm : Perm} {H H' : Heap}
theorem Guess.dec {A V two v1 v2 a0 q r : Nat} (g : Guess A V two v1 v2 a0) (h : A / V ≤ q) (hr : r + q * v1 = two) (hgt : r * 4294967296 + a0 < q * v2) : A / V ≤ q - 1 := by
 have hl := g.low
 rcases Nat.lt_or_ge (A / V) q with h1 | h1
 · omega
 · obtain h2 : A / V = q := by omega
   rw [h2] at hl
   have e : q * (v2 + 4294967296 * v1) = q * v2 + 4294967296 * (q * v1) := by grind
   omega
theorem Guess.stop {A V two v1 v2 a0 q r : Nat} (g : Guess A V two v1 v2 a0) (hq : q ≤ 4294967295) (hr : r + q * v1 = two) (hle : 4294967296 ≤ r ∨ q * v2 ≤ r * 4294967296 + a0) : q ≤ A / V + 1 := by
 have hv2 := g.v2
 have hv1 := g.v1
 have h3 : q * v2 ≤ r * 4294967296 + a0 := by
  rcases hle with h | h
  · have : q * v2 ≤ 4294967295 * 4294967295 := Nat.mul_le_mul hq (by omega)
    omega
  · exact h
 obtain ⟨P, A0, V0, hP, hA, hV, h1, h2⟩ := g.ex
 have e : q * (v2 + 4294967296 * v1) ≤ a0 + 4294967296 * two := by
  have : q * (v2 + 4294967296 * v1) = q * v2 + 4294967296 * (q * v1) := by grind
  omega
 have e2 : q * V < A + V := by
  have e3 : q * V = q * V0 + P * (q * (v2 + 4294967296 * v1)) := by rw [hV]; grind
  have e4 : P * (q * (v2 + 4294967296 * v1)) ≤ P * (a0 + 4294967296 * two) := Nat.mul_le_mul_left P e
  have e5 : q * V0 ≤ 4294967295 * V0 := Nat.mul_le_mul_right V0 hq
  have e6 : P * (4294967296 * 1) ≤ P * (v2 + 4294967296 * v1) := Nat.mul_le_mul_left P (by omega)
  omega
 rcases Nat.lt_or_ge (A / V + 1) q with h4 | h4
 · exfalso
   have h5 : (A / V + 2) * V ≤ q * V := Nat.mul_le_mul_right V h4
   have h6 := Nat.lt_mul_div_succ A g.pos
   rw [Nat.mul_comm] at h6
   have : (A / V + 2) * V = (A / V + 1) * V + V := by grind
   omega
 · exact h4
end Go.Dam.C
namespace Go.Dam.C
open Go Go.Dam
variable [Foot]
variable {X : Cx} {pm : Perm} {H H' : Heap}
/-- A slice of digits in one block. -/
def DigB (cb : Nat) (H : Heap) (v : Value) (ds : List Nat) : Prop :=
 Lim ds ∧ ∃ off cap y row, v = .slice (some ⟨cb, off, none⟩) ds.length cap ∧ H.get cb = some y ∧ rowOf y = some row ∧ ∀ i, i < ds.length → row[off + i]? = some (.int .u32 ((dg ds i : Nat) : Int))
/-- Nothing but a block has turned. -/
structure Only (pm : Perm) (c : Nat) (H H' : Heap) : Prop where
 ok : Ok pm H'
 next : H.next ≤ H'.next
 get : ∀ x, x ≠ c → H'.get x = H.get x
theorem Only.refl (ho : Ok pm H) (c : Nat) : Only pm c H H := ⟨ho, Nat.le_refl _, fun _ _ => rfl⟩
theorem Only.trans {c : Nat} {H'' : Heap} (h : Only pm c H H') (g : Only pm c H' H'') : Only pm c H H'' := ⟨g.ok, Nat.le_trans h.next g.next, fun x hx => (g.get x hx).trans (h.get x hx)⟩
theorem _root_.Go.Dam.Ok.up (h : Ok pm H) (n : Nat) : Ok pm (H.up n) := ⟨h.num, Nat.le_trans h.lo (Nat.le_add_right _ _), fun b hb => h.wf b (Nat.le_trans (Nat.le_add_right _ _) hb), fun b hb => h.new b (Nat.le_trans (Nat.le_add_right _ _) hb)⟩
theorem Only.up {c : Nat} (h : Only pm c H H') (n : Nat) : Only pm c H (H'.up n) := ⟨h.ok.up n, Nat.le_trans h.next (Nat.le_add_right _ _), h.get⟩
theorem Only.put {c : Nat} (h : Only pm c H H') {y : Blk} (hy : H'.get c = some y) (x : Blk) : Only pm c H (H'.put c x) :=
 ⟨⟨h.ok.num, h.ok.lo, fun b hb => by have hb : H'.next ≤ b := hb; have := h.ok.lt hy; rw [get_put_ne (by omega)]; exact h.ok.wf b hb, fun b hb => h.ok.new b hb⟩, h.next, fun z hz => by rw [get_put_ne hz]; exact h.get z hz⟩
theorem DigB.only {cb c : Nat} {v : Value} {ds : List Nat} (h : DigB cb H v ds) (hne : cb ≠ c) (ho : Only pm c H H') : DigB cb H' v ds := by
 obtain ⟨hl, off, cap, y, row, h1, h2, h3⟩ := h
 exact ⟨hl, off, cap, y, row, h1, (ho.get cb hne).trans h2, h3⟩
end Go.Dam.C
namespace Go.Dam.C
open Go Go.Dam
variable {X : Cx} {pm : Perm} {H H' : Heap}
theorem Lim.w64 {ds : List Nat} (h : Lim ds) (i : Nat) : wr .u64 ((C.dg ds i : Nat) : Int) = ((C.dg ds i : Nat) : Int) := by
 have := h.dg i
 exact wr_u64 (by omega) (by omega)
theorem Lim.wi64 {ds : List Nat} (h : Lim ds) (i : Nat) : wr .i64 ((C.dg ds i : Nat) : Int) = ((C.dg ds i : Nat) : Int) := by
 have := h.dg i
 exact wr_i64 (by omega) (by omega)
end Go.Dam.C
namespace Go.Dam.C
open Go Go.Dam
variable {X : Cx} {pm : Perm} {H H' : Heap}
theorem rd_win {p w : List Nat} {j i : Nat} (hj : p.length = j) (hi : i < w.length) : (u32s (p ++ w))[j + i]? = some (.int .u32 ((dg w i : Nat) : Int)) := by
 subst hj
 simp [u32s, dg, hi]
end Go.Dam.C
namespace Go.Dam.C
open Go Go.Dam
variable [Foot]
variable {X : Cx} {pm : Perm} {H H' : Heap}
end Go.Dam.C
namespace Go.Dam.C
open Go Go.Dam
variable {X : Cx} {pm : Perm} {H H' : Heap}
theorem st_win {p w : List Nat} {j i d : Nat} (hj : p.length = j) (hi : i < w.length) : setCells (u32s (p ++ w)) (j + i) [.int .u32 (d : Int)] = some (u32s (p ++ w.set i d)) := by
 subst hj
 rw [setCells_one (by simp; omega), u32s_set]
 rw [List.set_append_right _ _ (by omega)]
 simp
end Go.Dam.C
namespace Go.Dam.C
open Go Go.Dam
variable [Foot]
variable {X : Cx} {pm : Perm} {H H' : Heap}
end Go.Dam.C
namespace Go.Dam.C
open Go Go.Dam
variable {X : Cx} {pm : Perm} {H H' : Heap}
theorem dg_set_ne {w : List Nat} {i t d : Nat} (h : i ≠ t) : dg (w.set i d) t = dg w t := by simp [dg, h]
end Go.Dam.C
namespace Go.Dam.C
open Go Go.Dam
variable [Foot]
variable {X : Cx} {pm : Perm} {H H' : Heap}
/-- What stands behind the guess: the subtraction, and the sum if it was too much. -/
def stepPost (pm : Perm) (c : Nat) (H : Heap) (p w : List Nat) (n A V : Nat) : Post := fun x l H' =>
 (x = Ex.normal ∨ x = Ex.ret) ∧ ∃ vs, resL l H' [.slot 4] = some vs ∧ (tupOf vs = .int .u32 ((A / V : Nat) : Int) ∧ Only pm c H H' ∧ ∃ w', H'.get c = some (.cells (u32s (p ++ w')) (.n 1)) ∧ Lim w' ∧ w'.length = w.length ∧
   tv w' (n + 1) = A % V ∧ ∀ i, n < i → dg w' i = dg w i)
theorem step_tail {H0 : Heap} {c cb j n cap offb capb : Nat} (hO0 : Only pm c H0 H) (hm : pm.may c = true) (hne : cb ≠ c) {p w b : List Nat} {A V q : Nat} {yb : Blk} {rowb : List Value} (hj : p.length = j) (hc : H.get c = some (.cells (u32s (p ++ w)) (.n 1)))
  (hlw : Lim w) (hlb : Lim b) (f1 : H0.get cb = some yb) (f2 : rowOf yb = some rowb) (f3 : ∀ i, i < n → rowb[offb + i]? = some (.int .u32 ((dg b i : Nat) : Int))) (hnb : n < 1073741824) (hwl : n + 1 ≤ w.length) (_hjs : j < 1073741824)
  (hA : A = tv w (n + 1)) (hV : V = tv b n) (hV0 : 0 < V) (hq1 : A / V ≤ q) (hq2 : q ≤ A / V + 1) (hq3 : q ≤ 4294967295) {l : Sl}
  (l0 : lk 0 l = some (.slice (some ⟨c, j, none⟩) (n + 1) cap)) (l1 : lk 1 l = some (.slice (some ⟨cb, offb, none⟩) n capb)) (l5 : lk 5 l = some (.int .i64 (n : Int))) (l7 : lk 7 l = some (.int .u64 (q : Int))) :
  wp X pm (.code n_step_k26) l H [] (stepPost pm c H0 p w n A V) := by
 simp [l1]
 refine LoopAt.of (fun s : Nat × List Nat × Nat × Int => [(0, .slice (some ⟨c, j, none⟩) (n + 1) cap), (1, .slice (some ⟨cb, offb, none⟩) n capb), (5, .int .i64 (n : Int)), (7, .int .u64 (q : Int)), (9, .int .u64 (s.2.2.1 : Int)), (10, .int .i64 s.2.2.2), (82, .slice (some ⟨cb, offb, none⟩) n capb), (83, .int .i64 (n : Int)), (84, .int .i64 (s.1 : Int))])
  (fun s H' => Only pm c H0 H' ∧ H'.get c = some (.cells (u32s (p ++ s.2.1)) (.n 1)) ∧ Lim s.2.1 ∧ s.2.1.length = w.length ∧ s.1 ≤ n ∧ (∀ t, s.1 ≤ t → dg s.2.1 t = dg w t) ∧ s.2.2.1 < 4294967296 ∧ -1 ≤ s.2.2.2 ∧ s.2.2.2 ≤ 0 ∧
   (tv s.2.1 s.1 : Int) + s.2.2.2 * ((4294967296 ^ s.1 : Nat) : Int) = tv w s.1 - q * tv b s.1 + s.2.2.1 * ((4294967296 ^ s.1 : Nat) : Int)) (fun s => n - s.1) (0, w, 0, 0) (by simp [l0, l1, l5, l7]) ⟨hO0, hc, hlw, rfl, by simp, fun _ _ => rfl, by simp, by simp, by simp, by simp [tv]⟩ ?_
 rintro ⟨i, w', cy, rs⟩ H1 ⟨hO, hc1, hlw', hwl', hi, hsame, hcy, hrs1, hrs2, hsum⟩
 simp only at hc1 hlw' hwl' hi hsame hcy hrs1 hrs2 hsum
 have f1' := (hO.get cb hne).trans f1
 by_cases hin : i < n
 · have e0 := f3 i hin
   have g0 := rd_win (p := p) (w := w') hj (i := i) (by omega)
   have lb := hlb.dg i
   have lw := hlw'.dg i
   obtain ⟨s1, hs1⟩ : ∃ s, s = cy + q * dg b i := ⟨_, rfl⟩
   have hqb : q * dg b i ≤ 4294967295 * 4294967295 := Nat.mul_le_mul hq3 (by omega)
   obtain ⟨qb, hqb0⟩ : ∃ z, z = q * dg b i := ⟨_, rfl⟩
   rw [← hqb0] at hs1 hqb
   have x1 : wr .u64 ((q : Int) * ((dg b i : Nat) : Int)) = (qb : Int) := by
    have e : (q : Int) * ((dg b i : Nat) : Int) = (qb : Int) := by rw [hqb0]; simp
    rw [e]; exact wr_u64 (by omega) (by omega)
   have x2 : wr .u64 ((cy : Int) + (qb : Int)) = (s1 : Int) := by rw [wr_u64 (by omega) (by omega)]; omega
   obtain ⟨d1, hd1⟩ : ∃ d, d = s1 % 4294967296 := ⟨_, rfl⟩
   have x3 : wr .u32 (s1 : Int) = (d1 : Int) := by rw [wr_u32]; omega
   have x4 : wr .i64 (d1 : Int) = (d1 : Int) := wr_i64 (by omega) (by omega)
   obtain ⟨s2, hs2⟩ : ∃ s : Int, s = rs + ((dg w' i : Int) - d1) := ⟨_, rfl⟩
   have x5 : wr .i64 (rs + wr .i64 (((dg w' i : Nat) : Int) - (d1 : Int))) = s2 := by
    rw [wr_i64 (n := (dg w' i : Int) - d1) (by omega) (by omega), wr_i64 (by omega) (by omega)]; omega
   obtain ⟨d2, hd2⟩ : ∃ d : Nat, (d : Int) = s2 % 4294967296 := ⟨(s2 % 4294967296).toNat, by omega⟩
   have x6 : wr .u32 s2 = (d2 : Int) := by rw [wr_u32]; omega
   obtain ⟨rs', hrs'⟩ : ∃ r : Int, r = s2 / 4294967296 := ⟨_, rfl⟩
   have x7 : s2.fdiv 4294967296 = rs' := by rw [Int.fdiv_eq_ediv_of_nonneg _ (by omega)]; exact hrs'.symm
   obtain ⟨cy', hcy'⟩ : ∃ z, z = s1 / 4294967296 := ⟨_, rfl⟩
   have x8 : ((s1 : Int)).fdiv 4294967296 = (cy' : Int) := by rw [hcy']; exact fdiv_32 s1
   have x9 : wr .i64 ((i : Int) + 1) = ((i + 1 : Nat) : Int) := by rw [wr_i64 (by omega) (by omega)]; simp
   have hst := st_win (p := p) (w := w') (d := d2) hj (i := i) (by omega)
   simp [hin, f1', f2, e0, hc1, g0, hlw'.wi64, hlb.w64, x1, x2, x3, x4, x5, x6, x7, x8, x9, hst, show i < n + 1 by omega, hm]
   refine .of (i + 1, w'.set i d2, cy', rs') (by show n - (i + 1) < n - i; omega) (by simp) ⟨hO.put hc1 _, by simp, hlw'.set i (by omega), by simp [hwl'], by simp; omega, fun t ht => ?_, by simp; omega, by simp; omega, by simp; omega, ?_⟩
   · have ht : i + 1 ≤ t := ht
     show dg (w'.set i d2) t = dg w t
     rw [dg_set_ne (by omega)]
     exact hsame t (by omega)
   · show ((tv (w'.set i d2) (i + 1) : Nat) : Int) + rs' * ((4294967296 ^ (i + 1) : Nat) : Int) = (tv w (i + 1) : Int) - q * (tv b (i + 1) : Int) + cy' * ((4294967296 ^ (i + 1) : Nat) : Int)
     rw [tv_put (by omega), tv, tv, ← hsame i (Nat.le_refl _), Nat.pow_succ]
     have e1 : s2 = d2 + 4294967296 * rs' := by omega
     have e2 : (s1 : Int) = d1 + 4294967296 * cy' := by omega
     have e3 : (s1 : Int) = cy + q * dg b i := by rw [hs1, hqb0]; simp
     generalize 4294967296 ^ i = P at *
     simp only [Int.natCast_add, Int.natCast_mul, Int.cast_ofNat_Int]
     have e4 : (d2 : Int) * P + rs' * (P * 4294967296) = s2 * P := by rw [e1]; grind
     have e5 : s2 * P = rs * P + (dg w' i : Int) * P - d1 * P := by rw [hs2]; grind
     have e6 : (d1 : Int) * P + cy' * (P * 4294967296) = s1 * P := by rw [e2]; grind
     have e7 : (s1 : Int) * P = cy * P + q * (dg b i * P) := by rw [e3]; grind
     have e8 : (q : Int) * ((tv b i : Int) + dg b i * P) = q * tv b i + q * (dg b i * P) := by grind
     rw [e8]
     omega
 · obtain rfl : i = n := by omega
   have g0 := rd_win (p := p) (w := w') hj (i := i) (by omega)
   have lw := hlw'.dg i
   have x0 : wr .i64 (cy : Int) = (cy : Int) := wr_i64 (by omega) (by omega)
   obtain ⟨s3, hs3⟩ : ∃ s : Int, s = rs + ((dg w' i : Int) - cy) := ⟨_, rfl⟩
   have x1 : wr .i64 (rs + wr .i64 (((dg w' i : Nat) : Int) - (cy : Int))) = s3 := by
    rw [wr_i64 (n := (dg w' i : Int) - cy) (by omega) (by omega), wr_i64 (by omega) (by omega)]; omega
   obtain ⟨d3, hd3⟩ : ∃ d : Nat, (d : Int) = s3 % 4294967296 := ⟨(s3 % 4294967296).toNat, by omega⟩
   have x2 : wr .u32 s3 = (d3 : Int) := by rw [wr_u32]; omega
   have hst := st_win (p := p) (w := w') (d := d3) hj (i := i) (by omega)
   -- what is left, as a number
   have hP : 0 < 4294967296 ^ i := Nat.pow_pos (by omega)
   have hbn := tv_lt hlb i
   rw [← hV] at hbn
   have hwn := tv_lt hlw' i
   have hAw : A = tv w i + dg w i * 4294967296 ^ i := by rw [hA, tv]
   have hsame0 := hsame i (Nat.le_refl _)
   have hval : (tv w' i : Int) + s3 * ((4294967296 ^ i : Nat) : Int) = A - q * V := by
    rw [hAw, hV]
    generalize 4294967296 ^ i = P at *
    rw [hs3, hsame0]
    simp only [Int.natCast_add, Int.natCast_mul]
    have e1 : (rs + ((dg w i : Int) - cy)) * P = rs * P + dg w i * P - cy * P := by grind
    rw [e1]
    omega
   have hdm := Nat.div_add_mod A V
   have hR : A % V < V := Nat.mod_lt _ hV0
   obtain ⟨Q, hQ⟩ : ∃ Q, Q = A / V := ⟨_, rfl⟩
   obtain ⟨R, hRe⟩ : ∃ R, R = A % V := ⟨_, rfl⟩
   rw [← hQ, ← hRe] at hdm
   rw [← hRe] at hR
   rw [← hQ] at hq1 hq2
   have hAZ : (A : Int) = Q * V + R := by rw [← hdm]; simp; grind
   have hqq : q = Q ∨ q = Q + 1 := by omega
   by_cases hneg : s3 < 0
   · -- too much
     have hq : q = Q + 1 := by
      rcases hqq with rfl | h
      · exfalso
        rw [hAZ] at hval
        have e1 : s3 * ((4294967296 ^ i : Nat) : Int) ≤ -1 * ((4294967296 ^ i : Nat) : Int) := Int.mul_le_mul_of_nonneg_right (by omega) (by omega)
        omega
      · exact h
     have hval2 : (tv w' i : Int) + s3 * ((4294967296 ^ i : Nat) : Int) = R - V := by
      rw [hval, hAZ, hq]; simp; grind
     have hs3m : s3 = -1 := by
      rcases (by omega : s3 = -1 ∨ s3 ≤ -2) with h | h
      · exact h
      · exfalso
        have e1 : s3 * ((4294967296 ^ i : Nat) : Int) ≤ -2 * ((4294967296 ^ i : Nat) : Int) := Int.mul_le_mul_of_nonneg_right h (by omega)
        omega
     rw [hs3m] at hval2 hd3 x1 x2
     have hd3v : d3 = 4294967295 := by omega
     have hn0 : ¬ ((0 : Int) ≤ s3) := by omega
     simp [g0, hlw'.wi64, hc1, x0, x1, x2, hst, hm]
     refine LoopAt.of (fun s : Nat × List Nat × Nat => [(0, .slice (some ⟨c, j, none⟩) (i + 1) cap), (5, .int .i64 (i : Int)), (7, .int .u64 (q : Int)), (13, .int .u64 (s.2.2 : Int)), (135, .slice (some ⟨cb, offb, none⟩) i capb), (136, .int .i64 (i : Int)), (137, .int .i64 (s.1 : Int))])
      (fun s H' => Only pm c H0 H' ∧ H'.get c = some (.cells (u32s (p ++ s.2.1)) (.n 1)) ∧ Lim s.2.1 ∧ s.2.1.length = w.length ∧ s.1 ≤ i ∧ (∀ t, s.1 ≤ t → dg s.2.1 t = dg (w'.set i d3) t) ∧ s.2.2 ≤ 1 ∧
       tv s.2.1 s.1 + s.2.2 * 4294967296 ^ s.1 = tv w' s.1 + tv b s.1) (fun s => i - s.1) (0, w'.set i d3, 0) (by simp) ⟨hO.put hc1 _, by simp, hlw'.set i (by omega), by simp [hwl'], by simp, fun _ _ => rfl, by simp, by simp [tv]⟩ ?_
     rintro ⟨k, w2, sm⟩ H2 ⟨hO2, hc2, hlw2, hwl2, hk, hsame2, hsm, hsum2⟩
     simp only at hc2 hlw2 hwl2 hk hsame2 hsm hsum2
     have f1'' := (hO2.get cb hne).trans f1
     by_cases hki : k < i
     · have e0 := f3 k hki
       have g1 := rd_win (p := p) (w := w2) hj (i := k) (by omega)
       have lb := hlb.dg k
       have lw2 := hlw2.dg k
       obtain ⟨s4, hs4⟩ : ∃ s, s = sm + (dg w2 k + dg b k) := ⟨_, rfl⟩
       have y1 : wr .u64 ((sm : Int) + wr .u64 (((dg w2 k : Nat) : Int) + ((dg b k : Nat) : Int))) = (s4 : Int) := by
        rw [wr_u64 (n := ((dg w2 k : Nat) : Int) + ((dg b k : Nat) : Int)) (by omega) (by omega), wr_u64 (by omega) (by omega)]; omega
       obtain ⟨d4, hd4⟩ : ∃ d, d = s4 % 4294967296 := ⟨_, rfl⟩
       have y2 : wr .u32 (s4 : Int) = (d4 : Int) := by rw [wr_u32]; omega
       obtain ⟨sm', hsm'⟩ : ∃ z, z = s4 / 4294967296 := ⟨_, rfl⟩
       have y3 : ((s4 : Int)).fdiv 4294967296 = (sm' : Int) := by rw [hsm']; exact fdiv_32 s4
       have y4 : wr .i64 ((k : Int) + 1) = ((k + 1 : Nat) : Int) := by rw [wr_i64 (by omega) (by omega)]; simp
       have hst2 := st_win (p := p) (w := w2) (d := d4) hj (i := k) (by omega)
       simp [hki, f1'', f2, e0, hc2, g1, hlw2.w64, hlb.w64, y1, y2, y3, y4, hst2, show k < i + 1 by omega, hm]
       refine .of (k + 1, w2.set k d4, sm') (by show i - (k + 1) < i - k; omega) (by simp) ⟨hO2.put hc2 _, by simp, hlw2.set k (by omega), by simp [hwl2], by simp; omega, fun t ht => ?_, by simp; omega, ?_⟩
       · have ht : k + 1 ≤ t := ht
         show dg (w2.set k d4) t = _
         rw [dg_set_ne (by omega)]
         exact hsame2 t (by omega)
       · show tv (w2.set k d4) (k + 1) + sm' * 4294967296 ^ (k + 1) = tv w' (k + 1) + tv b (k + 1)
         have hd0 : dg w2 k = dg w' k := by rw [hsame2 k (Nat.le_refl _), dg_set_ne (by omega)]
         rw [tv_put (by omega), tv, tv, ← hd0, Nat.pow_succ]
         have e2 : s4 = d4 + 4294967296 * sm' := by omega
         generalize 4294967296 ^ k = P at *
         have e4 : d4 * P + sm' * (P * 4294967296) = s4 * P := by rw [e2]; grind
         have e5 : s4 * P = sm * P + dg w2 k * P + dg b k * P := by rw [hs4]; grind
         omega
     · obtain rfl : k = i := by omega
       have g1 := rd_win (p := p) (w := w2) hj (i := k) (by omega)
       have hd5 : dg w2 k = 4294967295 := by rw [hsame2 k (Nat.le_refl _), dg_set (by omega), hd3v]
       rw [hd5] at g1
       have hw2n := tv_lt hlw2 k
       have hsm1 : sm = 1 ∧ tv w2 k = R := by
        rw [← hV] at hsum2
        rcases (by omega : sm = 0 ∨ sm = 1) with rfl | rfl
        · exfalso; omega
        · exact ⟨rfl, by omega⟩
       obtain ⟨rfl, hw2R⟩ := hsm1
       have y1 : wr .u32 (4294967295 + wr .u32 1) = 0 := by decide
       have hst3 := st_win (p := p) (w := w2) (d := 0) hj (i := k) (by omega)
       have y2 : wr .u64 ((q : Int) - 1) = (Q : Int) := by rw [wr_u64 (by omega) (by omega)]; omega
       have y3 : wr .u32 (Q : Int) = (Q : Int) := by rw [wr_u32]; omega
       have hst3 : setCells (u32s (p ++ w2)) (j + k) [.int .u32 0] = some (u32s (p ++ w2.set k 0)) := hst3
       simp [g1, hc2, y1, y2, y3, hst3, hm, stepPost]
       refine ⟨by rw [hQ]; simp, hO2.put hc2 _, w2.set k 0, rfl, hlw2.set k (by omega), by simp [hwl2], ?_, fun t ht => ?_⟩
       · rw [tv_put (by omega), hw2R, hRe]; simp
       · rw [dg_set_ne (by omega), hsame2 t (by omega), dg_set_ne (by omega), hsame t (by omega)]
   · have hq : q = Q := by
      rcases hqq with h | h
      · exact h
      · exfalso
        have hval2 : (tv w' i : Int) + s3 * ((4294967296 ^ i : Nat) : Int) = R - V := by
         rw [hval, hAZ, h]; simp; grind
        have e1 : 0 ≤ s3 * ((4294967296 ^ i : Nat) : Int) := Int.mul_nonneg (by omega) (by omega)
        omega
     have hval2 : (tv w' i : Int) + s3 * ((4294967296 ^ i : Nat) : Int) = R := by rw [hval, hAZ, hq]; grind
     have hs30 : s3 = 0 := by
      rcases (by omega : s3 = 0 ∨ 1 ≤ s3) with h | h
      · exact h
      · exfalso
        have e1 : 1 * ((4294967296 ^ i : Nat) : Int) ≤ s3 * ((4294967296 ^ i : Nat) : Int) := Int.mul_le_mul_of_nonneg_right h (by omega)
        omega
     rw [hs30] at hval2 hd3 x1 x2
     have y3 : wr .u32 (q : Int) = (q : Int) := by rw [wr_u32]; omega
     simp [g0, hlw'.wi64, hc1, x0, x1, x2, y3, hst, hm, stepPost]
     refine ⟨by rw [hq, hQ]; simp, hO.put hc1 _, w'.set i d3, rfl, hlw'.set i (by omega), by simp [hwl'], ?_, fun t ht => ?_⟩
     · rw [tv_put (by omega)]
       have : d3 = 0 := by omega
       rw [this, ← hRe]
       omega
     · rw [dg_set_ne (by omega), hsame t (by omega)]
theorem step_spec (hX : NX X) (ho : Ok pm H) {c cb j n cap : Nat} (hm : pm.may c = true) (hne : cb ≠ c) {p w b : List Nat} (hj : p.length = j) (hc : H.get c = some (.cells (u32s (p ++ w)) (.n 1)))
  (hlw : Lim w) {vb : Value} (hb : DigB cb H vb b) (hn : n = b.length) (hn2 : 2 ≤ n) (hnb : n < 1073741824) (hwl : n + 1 ≤ w.length) (hjs : j < 1073741824) (hv1 : dg b (n - 1) ≠ 0) (hA : tv w (n + 1) < 4294967296 * nv b) :
  Call X pm F.n_step [.slice (some ⟨c, j, none⟩) (n + 1) cap, vb] H fun r H' => r = .int .u32 ((tv w (n + 1) / nv b : Nat) : Int) ∧ Only pm c H H' ∧ ∃ w', H'.get c = some (.cells (u32s (p ++ w')) (.n 1)) ∧ Lim w' ∧ w'.length = w.length ∧
   tv w' (n + 1) = tv w (n + 1) % nv b ∧ ∀ i, n < i → dg w' i = dg w i := by
 obtain ⟨m, rfl⟩ : ∃ m, n = m + 2 := ⟨n - 2, by omega⟩
 have hlb := hb.1
 have hV : nv b = tv b (m + 2) := (tv_len (by omega)).symm
 have hA0 := tv_lt hlw m
 have hV0 := tv_lt hlb m
 have g : Guess (tv w (m + 2 + 1)) (nv b) (dg w (m + 1) + 4294967296 * dg w (m + 2)) (dg b (m + 1)) (dg b m) (dg w m) :=
  ⟨⟨4294967296 ^ m, tv w m, tv b m, Nat.pow_pos (by omega), tv_top w m, by rw [hV]; exact tv_top2 b m, hA0, hV0⟩, hlw.dg m, hlb.dg m, Nat.pos_of_ne_zero (by simpa using hv1), hA⟩
 obtain ⟨A, hAe⟩ : ∃ A, A = tv w (m + 2 + 1) := ⟨_, rfl⟩
 obtain ⟨V, hVe⟩ : ∃ V, V = nv b := ⟨_, rfl⟩
 rw [← hAe, ← hVe] at g ⊢
 obtain ⟨offb, capb, yb, rowb, rfl, f1, f2, f3⟩ := hb.2
 rw [← hn]
 have lw0 := hlw.dg m
 have lw1 := hlw.dg (m + 1)
 have lw2 := hlw.dg (m + 2)
 have lb0 := hlb.dg m
 have lb1 := hlb.dg (m + 1)
 obtain ⟨two, htwo⟩ : ∃ t, t = dg w (m + 1) + 4294967296 * dg w (m + 2) := ⟨_, rfl⟩
 rw [← htwo] at g
 have g1 := rd_win (p := p) (w := w) hj (i := m + 1) (by omega)
 have g2 := rd_win (p := p) (w := w) hj (i := m + 2) (by omega)
 have g0 := rd_win (p := p) (w := w) hj (i := m) (by omega)
 have e1 := f3 (m + 1) (by omega)
 have e0 := f3 m (by omega)
 have x1 : wr .i64 ((m : Int) + 2 - 1) = ((m + 1 : Nat) : Int) := by rw [wr_i64 (by omega) (by omega)]; omega
 have x2 : wr .i64 (m : Int) = (m : Int) := wr_i64 (by omega) (by omega)
 refine Call.has hX.n_step rfl ?_
 show wp X pm _ _ _ _ (stepPost pm c H p w (m + 2) A V)
 simp [-n_step_k26]
 refine DrawAt.calmI ho rfl rfl rfl ?_
 obtain ⟨t, ht⟩ : ∃ t, t = dg w (m + 2) * 4294967296 := ⟨_, rfl⟩
 have x3 : wr .u64 (((dg w (m + 2) : Nat) : Int) * 4294967296) = (t : Int) := by rw [wr_u64 (by omega) (by omega)]; omega
 have x4 := or_u64 (a := t) (b := dg w (m + 1)) (by omega) (by omega)
 have hor : t ||| dg w (m + 1) = two := by
  have := or_add (a := dg w (m + 2)) (i := 32) (b := dg w (m + 1)) (by simpa using lw1)
  simp only [Nat.reducePow] at this
  rw [ht]
  omega
 rw [hor] at x4
 have hb1 : dg b (m + 1) ≠ 0 := by simpa using hv1
 have x5 := intOp_quo .u64 (two : Int) ((dg b (m + 1) : Nat) : Int) (by omega)
 obtain ⟨q0, hq0⟩ : ∃ q, q = two / dg b (m + 1) := ⟨_, rfl⟩
 have x6 : ((two : Int)).tdiv ((dg b (m + 1) : Nat) : Int) = (q0 : Int) := by rw [hq0]; rfl
 have hq0l : q0 ≤ two := by rw [hq0]; exact Nat.div_le_self _ _
 rw [x6, wr_u64 (by omega) (by omega)] at x5
 obtain ⟨q1, hq1⟩ : ∃ q, q = min q0 4294967295 := ⟨_, rfl⟩
 have x7 : (if 4294967295 < q0 then (4294967295 : Int) else (q0 : Int)) = (q1 : Int) := by rw [hq1]; split <;> omega
 have hq1t : q1 * dg b (m + 1) ≤ two := by
  have h1 : q1 * dg b (m + 1) ≤ q0 * dg b (m + 1) := Nat.mul_le_mul_right _ (by omega)
  have h2 : q0 * dg b (m + 1) ≤ two := by rw [hq0]; exact Nat.div_mul_le_self _ _
  omega
 obtain ⟨qv, hqv⟩ : ∃ qv, qv = q1 * dg b (m + 1) := ⟨_, rfl⟩
 have x8 : wr .u64 ((q1 : Int) * ((dg b (m + 1) : Nat) : Int)) = (qv : Int) := by
  have e : (q1 : Int) * ((dg b (m + 1) : Nat) : Int) = (qv : Int) := by rw [hqv]; simp
  rw [e]; exact wr_u64 (by omega) (by omega)
 obtain ⟨r1, hr1⟩ : ∃ r, r = two - qv := ⟨_, rfl⟩
 have x9 : wr .u64 ((two : Int) - (qv : Int)) = (r1 : Int) := by rw [wr_u64 (by omega) (by omega)]; omega
 simp [-n_step_k26, hc, g1, g2, hlw.w64, x1, x3, x4, e1, f1, f2, hlb.w64, x5, x7, x8, x9]
 have hdA : ∀ q : Nat, q ≤ 4294967295 → q * dg b m ≤ 4294967295 * 4294967295 := fun q hq => Nat.mul_le_mul hq (by omega)
 refine LoopAt.of (fun s : Nat × Nat => [(0, .slice (some ⟨c, j, none⟩) (m + 2 + 1) cap), (1, .slice (some ⟨cb, offb, none⟩) (m + 2) capb), (5, .int .i64 ((m : Int) + 2)), (7, .int .u64 (s.1 : Int)), (8, .int .u64 (s.2 : Int))])
  (fun s H' => Only pm c H H' ∧ H'.get c = H.get c ∧ A / V ≤ s.1 ∧ s.1 ≤ 4294967295 ∧ s.2 + s.1 * dg b (m + 1) = two) (fun s => s.1) (q1, r1) (by simp) ⟨(Only.refl ho c).up _, rfl, by have := g.start; simp only; rw [← hq0, ← hq1] at this; exact this, by simp; omega, by simp only; omega⟩ ?_
 rintro ⟨q, r⟩ H1 ⟨hO, hc1, hQ, hqm, hr⟩
 simp only at hQ hqm hr
 simp [-n_step_k26]
 refine DrawAt.calmI hO.ok rfl rfl rfl ?_
 have f1' := (hO.get cb hne).trans f1
 have hc' := hc1.trans hc
 by_cases hrm : ¬ 4294967295 < r
 · have x10 : wr .u64 ((r : Int) * 4294967296) = ((r * 4294967296 : Nat) : Int) := by rw [wr_u64 (by omega) (by omega)]; omega
   obtain ⟨t2, ht2⟩ : ∃ t, t = r * 4294967296 := ⟨_, rfl⟩
   rw [← ht2] at x10
   have x11 := or_u64 (a := t2) (b := dg w m) (by omega) (by omega)
   have hor2 : t2 ||| dg w m = t2 + dg w m := by
    have := or_add (a := r) (i := 32) (b := dg w m) (by simpa using lw0)
    simp only [Nat.reducePow] at this
    rw [ht2]; omega
   obtain ⟨u2, hu2⟩ : ∃ u, u = t2 + dg w m := ⟨_, rfl⟩
   rw [hor2, ← hu2] at x11
   obtain ⟨qw, hqw⟩ : ∃ z, z = q * dg b m := ⟨_, rfl⟩
   have hqwl := hdA q hqm
   have x12 : wr .u64 ((q : Int) * ((dg b m : Nat) : Int)) = (qw : Int) := by
    have e : (q : Int) * ((dg b m : Nat) : Int) = (qw : Int) := by rw [hqw]; simp
    rw [e]; exact wr_u64 (by omega) (by omega)
   simp [-n_step_k26, show m < m + 2 + 1 by omega, hrm, f1', f2, hc', g0, e0, e1, x1, x2, x10, x11, x12, hlw.w64, hlb.w64]
   by_cases hgt : u2 < qw
   · have hdec := g.dec hQ hr (by rw [← hqw]; omega)
     have hqp : 0 < q := by rcases Nat.eq_zero_or_pos q with h | h; subst h; simp at hqw; omega; exact h
     have x13 : wr .u64 ((q : Int) - 1) = ((q - 1 : Nat) : Int) := by rw [wr_u64 (by omega) (by omega)]; omega
     have x14 : wr .u64 ((r : Int) + ((dg b (m + 1) : Nat) : Int)) = ((r + dg b (m + 1) : Nat) : Int) := by rw [wr_u64 (by omega) (by omega)]; omega
     obtain ⟨q', hq'⟩ : ∃ q', q' = q - 1 := ⟨_, rfl⟩
     rw [← hq'] at x13 hdec
     obtain ⟨r', hr'⟩ : ∃ r', r' = r + dg b (m + 1) := ⟨_, rfl⟩
     rw [← hr'] at x14
     simp [-n_step_k26, hgt, x13, x14]
     refine ⟨.of (q', r') (by simp; omega) (by simp) ⟨hO.up _, hc1, hdec, by simp; omega, ?_⟩, fun h => by omega⟩
     show r' + q' * dg b (m + 1) = two
     have : q = q' + 1 := by omega
     subst this
     rw [Nat.add_mul] at hr
     omega
   · simp [-n_step_k26, hgt]
     intro _
     exact step_tail (H0 := H) (b := b) (cap := cap) (capb := capb) (hO.up _) hm hne hj hc' hlw hlb f1 f2 (fun i hi => f3 i (by omega)) (by omega) (by omega) hjs hAe (by rw [hVe, hV]) g.pos hQ (g.stop hqm hr (.inr (by rw [← hqw]; omega))) hqm (by simp) (by simp) (by simp) (by simp)
 · have hrm : 4294967295 < r := by omega
   simp [-n_step_k26, hrm]
   exact step_tail (H0 := H) (b := b) (cap := cap) (capb := capb) (hO.up _) hm hne hj hc' hlw hlb f1 f2 (fun i hi => f3 i (by omega)) (by omega) (by omega) hjs hAe (by rw [hVe, hV]) g.pos hQ (g.stop hqm hr (.inl (by omega))) hqm (by simp) (by simp) (by simp) (by simp)
end Go.Dam.C
namespace Go.Dam.C
open Go Go.Dam
variable [Foot]
variable {X : Cx} {pm : Perm} {H H' : Heap}
theorem IsN.nat {v : Value} {ds : List Nat} (h : IsN H v (strip ds)) : IsNat H v (nv ds) := ⟨⟨_, h, strip_strip ds, nv_strip ds⟩⟩
theorem IsN.block {v : Value} {ds : List Nat} (h : IsN H v ds) (h0 : ds ≠ []) : ∃ b x s, v = .pointer (some ⟨b, 0, none⟩) ∧ H.get b = some x ∧ rowOf x = some [s] ∧ Dig H s ds := by
 rcases h with ⟨_, h⟩ | h
 · exact absurd h h0
 · obtain ⟨b, x, s, h1, h2, h3, h4⟩ := h; exact ⟨b, x, s, h1, h2, h3.1, h4⟩
def divPost (pm : Perm) (H : Heap) (a b : List Nat) : Post := fun x l H' => (x = Ex.normal ∨ x = Ex.ret) ∧ ∃ vs, resL l H' [.slot 4, .slot 5, .slot 6] = some vs ∧
 (Keep pm H H' ∧ (nv b = 0 ∧ tupOf vs = .tuple #[.pointer none, .pointer none, .bool false] ∨ nv b ≠ 0 ∧ ∃ q m, tupOf vs = .tuple #[q, m, .bool true] ∧ IsNat H' q (nv a / nv b) ∧ IsNat H' m (nv a % nv b)))
end Go.Dam.C
namespace Go.Dam.C
open Go Go.Dam
variable {X : Cx} {pm : Perm} {H H' : Heap}
theorem nv_zero {b : List Nat} (hs : strip b = b) : nv b = 0 ↔ b = [] := by
 constructor
 · intro h
   have := len_of_lt hs (k := 0) (by rw [h]; simp)
   exact List.length_eq_zero_iff.1 (by omega)
 · rintro rfl; rfl
end Go.Dam.C
namespace Go.Dam.C
open Go Go.Dam
variable [Foot]
variable {X : Cx} {pm : Perm} {H H' : Heap}
theorem _root_.Go.Dam.Ok.perm {pm' : Perm} (h : Ok pm' H) (hn : pm.num = none) (hl : pm.lo ≤ H.next) : Ok pm H := ⟨hn, hl, h.wf, h.new⟩
theorem _root_.Go.Dam.Keep.perm {pm' : Perm} (h : Keep pm' H H') (hn : pm.num = none) (hl : pm.lo ≤ H.next) : Keep pm H H' := ⟨h.ok.perm hn (Nat.le_trans hl h.next), h.next, h.get⟩
theorem _root_.Go.Dam.Keep.putNew {c : Nat} (ho : Ok pm H) {n : Nat} (hc : H.next ≤ c) (hn : c < H.next + n) (x : Blk) : Keep pm H ((H.up n).put c x) where
 ok := ⟨ho.num, Nat.le_trans ho.lo (Nat.le_add_right _ _), fun b hb => by
  have hb : H.next + n ≤ b := hb
  rw [get_put_ne (by omega), up_get]; exact ho.wf b (by omega), fun b hb => ho.new b (Nat.le_trans (Nat.le_add_right _ _) hb)⟩
 next := Nat.le_add_right _ _
 get := fun b hb => by rw [get_put_ne (by omega), up_get]
/-- A row in one block: how it reads. -/
theorem Dig.withCells {v : Value} {ds : List Nat} (h : Dig H v ds) {k : List Value → Nat → Eff} : (withCells 1 v k).run pm H = (k (u32s ds) ds.length).run pm H := by
 obtain ⟨_, ⟨rfl, rfl⟩ | ⟨c, off, cap, y, row, rfl, h1, h2, h3, h4, _⟩⟩ := h
 · rfl
 · simp only [Dam.withCells, Eff.run, h1, h2.row, Nat.mul_one, getCells, nble]
   rw [decide_eq_true h4]
   simp only [cond_true, h3]
theorem Dig.parts {v : Value} {ds : List Nat} (h : Dig H v ds) (h0 : ds ≠ []) : ∃ c off cap y row, v = .slice (some ⟨c, off, none⟩) ds.length cap ∧ H.get c = some y ∧ rowOf y = some row ∧ getCells row off ds.length = some (u32s ds) := by
 obtain ⟨_, ⟨rfl, rfl⟩ | ⟨c, off, cap, y, row, rfl, h1, h2, h3, h4, _⟩⟩ := h
 · exact absurd rfl h0
 · refine ⟨c, off, cap, y, row, rfl, h1, h2.row, ?_⟩
   simp only [getCells, nble]
   rw [decide_eq_true h4]
   simp only [cond_true, h3]
end Go.Dam.C
namespace Go.Dam.C
open Go Go.Dam
variable {X : Cx} {pm : Perm} {H H' : Heap}
theorem u32s_one (ds : List Nat) : (u32s ds).all oneCellV = true := by simp [u32s]
/-- Something put behind a slice that has room for it. -/
theorem app_run {pm : Perm} {c off len cap bytes n : Nat} {cs : List Value} {new : List Value} {z : Zk} (h : H.get c = some (.cells cs z)) (hm : pm.may c = true) (hn : new.length = n) (h0 : n ≠ 0) (hc : len + n ≤ cap) (hl : off + len + n ≤ cs.length) (hone : new.all oneCellV = true) :
  (effAppend 1 bytes (.slice (some ⟨c, off, none⟩) len cap) new n).run pm H = some (.slice (some ⟨c, off, none⟩) (len + n) cap, H.put c (.cells (cs.take (off + len) ++ (new ++ cs.drop (off + len + n))) z)) := by
 subst hn
 simp only [effAppend, nbeq, nble, h0, hc, decide_false, decide_true, cond_false, cond_true, putRow, Eff.run, h, hone, setCells, Nat.mul_one]
 rw [decide_eq_true hl]
 simp only [cond_true, Eff.run, hm]
theorem app_runT {pm : Perm} {c off len cap bytes n : Nat} {cs : List Value} {new : List Value} {z : Zk} (h : H.get c = some (.cells cs z)) (hm : pm.may c = true) (hn : new.length = n) (h0 : n ≠ 0) (hc : len + n ≤ cap) (hl : off + len + n ≤ cs.length) (hone : new.all oneCellV = true) :
  (effAppend 1 bytes (.slice (some ⟨c, off, none⟩) len cap) new n).runT pm H = some (.slice (some ⟨c, off, none⟩) (len + n) cap, H.put c (.cells (cs.take (off + len) ++ (new ++ cs.drop (off + len + n))) z), [c], [c]) := by
 subst hn
 simp only [effAppend, nbeq, nble, h0, hc, decide_false, decide_true, cond_false, cond_true, putRow, Eff.runT, h, hone, setCells, Nat.mul_one]
 rw [decide_eq_true hl]
 simp only [cond_true, Eff.runT, hm]
theorem bl_pos {x : Nat} (h : x ≠ 0) : 0 < bl x := by unfold bl; rw [if_neg h]; omega
end Go.Dam.C
namespace Go.Dam.C
open Go Go.Dam
variable [Foot]
variable {X : Cx} {pm : Perm} {H H' : Heap}
end Go.Dam.C
namespace Go.Dam.C
open Go Go.Dam
variable {X : Cx} {pm : Perm} {H H' : Heap}
theorem bl_le_of {x k : Nat} (h : x < 2 ^ k) : bl x ≤ k := by
 by_cases h0 : x = 0
 · subst h0; simp [bl]
 · have h1 := bl_le h0
   have := (Nat.pow_lt_pow_iff_right (by omega : 1 < 2)).1 (Nat.lt_of_le_of_lt h1 h)
   omega
end Go.Dam.C
namespace Go.Dam.C
open Go Go.Dam
variable [Foot]
variable {X : Cx} {pm : Perm} {H H' : Heap}
/-- From one heap to a later one: only one old block has turned. -/
structure KeepX (pm : Perm) (c : Nat) (H H' : Heap) : Prop where
 ok : Ok pm H'
 next : H.next ≤ H'.next
 get : ∀ x, x < H.next → x ≠ c → H'.get x = H.get x
theorem KeepX.refl (ho : Ok pm H) (c : Nat) : KeepX pm c H H := ⟨ho, Nat.le_refl _, fun _ _ _ => rfl⟩
theorem KeepX.keep {c : Nat} {H'' : Heap} (h : KeepX pm c H H') (g : Keep pm H' H'') : KeepX pm c H H'' := ⟨g.ok, Nat.le_trans h.next g.next, fun x hx hc => (g.get x (Nat.lt_of_lt_of_le hx h.next)).trans (h.get x hx hc)⟩
theorem KeepX.only {c : Nat} {H'' : Heap} (h : KeepX pm c H H') (g : Only pm c H' H'') : KeepX pm c H H'' := ⟨g.ok, Nat.le_trans h.next g.next, fun x hx hc => (g.get x hc).trans (h.get x hx hc)⟩
theorem KeepX.put {c d : Nat} (h : KeepX pm c H H') {y : Blk} (hy : H'.get d = some y) (hd : d = c ∨ H.next ≤ d) (x : Blk) : KeepX pm c H (H'.put d x) where
 ok := ⟨h.ok.num, h.ok.lo, fun b hb => by have hb : H'.next ≤ b := hb; have := h.ok.lt hy; rw [get_put_ne (by omega)]; exact h.ok.wf b hb, fun b hb => h.ok.new b hb⟩
 next := h.next
 get := fun z hz hc => by rw [get_put_ne (by omega)]; exact h.get z hz hc
theorem KeepX.to {c : Nat} {H0 : Heap} (h : KeepX pm c H H') (k : Keep pm H0 H) (hc : H0.next ≤ c) : Keep pm H0 H' := ⟨h.ok, Nat.le_trans k.next h.next, fun b hb => (h.get b (Nat.lt_of_lt_of_le hb k.next) (by omega)).trans (k.get b hb)⟩
theorem DigB.keepx {cb c : Nat} {v : Value} {ds : List Nat} (h : DigB cb H v ds) (ho : Ok pm H) (hne : cb ≠ c) (k : KeepX pm c H H') : DigB cb H' v ds := by
 obtain ⟨hl, off, cap, y, row, h1, h2, h3⟩ := h
 exact ⟨hl, off, cap, y, row, h1, (k.get cb (ho.lt h2) hne).trans h2, h3⟩
end Go.Dam.C
namespace Go.Dam.C
open Go Go.Dam
variable {X : Cx} {pm : Perm} {H H' : Heap}
theorem set_same {W : List Nat} {L : Nat} (hL : L < W.length) (h : dg W L = 0) : u32s W = (u32s W).take L ++ ([.int .u32 0] ++ (u32s W).drop (L + 1)) := by
 have : W.set L 0 = W := by
  apply List.ext_getElem?
  intro i
  by_cases hi : L = i
  · subst hi
    simp [dg, hL] at h
    simp [hL, h]
  · simp [hi]
 have h2 := setCells_one (cs := u32s W) (i := L) (v := .int .u32 ((0 : Nat) : Int)) (by simpa using hL)
 rw [u32s_set, this] at h2
 have h3 : setCells (u32s W) L [.int .u32 0] = some (u32s W) := h2
 simp only [setCells, nble, List.length_singleton] at h3
 rw [decide_eq_true (by rw [u32s_length]; omega)] at h3
 simp only [cond_true, Option.some.injEq] at h3
 exact h3.symm
end Go.Dam.C
namespace Go.Dam.C
open Go Go.Dam
variable [Foot]
variable {X : Cx} {pm : Perm} {H H' : Heap}
end Go.Dam.C
namespace Go.Dam.C
open Go Go.Dam
variable {X : Cx} {pm : Perm} {H H' : Heap}
theorem nv_take {w : List Nat} {k : Nat} (h : k ≤ w.length) : nv (w.take k) = tv w k := by
 have h1 := nv_append (w.take k) (w.drop k)
 rw [List.take_append_drop] at h1
 have h2 := nv_tv_hv w k
 rw [List.length_take, Nat.min_eq_left h] at h1
 unfold hv at h2
 omega
end Go.Dam.C
namespace Go.Dam.C
open Go Go.Dam
variable {X : Cx} {pm : Perm} {H H' : Heap}
theorem hv_append (p w : List Nat) : hv (p ++ w) p.length = nv w := by simp [hv]
end Go.Dam.C
namespace Go.Dam.C
open Go Go.Dam
variable [Foot]
variable {X : Cx} {pm : Perm} {H H' : Heap}
end Go.Dam.C
namespace Go.Dam.C
open Go Go.Dam
variable {X : Cx} {pm : Perm} {H H' : Heap}
end Go.Dam.C
namespace Go.Dam.C
open Go Go.Dam
variable [Foot]
variable {X : Cx} {pm : Perm} {H H' : Heap}
theorem Div_end (hX : NX X) {H0 : Heap} (k0 : Keep pm H0 H) {c cb n m cp by' : Nat} (hc0 : H0.next ≤ c) (hsc : Foot.s c) {W a b b' : List Nat} {vb : Value} (hcg : H.get c = some (.cells (u32s W) (.n 1))) (hWl : W.length = n + 2) (hcp : cp = n + 2) (hW : Lim W) (hmay : pm.may c = true)
  (hb : DigB cb H vb b') (hcb : cb ≠ c) (hbl : b'.length = m + 2) (hsb : strip b' = b') (hva : nv W = nv a * 2 ^ by') (hvb : nv b' = nv b * 2 ^ by') (hmn : m + 2 ≤ n) (hn : n < 268435456) (hb0 : nv b ≠ 0) (hbh : 4294967296 ^ (m + 1) ≤ nv b)
  (hby : by' < 32) (hal : nv a < 4294967296 ^ n) {l : Sl} {v0 : Value} (_l0 : lk 0 l = some v0) (l7 : lk 7 l = some vb) (l10 : lk 10 l = some (.int .i64 (by' : Int))) (l11 : lk 11 l = some (.slice (some ⟨c, 0, none⟩) (n + 1) cp)) : wp X pm (.code n_Div_k11) l H [] (divPost pm H0 a b) := by
 have ho := k0.ok
 obtain ⟨offb, bcap, yb, rowb, rfl, f1, f2, f3⟩ := hb.2
 rw [hbl] at l7 hb
 have hcl : c < H.next := ho.lt hcg
 obtain ⟨K, hK⟩ : ∃ K, K = n + 1 - (m + 2) := ⟨_, rfl⟩
 have x1 : wr .i64 ((n : Int) + 1 - ((m : Int) + 2)) = (K : Int) := by rw [wr_i64 (by omega) (by omega)]; omega
 obtain ⟨V, hV⟩ : ∃ V, V = nv b' := ⟨_, rfl⟩
 have hV0 : 0 < V := by rw [hV, hvb]; exact Nat.mul_pos (Nat.pos_of_ne_zero hb0) (Nat.two_pow_pos _)
 have hlb := hb.1
 have hpb := Nat.two_pow_pos by'
 have hVt : V < 4294967296 ^ (m + 2) := by rw [hV, ← hbl]; exact nv_lt hlb
 have hVh : 4294967296 ^ (m + 1) ≤ V := by
  have := nv_high hsb (by rintro rfl; simp at hbl)
  rwa [hbl, show m + 2 - 1 = m + 1 by omega, ← hV] at this
 have hbtop : dg b' (m + 2 - 1) ≠ 0 := by
  intro h
  have h2 : nv b' = tv b' (m + 1) := by rw [← tv_len (ds := b') (i := m + 1 + 1) (by omega), tv]; simp at h; simp [h]
  have := tv_lt hlb (m + 1)
  omega
 simp [-n_Div_k3, l7, l11, x1]
 rw [mk_run ho (by omega) (by omega)]
 simp [-n_Div_k3]
 have kq : KeepX pm c H (H.new (.cells (times [.int .u32 0] K) (.n 1))) := (KeepX.refl ho c).keep ((Keep.refl ho).new _)
 have hw0 : wr .i64 ((K : Int) - 1) = (K : Int) - 1 := wr_i64 (by omega) (by omega)
 refine LoopAt.of (fun t : Nat × List Nat × List Nat => [(7, .slice (some ⟨cb, offb, none⟩) (m + 2) bcap), (10, .int .i64 (by' : Int)), (11, .slice (some ⟨c, 0, none⟩) (n + 1) cp), (12, .slice (some ⟨H.next, 0, none⟩) K K), (13, .int .i64 ((t.1 : Int) - 1))])
  (fun t H' => KeepX pm c H H' ∧ H'.get c = some (.cells (u32s t.2.1) (.n 1)) ∧ H'.get H.next = some (.cells (u32s t.2.2) (.n 1)) ∧ Lim t.2.1 ∧ t.2.1.length = n + 2 ∧ Lim t.2.2 ∧ t.2.2.length = K ∧ t.1 ≤ K ∧
   hv t.2.1 t.1 < V ∧ nv W = nv t.2.1 + hv t.2.2 t.1 * (4294967296 ^ t.1 * V)) (fun t => t.1) (K, W, List.replicate K 0) (by simp [l7, l10, l11, hw0]) ⟨kq, by rw [get_new_lt hcl]; exact hcg, by rw [times_u32]; simp, hW, hWl, lim_rep K, by simp, by simp, ?_, ?_⟩ ?_
 · -- the top part is less than the divisor
   show hv W K < V
   rw [hv_div W K hW, hva]
   refine Nat.div_lt_of_lt_mul ?_
   refine Nat.lt_of_lt_of_le (Nat.mul_lt_mul_of_pos_right hal hpb) ?_
   have e1 : 4294967296 ^ n = 4294967296 ^ K * 4294967296 ^ (m + 1) := by rw [← Nat.pow_add]; congr 1; omega
   rw [e1, Nat.mul_assoc]
   refine Nat.mul_le_mul_left _ ?_
   rw [hV, hvb]
   exact Nat.mul_le_mul_right _ hbh
 · show nv W = nv W + hv (List.replicate K 0) K * _
   rw [hv_end (by simp)]; simp
 rintro ⟨k, w, qs⟩ H1 ⟨k1, hc1, hq1, hlw, hwl, hlq, hql, hkK, htop, hsum⟩
 simp only at hc1 hq1 hlw hwl hlq hql hkK htop hsum
 cases k with
 | zero =>
   simp
   rw [hv_zero] at htop
   rw [hv_zero] at hsum
   simp only [Nat.pow_zero, Nat.one_mul] at hsum
   have hqv : nv qs = nv a / nv b := by
    have : nv W / V = nv qs := by
     rw [hsum, Nat.add_mul_div_right _ _ hV0, Nat.div_eq_of_lt htop]; omega
    rw [← this, hva, hV, hvb, Nat.mul_div_mul_right _ _ hpb]
   have hwv : nv w = nv a % nv b * 2 ^ by' := by
    have : nv W % V = nv w := by rw [hsum, Nat.add_mul_mod_self_right, Nat.mod_eq_of_lt htop]
    rw [← this, hva, hV, hvb, Nat.mul_mod_mul_right]
   have hwt : nv (w.take (n + 1)) = nv w := by
    rw [nv_take (by omega)]
    have h1 := nv_tv_hv w (n + 1)
    have h2 : hv w (n + 1) = 0 := by
     rw [hv_div w _ hlw]
     refine Nat.div_eq_of_lt ?_
     have : 4294967296 ^ (m + 2) ≤ 4294967296 ^ (n + 1) := Nat.pow_le_pow_right (by omega) (by omega)
     exact Nat.lt_of_lt_of_le (Nat.lt_trans htop hVt) this
    rw [h2, Nat.mul_zero, Nat.add_zero] at h1
    exact h1.symm
   have hdw : Dig H1 (.slice (some ⟨c, 0, none⟩) (n + 1) cp) (w.take (n + 1)) := ⟨fun d hd => hlw d (List.mem_of_mem_take hd), .inr ⟨c, 0, cp, _, _, by simp [hwl], hc1, .inl rfl, by simp [u32s, List.map_take, hwl], by simp [hwl], by simp [hwl]; omega, hsc⟩⟩
   refine CallAt.of (by simp) (by simp) (of_spec hX.n_of k1.ok (dig_out hq1 hlq hql (ho.new _ (Nat.le_refl _))) (by omega)) ?_
   rintro r1 H2 ⟨k2, hr1⟩
   simp
   refine CallAt.of (by simp) (by simp) (of_spec hX.n_of k2.ok (hdw.keep k1.ok k2) (by simp; omega)) ?_
   rintro r2 H3 ⟨k3, hr2⟩
   simp
   refine CallAt.of (by simp) (by simp) (down_spec hX k3.ok hr2 (Nat.lt_of_le_of_lt (strip_length _) (by simp; omega)) (k := by') (by omega)) ?_
   rintro r3 H4 ⟨k4, ds3, hr3, _, hv3, _⟩
   simp [divPost, hb0]
   refine ⟨(k1.to k0 hc0).trans (k2.trans (k3.trans k4)), r1, r3, ⟨rfl, rfl⟩, ?_, ?_⟩
   · rw [← hqv]; exact (hr1.keep k2.ok (k3.trans k4)).nat
   · have : nv a % nv b = nv ds3 := by rw [hv3, nv_strip, hwt, hwv, Nat.mul_div_cancel _ hpb]
     rw [this]; exact hr3.nat
 | succ k =>
   obtain ⟨h, hh⟩ : ∃ h, h = k + (m + 2) + 1 := ⟨_, rfl⟩
   have y1 : wr .i64 (wr .i64 ((k : Int) + ((m : Int) + 2)) + 1) = (h : Int) := by rw [wr_i64 (n := (k : Int) + ((m : Int) + 2)) (by omega) (by omega), wr_i64 (by omega) (by omega)]; omega
   have hsl := slSl_cells (pm := pm) (H := H1) (esz := 1) (l := k) (h := h) (m := cp) (cap := cp) (off := 0) hc1 (.inl rfl) (by omega) (by omega) (Nat.le_refl _)
   simp only [Nat.zero_add, Nat.mul_one] at hsl
   have hhk : h - k = m + 2 + 1 := by omega
   rw [hhk] at hsl
   simp [-n_Div_k3, y1, hsl]
   obtain ⟨u, hu⟩ : ∃ u, u = w.drop k := ⟨_, rfl⟩
   have hpu : w.take k ++ u = w := by rw [hu]; exact List.take_append_drop k w
   have hpl : (w.take k).length = k := by simp [hwl]; omega
   have hlu : Lim u := by rw [hu]; exact fun d hd => hlw d (List.mem_of_mem_drop hd)
   have hul : u.length = n + 2 - k := by rw [hu, List.length_drop, hwl]
   have hnu : nv u = dg w k + 4294967296 * hv w (k + 1) := by rw [hu]; exact hv_step w k
   have hdk := hlw.dg k
   have hnuV : nv u < 4294967296 * V := by omega
   have hu0 : hv u (m + 2 + 1) = 0 := by
    rw [hv_div u _ hlu]
    refine Nat.div_eq_of_lt (Nat.lt_of_lt_of_le hnuV ?_)
    rw [Nat.pow_succ, Nat.mul_comm]
    exact Nat.mul_le_mul_right _ (Nat.le_of_lt hVt)
   have htu : tv u (m + 2 + 1) = nv u := by
    have := nv_tv_hv u (m + 2 + 1)
    rw [hu0, Nat.mul_zero, Nat.add_zero] at this
    exact this.symm
   have hne : H.next ≠ c := by omega
   have hstep := step_spec hX (pm := pm) (H := H1) k1.ok (c := c) (cb := cb) (j := k) (n := m + 2) (cap := cp - k) hmay hcb (p := w.take k) (w := u) (b := b') (vb := .slice (some ⟨cb, offb, none⟩) (m + 2) bcap) hpl (by rw [hpu]; exact hc1) hlu (hb.keepx ho hcb k1) hbl.symm (by omega) (by omega) (by omega) (by omega) hbtop (by rw [htu, ← hV]; exact hnuV)
   rw [htu, ← hV] at hstep
   refine CallAt.of (by simp) (by simp) hstep ?_
   rintro _ H2 ⟨rfl, hO, w', hc2, hlw', hwl', hw'v, hw'd⟩
   obtain ⟨Q, hQ⟩ : ∃ Q, Q = nv u / V := ⟨_, rfl⟩
   have hQl : Q < 4294967296 := by rw [hQ]; exact Nat.div_lt_of_lt_mul (by rw [Nat.mul_comm]; exact hnuV)
   rw [← hQ]
   have hq2 : H2.get H.next = some (.cells (u32s qs) (.n 1)) := (hO.get _ hne).trans hq1
   have hset := setCells_one (cs := u32s qs) (i := k) (v := .int .u32 (Q : Int)) (by rw [u32s_length, hql]; omega)
   rw [u32s_set] at hset
   have hmayq : pm.may H.next = true := ho.may (Nat.le_refl _)
   simp [-n_Div_k3, show k < K by omega, hq2, hset, hmayq]
   have hw'0 : hv w' (m + 2 + 1) = 0 := by
    have : w'.drop (m + 2 + 1) = u.drop (m + 2 + 1) := by
     apply List.ext_getElem?
     intro i
     have h1 := hw'd (m + 2 + 1 + i) (by omega)
     simp only [List.getElem?_drop]
     unfold dg at h1
     rcases Nat.lt_or_ge (m + 2 + 1 + i) u.length with h2 | h2
     · have h3 : m + 2 + 1 + i < w'.length := by omega
       simp only [List.getElem?_eq_getElem h2, List.getElem?_eq_getElem h3, Option.getD_some] at h1 ⊢
       rw [h1]
     · rw [List.getElem?_eq_none h2, List.getElem?_eq_none (by omega)]
    unfold hv at hu0 ⊢
    rw [this]; exact hu0
   have hw'n : nv w' = nv u % V := by
    have := nv_tv_hv w' (m + 2 + 1)
    rw [hw'0, Nat.mul_zero, Nat.add_zero, hw'v] at this
    exact this
   have hkl : k < K := by omega
   refine .of (k, w.take k ++ w', qs.set k Q) (by simp) (by simp; rw [wr_i64 (by omega) (by omega)]) ⟨(k1.only hO).put hq2 (.inr (Nat.le_refl _)) _, ?_, by simp, ?_, ?_, hlq.set k hQl, by simp [hql], by simp; omega, ?_, ?_⟩
   · show (H2.put H.next _).get c = _
     rw [get_put_ne (by omega)]; exact hc2
   · intro d hd
     rcases List.mem_append.1 hd with h | h
     · exact hlw d (List.mem_of_mem_take h)
     · exact hlw' d h
   · show (w.take k ++ w').length = n + 2
     rw [List.length_append, hpl, hwl', hul]; omega
   · show hv (w.take k ++ w') k < V
     have := hv_append (w.take k) w'
     rw [hpl] at this
     rw [this, hw'n]
     exact Nat.mod_lt _ hV0
   · show nv W = nv (w.take k ++ w') + hv (qs.set k Q) k * (4294967296 ^ k * V)
     rw [hsum, nv_append, hpl, hw'n, hv_step (qs.set k Q) k, dg_set (by omega), hv_set (by omega), Nat.pow_succ]
     have e1 : nv w = nv (w.take k) + 4294967296 ^ k * nv u := by
      have := nv_append (w.take k) u
      rw [hpu, hpl] at this
      exact this
     have e2 : V * Q + nv u % V = nv u := by rw [hQ]; exact Nat.div_add_mod _ _
     rw [e1]
     generalize nv u % V = R at *
     rw [← e2]
     generalize 4294967296 ^ k = P
     generalize hv qs (k + 1) = Z
     generalize nv (w.take k) = T
     grind
theorem Div_loop (hX : NX X) {H0 : Heap} (k0 : Keep pm H0 H) {c cb ab n m cp by' L0 : Nat} (hc0 : H0.next ≤ c) (hsc : Foot.s c) {W a b b' : List Nat} {vb : Value} {ax : Blk} {abb : Option Addr} {abc : Nat} (hcg : H.get c = some (.cells (u32s W) (.n 1))) (hWl : W.length = n + 2) (hcp : cp = n + 2) (hW : Lim W)
  (hab : H.get ab = some ax) (har : rowOf ax = some [.slice abb n abc]) (habc : ab ≠ c) (hb : DigB cb H vb b') (hcb : cb ≠ c) (hbl : b'.length = m + 2) (hsb : strip b' = b') (hva : nv W = nv a * 2 ^ by') (hvb : nv b' = nv b * 2 ^ by') (hmn : m + 2 ≤ n) (hn : n < 268435456) (hb0 : nv b ≠ 0) (hbh : 4294967296 ^ (m + 1) ≤ nv b)
  (hL0 : L0 ≤ n + 1) (hz : ∀ i, L0 ≤ i → dg W i = 0) (hmay : pm.may c = true) (hby : by' < 32) (hal : nv a < 4294967296 ^ n)
  {l : Sl} (l0 : lk 0 l = some (.pointer (some ⟨ab, 0, none⟩))) (l7 : lk 7 l = some vb) (l10 : lk 10 l = some (.int .i64 (by' : Int))) (l11 : lk 11 l = some (.slice (some ⟨c, 0, none⟩) L0 cp)) : wp X pm (.code n_Div_k15) l H [] (divPost pm H0 a b) := by
 have ho := k0.ok
 obtain ⟨offb, bcap, yb, rowb, rfl, f1, f2, f3⟩ := hb.2
 rw [hbl] at l7
 have hcl : c < H.next := ho.lt hcg
 simp [-n_Div_k11]
 refine LoopAt.of (fun L : Nat => [(0, .pointer (some ⟨ab, 0, none⟩)), (7, .slice (some ⟨cb, offb, none⟩) (m + 2) bcap), (10, .int .i64 (by' : Int)), (11, .slice (some ⟨c, 0, none⟩) L cp)])
  (fun L H' => KeepX pm c H H' ∧ H'.get c = some (.cells (u32s W) (.n 1)) ∧ L0 ≤ L ∧ L ≤ n + 1) (fun L => n + 1 - L) L0 (by simp [l0, l7, l10, l11]) ⟨KeepX.refl ho c, hcg, Nat.le_refl _, hL0⟩ ?_
 rintro L H1 ⟨k1, hc1, hLL, hLn⟩
 have hab1 := (k1.get ab (ho.lt hab) habc).trans hab
 by_cases hle : L ≤ n
 · have hnx : H1.get H1.next = none := k1.ok.wf _ (Nat.le_refl _)
   have hcl1 : c < H1.next := k1.ok.lt hc1
   have happ := app_run (H := H1.new (.cells [.int .u32 0] (.n 1))) (bytes := 4) (off := 0) (len := L) (cap := cp) (n := 1) (c := c) (pm := pm) (cs := u32s W) (new := [.int .u32 0]) (z := .n 1) (by rw [get_new_lt hcl1]; exact hc1) hmay rfl (by omega) (by omega) (by rw [u32s_length]; omega) rfl
   rw [Nat.zero_add, ← set_same (by omega) (hz L hLL)] at happ
   have x1 : ((L : Int) ≤ (n : Int)) = True := by simp; exact hle
   simp [-n_Div_k11, hab1, har, hle, ho.make, ho.pick, getCells, happ]
   refine ⟨.of (L + 1) (by simp; omega) (by simp) ⟨?_, by simp, by omega, by omega⟩, fun h => by omega⟩
   exact (k1.keep ((Keep.refl k1.ok).new _)).put (by rw [get_new_lt hcl1]; exact hc1) (.inl rfl) _
 · obtain rfl : L = n + 1 := by omega
   simp [-n_Div_k11, hab1, har]
   refine ⟨fun h => by omega, fun _ => ?_⟩
   exact Div_end hX (k1.to k0 hc0) hc0 hsc hc1 hWl hcp hW hmay (hb.keepx ho hcb k1) hcb hbl hsb hva hvb hmn hn hb0 hbh hby hal (v0 := .pointer (some ⟨ab, 0, none⟩)) (by simp) (by simp [hbl]) (by simp) (by simp)
theorem Dig.digB {v : Value} {ds : List Nat} (h : Dig H v ds) (h0 : ds ≠ []) : ∃ cb, DigB cb H v ds := by
 obtain ⟨hl, ⟨rfl, rfl⟩ | ⟨c, off, cap, y, row, rfl, h1, h2, h3, h4, _⟩⟩ := h
 · exact absurd rfl h0
 · exact ⟨c, hl, off, cap, y, row, rfl, h1, h2.row, fun i hi => by rw [Dig.cell h3 hi]; simp [dg, hi]⟩
end Go.Dam.C
namespace Go.Dam.C
open Go Go.Dam
variable {X : Cx} {pm : Perm} {H H' : Heap}
theorem nv_all0 {ds : List Nat} (h : ∀ d ∈ ds, d = 0) : nv ds = 0 := by
 induction ds with
 | nil => rfl
 | cons d ds ih => simp [nv, h d (.head _), ih fun e he => h e (.tail _ he)]
end Go.Dam.C
namespace Go.Dam.C
open Go Go.Dam
variable [Foot]
variable {X : Cx} {pm : Perm} {H H' : Heap}
theorem Div_tail (hX : NX X) (ho : Ok pm H) {v w : Value} {a b : List Nat} (ha : IsN H v a) (hb : IsN H w b) (hsa : strip a = a) (hsb : strip b = b) (la : a.length < 268435456) (lb : b.length < 268435456) (lb2 : 2 ≤ b.length) (hge : nv b ≤ nv a)
  {l : Sl} {bb : Option Addr} {bc : Nat} (hdb : Dig H (.slice bb b.length bc) b) (l0 : lk 0 l = some v) (l1 : lk 1 l = some w) (l7 : lk 7 l = some (.slice bb b.length bc)) : wp X pm (.code n_Div_k20) l H [] (divPost pm H a b) := by
 obtain ⟨plo, pok, pnum⟩ := pm
 obtain rfl : pnum = none := ho.num
 have hla := ha.lim
 have hlb := hb.lim
 obtain ⟨m, hm⟩ : ∃ m, b.length = m + 2 := ⟨b.length - 2, by omega⟩
 obtain ⟨n, hn⟩ : ∃ n, n = a.length := ⟨_, rfl⟩
 rw [← hn] at la
 obtain ⟨cb, offb, yb, rowb, rfl, f1, f2, f3⟩ := hdb.at rfl (i := m + 1) (by omega)
 rw [hm] at l7 hdb
 have hb0 : nv b ≠ 0 := fun h => by have := (nv_zero hsb).1 h; rw [this] at hm; simp at hm
 have hlen : b.length ≤ n := by rw [hn]; exact len_of_lt hsb (Nat.lt_of_le_of_lt hge (nv_lt hla))
 have d0 := hlb.dg (m + 1)
 have hbv : nv b = tv b (m + 1) + dg b (m + 1) * 4294967296 ^ (m + 1) := by rw [← tv_len (ds := b) (i := m + 1 + 1) (by omega), tv]
 have hbt := tv_lt hlb (m + 1)
 have hd0 : dg b (m + 1) ≠ 0 := by
  intro h0
  rw [h0, Nat.zero_mul, Nat.add_zero] at hbv
  have := len_of_lt hsb (k := m + 1) (by omega)
  omega
 obtain ⟨L, hL⟩ : ∃ L, L = bl (dg b (m + 1)) := ⟨_, rfl⟩
 have hL1 : L ≤ 32 := by rw [hL]; exact bl_le_of (by simpa using d0)
 have hL0 : 0 < L := by rw [hL]; exact bl_pos hd0
 have hL2 : dg b (m + 1) < 2 ^ L := by rw [hL]; exact bl_lt _
 have x1 : wr .i64 ((m : Int) + 2 - 1) = ((m + 1 : Nat) : Int) := by rw [wr_i64 (by omega) (by omega)]; omega
 have x1' : wr .i64 ((m : Int) + 1) = ((m + 1 : Nat) : Int) := by rw [wr_i64 (by omega) (by omega)]; omega
 simp [-n_Div_k15, l7, x1, f1, f2, f3, hlb.w64]
 refine CallAt.of (by simp) (by simp) (bLen_spec hX (x := dg b (m + 1)) (by omega)) ?_
 rintro _ H ⟨rfl, rfl⟩
 rw [← hL]
 obtain ⟨by', hby⟩ : ∃ s, s = 32 - L := ⟨_, rfl⟩
 have x2 : wr .i64 (32 - (L : Int)) = (by' : Int) := by rw [wr_i64 (by omega) (by omega)]; omega
 simp [-n_Div_k15, l1, x2]
 refine CallAt.of (by simp) (by simp) (up_spec hX ho hb (by omega) (k := by') (by omega)) ?_
 rintro r1 H1 ⟨k1, ds1, hr1, hl1, hv1, hn1⟩
 -- the divisor, shifted
 obtain ⟨b', hb'⟩ : ∃ z, z = strip ds1 := ⟨_, rfl⟩
 rw [← hb'] at hr1
 have hsb' : strip b' = b' := by rw [hb']; exact strip_strip _
 have hlb' : Lim b' := by rw [hb']; exact lim_strip hl1
 have hvb' : nv b' = nv b * 2 ^ by' := by rw [hb', nv_strip, hv1]
 have hp2 : 2 ^ L * 2 ^ by' = 4294967296 := by rw [← Nat.pow_add, show L + by' = 32 by omega]
 have hpb := Nat.two_pow_pos by'
 have hblen : b'.length = m + 2 := by
  apply Nat.le_antisymm
  · refine len_of_lt hsb' ?_
    have e0 : 4294967296 ^ (m + 2) = 4294967296 ^ (m + 1) * 2 ^ L * 2 ^ by' := by rw [Nat.pow_succ, Nat.mul_assoc, hp2]
    rw [hvb', e0]
    refine Nat.mul_lt_mul_of_pos_right ?_ hpb
    rw [hbv, Nat.mul_comm (4294967296 ^ (m + 1))]
    have : (dg b (m + 1) + 1) * 4294967296 ^ (m + 1) ≤ 2 ^ L * 4294967296 ^ (m + 1) := Nat.mul_le_mul_right _ hL2
    rw [Nat.add_mul] at this
    omega
  · rcases Nat.lt_or_ge b'.length (m + 2) with h | h
    · exfalso
      have h1 := nv_lt hlb'
      have h2 : 4294967296 ^ b'.length ≤ 4294967296 ^ (m + 1) := Nat.pow_le_pow_right (by omega) (by omega)
      have h3 := nv_high hsb (by rintro rfl; simp at hm)
      rw [hm, show m + 2 - 1 = m + 1 by omega] at h3
      have h4 : nv b * 1 ≤ nv b * 2 ^ by' := Nat.mul_le_mul_left _ hpb
      omega
    · exact h
 obtain ⟨bb1, bx1, bs1, rfl, hg1, hgr1, hd1⟩ := hr1.block (by intro h; rw [h] at hblen; simp at hblen)
 have ha1 := ha.keep ho k1
 have han : a ≠ [] := by rintro rfl; simp at hn; omega
 obtain ⟨ab, ax, as, rfl, hag, har, hda⟩ := ha1.block han
 obtain ⟨ac0, aoff0, abc, ay0, arow0, rfl, _, _, _⟩ := hda.parts han
 rw [← hn] at hda har
 simp [-n_Div_k15, hg1, hgr1]
 have hres : ∀ k, H1.get (H1.next + k) = none := fun k => k1.ok.wf _ (by omega)
 have hres0 : H1.get H1.next = none := k1.ok.wf _ (by omega)
 have habl : ab < H1.next := k1.ok.lt hag
 have x3 : wr .i64 ((n : Int) + 2) = ((n + 2 : Nat) : Int) := by rw [wr_i64 (by omega) (by omega)]; omega
 obtain ⟨cp, hcp⟩ : ∃ cp, cp = n + 2 := ⟨_, rfl⟩
 rw [← hcp] at x3
 have hmk := mk_runT (H := H1.up 15) (z := [.int .u32 0]) (bytes := 4) (l := 0) (c := cp) (lo := plo) (b := H1.next + 6) (okl := pok) (by omega) (by omega) (by omega)
 obtain ⟨c, hc⟩ : ∃ c, c = H1.next + 6 := ⟨_, rfl⟩
 refine DrawAt.of k1.ok.lo rfl ?_
 have kc : Keep ⟨plo, pok, none⟩ H1 ((H1.up 15).put (H1.next + 6) (.cells (times [.int .u32 0] cp) (.n 1))) := Keep.putNew k1.ok (by omega) (by omega) _
 simp [-n_Div_k15, inOrd, l0, hag, har, hres, hres0, x3, hmk, Heap.get_put]
 obtain ⟨Hc, hHc⟩ : ∃ Hc, Hc = (H1.up 15).put (H1.next + 6) (.cells (times [.int .u32 0] cp) (.n 1)) := ⟨_, rfl⟩
 have hHn : Hc.next = H1.next + 15 := by rw [hHc]; rfl
 have hHg : Hc.get (H1.next + 6) = some (.cells (times [.int .u32 0] cp) (.n 1)) := by rw [hHc]; simp
 rw [← hHc] at kc ⊢
 have hres1 : ∀ k, k ≠ 6 → Hc.get (H1.next + k) = none := fun k hk => by rw [hHc, get_put_ne (by omega)]; exact hres k
 have hac := ha1.keep k1.ok kc
 refine CallD.of (hres1 9 (by omega)) (by simp) (by simp) rfl (up_spec hX (pm := ⟨Hc.next, _, none⟩) ⟨rfl, Nat.le_refl _, kc.ok.wf, kc.ok.new⟩ hac (by omega) (k := by') (by omega)) ?_
 rintro r2 H2 ⟨k2, ds2, hr2, hl2, hv2, hn2⟩
 obtain ⟨a', ha'⟩ : ∃ z, z = strip ds2 := ⟨_, rfl⟩
 rw [← ha'] at hr2
 have hsa' : strip a' = a' := by rw [ha']; exact strip_strip _
 have hla' : Lim a' := by rw [ha']; exact lim_strip hl2
 have hva' : nv a' = nv a * 2 ^ by' := by rw [ha', nv_strip, hv2]
 have halen : a'.length ≤ n + 1 := by
  refine len_of_lt hsa' ?_
  rw [hva', Nat.pow_succ]
  have h1 := nv_lt hla
  rw [← hn] at h1
  have h2 : 2 ^ by' ≤ 4294967296 := Nat.pow_le_pow_right (n := 2) (i := by') (j := 32) (by omega) (by omega)
  exact Nat.lt_of_lt_of_le (Nat.mul_lt_mul_of_pos_right h1 hpb) (Nat.mul_le_mul_left _ h2)
 have ha0 : a' ≠ [] := by
  intro h0
  rw [h0] at hva'
  have h1 := Nat.mul_pos (show 0 < nv a by omega) hpb
  simp [nv] at hva'
  omega
 obtain ⟨rb, rx, rs, rfl, hrg, hrr, hrd⟩ := hr2.block ha0
 obtain ⟨dc, doff, dcap, dy, drow, rfl, hdg, hdr, hdcs⟩ := hrd.parts ha0
 have k2' : Keep ⟨plo, pok, none⟩ Hc H2 := k2.perm rfl kc.ok.lo
 have hres2 : ∀ k, k ≠ 6 → k < 15 → H2.get (H1.next + k) = none := fun k hk hk2 => (k2.get _ (by omega)).trans (hres1 k hk)
 have hcg : H2.get (H1.next + 6) = some (.cells (times [.int .u32 0] cp) (.n 1)) := (k2.get _ (by omega)).trans hHg
 have haH2 : H2.get ab = some ax := (k2.get _ (by omega)).trans ((kc.get ab habl).trans hag)
 have haHc : Hc.get ab = some ax := (kc.get ab habl).trans hag
 have hmayc : Perm.may ⟨plo, pok, some (H1.next + 13)⟩ (H1.next + 6) = true := by
  unfold Perm.may
  have := k1.ok.lo
  have h2 : plo ≤ H1.next + 6 := by simp at this; omega
  simp [h2]
 have hal0 : 0 < a'.length := List.length_pos_iff.2 ha0
 have happ := app_runT (bytes := 4) (off := 0) (len := 0) (cap := cp) (pm := ⟨plo, pok, some (H1.next + 13)⟩) hcg hmayc (u32s_length a') (by omega) (by omega) (by rw [times_u32, u32s_length]; simp; omega) (u32s_one a')
 simp only [Nat.zero_add, List.take_zero, List.nil_append] at happ
 obtain ⟨W, hWe⟩ : ∃ W, W = a' ++ List.replicate (cp - a'.length) 0 := ⟨_, rfl⟩
 have hrow : u32s a' ++ List.drop a'.length (times [.int .u32 0] cp) = u32s W := by
  rw [hWe, times_u32]
  simp [u32s]
 rw [hrow] at happ
 have hrbc : rb ≠ H1.next + 6 := by rintro rfl; rw [hcg] at hrg; cases hrg; rw [rowOf_cells] at hrr; rw [times_u32] at hrr; cases cp with | zero => simp [u32s] at hrr | succ q => simp [u32s, List.replicate_succ] at hrr
 have hptr : ptrs ⟨plo, pok, some (H1.next + 9)⟩ [.pointer (some ⟨ab, 0, none⟩), .int .i64 (by' : Int)] = [] ∨ ptrs ⟨plo, pok, some (H1.next + 9)⟩ [.pointer (some ⟨ab, 0, none⟩), .int .i64 (by' : Int)] = [ab] := by
  simp only [ptrs]
  cases Perm.may ⟨plo, pok, some (H1.next + 9)⟩ ab <;> simp
 have habc : ab ≠ H1.next + 6 := by omega
 have hj0 : ∀ x, disj x [] = true := fun x => by simp [disj]
 have hj1 : ∀ x, disj [] x = true := fun x => rfl
 have hj2 : disj [H1.next + 6] [ab] = true := by simp [disj]; omega
 have hj3 : disj [H1.next + 6] [rb] = true := by simp [disj]; exact fun h => hrbc h.symm
 have hout : ∀ x y, H2.get x = some y → x ≠ H1.next + 6 → (x < H1.next ∨ H1.next + 15 ≤ x) := by
  intro x y hx hne
  rcases Nat.lt_or_ge x H1.next with h | h
  · exact .inl h
  · rcases Nat.lt_or_ge x (H1.next + 15) with h2 | h2
    · exfalso
      have := hres2 (x - H1.next) (by omega) (by omega)
      rw [show H1.next + (x - H1.next) = x by omega, hx] at this
      cases this
    · exact .inr h2
 have hrbO := hout rb rx hrg hrbc
 have hdcc : dc ≠ H1.next + 6 := by
  rintro rfl
  rw [hcg] at hdg
  cases hdg
  rw [rowOf_cells, times_u32] at hdr
  cases hdr
  obtain ⟨_, g1⟩ := getCells_eq hdcs
  have : ∀ d ∈ a', d = 0 := by
   intro d hd
   have h1 : Value.int .u32 (d : Int) ∈ u32s a' := List.mem_map.2 ⟨d, hd, rfl⟩
   rw [g1] at h1
   have h2 := List.mem_of_mem_drop (List.mem_of_mem_take h1)
   obtain ⟨e, he, h3⟩ := List.mem_map.1 h2
   rw [List.eq_of_mem_replicate he] at h3
   simp only [Value.int.injEq, true_and] at h3
   omega
  have h0 := nv_all0 this
  have h1 := Nat.mul_pos (show 0 < nv a by omega) hpb
  omega
 have hdcO := hout dc dy hdg hdcc
 obtain ⟨db, hdB⟩ := hd1.digB (by rintro rfl; simp at hblen)
 have hdbl : db < H1.next := by obtain ⟨_, _, _, _, _, _, h, _⟩ := hdB; exact k1.ok.lt h
 have kf : Keep ⟨plo, pok, none⟩ H (H2.put (H1.next + 6) (.cells (u32s W) (.n 1))) := ((k1.trans kc).trans k2').put (by have := k1.next; omega) hcg _
 have hW0 : nv W = nv a' := by
  rw [hWe, nv_append, nv_all0 (ds := List.replicate _ 0) fun d hd => List.eq_of_mem_replicate hd]; simp
 have hlast : ∀ l : Sl, lk 0 l = some (.pointer (some ⟨ab, 0, none⟩)) → lk 7 l = some bs1 → lk 10 l = some (.int .i64 (by' : Int)) → lk 11 l = some (.slice (some ⟨H1.next + 6, 0, none⟩) a'.length cp) →
   wp X ⟨plo, pok, none⟩ (.code n_Div_k15) l (H2.put (H1.next + 6) (.cells (u32s W) (.n 1))) [] (divPost ⟨plo, pok, none⟩ H a b) := by
  intro l' e0 e7 e10 e11
  refine Div_loop hX kf (c := H1.next + 6) (cb := db) (ab := ab) (n := n) (m := m) (W := W) (b' := b') (vb := bs1) (by have := k1.next; omega) (k1.ok.new _ (by omega)) (by simp) (by rw [hWe]; simp; omega) hcp ?_ (ax := ax) (by rw [get_put_ne habc]; exact haH2) har habc ?_ (by omega) hblen hsb' (by rw [hW0, hva']) hvb' (by omega) la hb0 ?_ halen ?_ ?_ (by omega) ?_ e0 e7 e10 e11
  · intro d hd
    rw [hWe] at hd
    rcases List.mem_append.1 hd with h | h
    · exact hla' d h
    · rw [List.eq_of_mem_replicate h]; omega
  · obtain ⟨g1, go, gc, gy, gr, g2, g3, g4⟩ := hdB
    exact ⟨g1, go, gc, gy, gr, g2, by rw [get_put_ne (by omega), k2.get db (by omega), kc.get db hdbl]; exact g3, g4⟩
  · have := nv_high hsb (by rintro rfl; simp at hm)
    rwa [hm, show m + 2 - 1 = m + 1 by omega] at this
  · intro i hi
    rw [hWe]
    simp only [dg]
    rw [List.getElem?_append_right hi, List.getElem?_replicate]
    split <;> rfl
  · have := k1.ok.lo
    have h2 : plo ≤ H1.next + 6 := by simp at this; omega
    unfold Perm.may
    simp [h2]
  · rw [hn]; exact nv_lt hla
 rcases hptr with hptr | hptr <;> simp [-n_Div_k15, hres2, hrg, hrr, hdg, hdr, hdcs, happ, confFine, madeB, hptr, hj0, hj1, hj2, hj3, Heap.get_put, stable, sameIn, againL, loadOf, hag, har, haHc, haH2, habc, valBeq, cellBeq, habl, hrbO, hdcO]
 · refine hlast _ ?_ ?_ ?_ ?_ <;> simp [l0]
 · refine hlast _ ?_ ?_ ?_ ?_ <;> simp [l0]
theorem Div_spec (hX : NX X) (ho : Ok pm H) {v w : Value} {a b : List Nat} (ha : IsN H v a) (hb : IsN H w b) (hsa : strip a = a) (hsb : strip b = b) (la : a.length < 268435456) (lb : b.length < 268435456) :
  Call X pm F.n_Div [v, w] H fun r H' => Keep pm H H' ∧ (nv b = 0 ∧ r = .tuple #[.pointer none, .pointer none, .bool false] ∨ nv b ≠ 0 ∧ ∃ q m, r = .tuple #[q, m, .bool true] ∧ IsNat H' q (nv a / nv b) ∧ IsNat H' m (nv a % nv b)) := by
 obtain ⟨plo, pok, pnum⟩ := pm
 obtain rfl : pnum = none := ho.num
 have hla := ha.lim
 have hlb := hb.lim
 refine Call.has hX.n_Div rfl ?_
 show wp X _ _ _ _ _ (divPost _ H a b)
 simp [-n_Div_k20]
 refine CallAt.of (by simp) (by simp) (digits_spec hX.n_digits hb) ?_
 rintro vb H ⟨rfl, hdb⟩
 obtain ⟨bb, bc, rfl⟩ := hdb.form
 simp [-n_Div_k20]
 by_cases hb0 : b = []
 · subst hb0
   simp [divPost, nv]
   exact Keep.refl ho
 have hb1 : 0 < b.length := List.length_pos_iff.2 hb0
 have hnb : nv b ≠ 0 := fun h => hb0 ((nv_zero hsb).1 h)
 simp [-n_Div_k20, hb0]
 refine CallAt.of (by simp) (by simp) (Cmp_spec hX ha hb (by omega) (by omega)) ?_
 rintro _ H ⟨rfl, rfl⟩
 simp [-n_Div_k20]
 by_cases hlt : nv a < nv b
 · have : cmpI (nv a) (nv b) = -1 := by simp [cmpI, hlt]
   simp [this]
   refine CallAt.of (by simp) (by simp) (of_spec hX.n_of ho .nil (by simp)) ?_
   rintro r1 H1 ⟨k1, hr1⟩
   simp
   refine CallAt.of (by simp) (by simp) (digits_spec hX.n_digits (ha.keep ho k1)) ?_
   rintro va H1 ⟨rfl, hda⟩
   simp
   refine CallAt.of (by simp) (by simp) (of_spec hX.n_of k1.ok hda (by omega)) ?_
   rintro r2 H2 ⟨k2, hr2⟩
   simp [divPost, hnb]
   refine ⟨k1.trans k2, r1, r2, ⟨rfl, rfl⟩, ?_, ?_⟩
   · rw [Nat.div_eq_of_lt hlt]; exact (hr1.keep k1.ok k2).nat
   · rw [Nat.mod_eq_of_lt hlt]; exact hr2.nat
 have hge : (cmpI (nv a) (nv b) < 0) = False := by
  unfold cmpI
  rw [if_neg hlt]
  split <;> simp
 simp [-n_Div_k20, hge]
 intro _
 have hres : ∀ k, H.get (H.next + k) = none := fun k => ho.wf _ (by omega)
 have hres0 : H.get H.next = none := ho.wf _ (by omega)
 have ha0 : a ≠ [] := by
  rintro rfl
  simp [nv] at hlt
  omega
 refine ⟨fun hl1 => ?_, fun hl1 => ?_⟩
 · -- one digit
   obtain ⟨ab, ax, as, rfl, hag, har, hda⟩ := ha.block ha0
   obtain ⟨cb, offb, yb, rowb, rfl, f1, f2, f3⟩ := hdb.at rfl (i := 0) (by omega)
   have hne : ab ≠ cb := by
    rintro rfl
    rw [hag] at f1
    cases f1
    rw [har] at f2
    cases f2
    rw [Nat.add_zero] at f3
    cases offb with
    | zero => simp at f3; subst f3; rcases hda with ⟨_, ⟨h, _⟩ | ⟨_, _, _, _, _, h, _⟩⟩ <;> cases h
    | succ n => simp at f3
   have l0 := hlb.dg 0
   rw [Nat.add_zero] at f3
   have w0 := hlb.w64 0
   refine DrawAt.of ho.lo rfl ?_
   simp [-n_Div_k20, inOrd, hl1, f1, f2, f3, w0, hres, hres0]
   refine CallD.of (by simp [hres]) (by simp) (by simp) rfl (digits_spec hX.n_digits (H := H.up 12) ha) ?_
   rintro va _ ⟨rfl, hda'⟩
   simp
   have hb1 : nv b = dg b 0 := by rw [← tv_len (ds := b) (i := 1) (by omega)]; simp [tv]
   refine CallD.fixed (by simp [hres]) (by simp) (by simp) rfl (short_spec hX (ho.up 12) hda' (by omega) (y := dg b 0) (by omega) (by omega)) ?_
   rintro _ H2 ⟨k2, q, qs, rfl, hdq, hq1, hq2⟩
   have hrl : nv a % dg b 0 < dg b 0 := Nat.mod_lt _ (by omega)
   generalize hrm : nv a % dg b 0 = rm at *
   simp
   have hres2 : ∀ k, k < 12 → H2.get (H.next + k) = none := fun k hk => (k2.get _ (by simp; omega)).trans (hres k)
   have hcb : cb < H.next := ho.lt f1
   have hdj : ∀ lo okl, disj (ptrs ⟨lo, okl, some (H.next + 5)⟩ [.pointer (some ⟨ab, 0, none⟩)]) [cb] = true := by
    intro lo okl
    simp only [ptrs]
    cases Perm.may ⟨lo, okl, some (H.next + 5)⟩ ab <;> simp [disj, hne]
   have hdj0 : ∀ l, disj l [] = true := fun l => by simp [disj]
   simp [-n_Div_k20, hres2, confFine, madeB, hdj, hdj0, hcb]
   refine CallAt.of (by simp) (by simp) (of_spec hX.n_of k2.ok hdq (by omega)) ?_
   rintro r1 H3 ⟨k3, hr1⟩
   simp
   refine CallAt.of (by simp) (by simp) (Of_spec hX k3.ok (x := rm) (by omega)) ?_
   rintro r2 H4 ⟨k4, hr2⟩
   simp [divPost, hnb]
   refine ⟨(((Keep.refl ho).up 12).trans k2).trans (k3.trans k4), r1, r2, ⟨rfl, rfl⟩, ?_, ?_⟩
   · rw [hb1, ← hq1]; exact (hr1.keep k3.ok k4).nat
   · rw [hb1, hrm, ← nv_Of rm, nv_strip]; exact hr2.nat
 · exact Div_tail hX ho ha hb hsa hsb la lb (by omega) (by omega) hdb (by simp) (by simp) (by simp)
end Go.Dam.C
namespace Go.Dam.C
open Go Go.Dam
variable [Foot]
variable {X : Cx} {pm : Perm} {H H' : Heap}
theorem common_spec (hX : NX X) (ho : Ok pm H) {x y : Nat} (hx : x < 18446744073709551616) (hy : y < 18446744073709551616) :
  Call X pm F.n_common [.int .u64 (x : Int), .int .u64 (y : Int)] H fun r H' => Keep pm H H' ∧ r = .int .u64 ((Nat.gcd x y : Nat) : Int) := by
 refine Call.has hX.n_common rfl ?_
 simp
 refine LoopAt.of (fun s : Nat × Nat => [(0, .int .u64 (s.1 : Int)), (1, .int .u64 (s.2 : Int))]) (fun s H' => Keep pm H H' ∧ s.1 < 18446744073709551616 ∧ s.2 < 18446744073709551616 ∧ Nat.gcd x y = Nat.gcd s.1 s.2) (fun s => s.2) (x, y) (by simp) ⟨Keep.refl ho, hx, hy, rfl⟩ ?_
 rintro ⟨a, b⟩ H1 ⟨k1, ha, hb, hg⟩
 simp only at ha hb hg
 by_cases hb0 : b = 0
 · subst hb0
   simp
   exact ⟨k1, by rw [hg, Nat.gcd_zero_right]⟩
 · have hr := intOp_rem .u64 (a : Int) (b : Int) (by omega)
   have x1 : ((a : Int)).tmod (b : Int) = ((a % b : Nat) : Int) := rfl
   obtain ⟨r, hre⟩ : ∃ r, r = a % b := ⟨_, rfl⟩
   rw [x1, ← hre] at hr
   simp [hb0]
   refine DrawAt.calmI k1.ok rfl rfl rfl ?_
   simp [hr]
   have hrb : r < b := by rw [hre]; exact Nat.mod_lt _ (by omega)
   refine .of (b, r) (by simpa using hrb) (by simp) ⟨k1.up _, hb, by show r < _; omega, ?_⟩
   show Nat.gcd x y = Nat.gcd b r
   rw [hg, hre, Nat.gcd_comm a b, Nat.gcd_rec b a, Nat.gcd_comm]
end Go.Dam.C
namespace Go.Dam.C
open Go Go.Dam
variable {X : Cx} {pm : Perm} {H H' : Heap}
theorem odd_coprime {q : Nat} (z : Nat) : Nat.Coprime (2 ^ z) (2 * q + 1) := by
 apply Nat.Coprime.pow_left
 show Nat.gcd 2 (2 * q + 1) = 1
 rw [Nat.gcd_rec]
 have : (2 * q + 1) % 2 = 1 := by omega
 rw [this]; rfl
end Go.Dam.C
namespace Go.Dam.C
open Go Go.Dam
variable [Foot]
variable {X : Cx} {pm : Perm} {H H' : Heap}
end Go.Dam.C
namespace Go.Dam.C
open Go Go.Dam
variable {X : Cx} {pm : Perm} {H H' : Heap}
theorem gcd_twos {z p q : Nat} : Nat.gcd (2 ^ z * (2 * p + 1)) (2 * q + 1) = Nat.gcd (2 * p + 1) (2 * q + 1) := Nat.Coprime.gcd_mul_left_cancel _ (odd_coprime z)
end Go.Dam.C
namespace Go.Dam.C
open Go Go.Dam
variable [Foot]
variable {X : Cx} {pm : Perm} {H H' : Heap}
end Go.Dam.C
namespace Go.Dam.C
open Go Go.Dam
variable {X : Cx} {pm : Perm} {H H' : Heap}
theorem gcd_both {za zb p q : Nat} : Nat.gcd (2 ^ za * (2 * p + 1)) (2 ^ zb * (2 * q + 1)) = 2 ^ min za zb * Nat.gcd (2 * p + 1) (2 * q + 1) := by
 rcases Nat.le_total za zb with h | h
 · rw [Nat.min_eq_left h]
   have e : 2 ^ zb * (2 * q + 1) = 2 ^ za * (2 ^ (zb - za) * (2 * q + 1)) := by rw [← Nat.mul_assoc, ← Nat.pow_add, show za + (zb - za) = zb by omega]
   rw [e, Nat.gcd_mul_left, Nat.gcd_comm (2 * p + 1), gcd_twos, Nat.gcd_comm]
 · rw [Nat.min_eq_right h]
   have e : 2 ^ za * (2 * p + 1) = 2 ^ zb * (2 ^ (za - zb) * (2 * p + 1)) := by rw [← Nat.mul_assoc, ← Nat.pow_add, show zb + (za - zb) = za by omega]
   rw [e, Nat.gcd_mul_left, gcd_twos]
end Go.Dam.C
namespace Go.Dam.C
open Go Go.Dam
variable [Foot]
variable {X : Cx} {pm : Perm} {H H' : Heap}
theorem IsNat.out {v : Value} {n : Nat} (h : IsNat H v n) : ∃ ds, IsN H v ds ∧ strip ds = ds ∧ nv ds = n := h.ex
end Go.Dam.C
namespace Go.Dam.C
open Go Go.Dam
variable {X : Cx} {pm : Perm} {H H' : Heap}
theorem natLen {n k : Nat} {ds : List Nat} (hs : strip ds = ds) (hn : nv ds = n) (h : n < 4294967296 ^ k) : ds.length ≤ k := len_of_lt hs (by rw [hn]; exact h)
end Go.Dam.C
namespace Go.Dam.C
open Go Go.Dam
variable {X : Cx} {pm : Perm} {H H' : Heap}
/-- Down by all its twos: odd. -/
theorem oddOf {n z q : Nat} (h : n = 2 ^ z * (2 * q + 1)) : n / 2 ^ z = 2 * q + 1 := by rw [h, Nat.mul_div_cancel_left _ (Nat.two_pow_pos z)]
end Go.Dam.C
namespace Go.Dam.C
open Go Go.Dam
variable [Foot]
variable {X : Cx} {pm : Perm} {H H' : Heap}
theorem nat_down (hX : NX X) (ho : Ok pm H) {v : Value} {n z q : Nat} {k : Nat} (h : IsNat H v n) (hn : n < 4294967296 ^ k) (hk : k < 1073741824) (hz : n = 2 ^ z * (2 * q + 1)) (hz2 : z ≤ 34359738368) :
  Call X pm F.n_down [v, .int .i64 (z : Int)] H fun r H' => Keep pm H H' ∧ IsNat H' r (2 * q + 1) := by
 obtain ⟨ds, h1, h2, h3⟩ := h.out
 refine (down_spec hX ho h1 (by have := natLen h2 h3 hn; omega) (k := z) (by omega)).mono ?_
 rintro r H' ⟨k1, es, e1, e2, e3, e4⟩
 refine ⟨k1, ?_⟩
 have : nv es = 2 * q + 1 := by rw [e3, h3, oddOf hz]
 rw [← this]
 exact e1.nat
end Go.Dam.C
namespace Go.Dam.C
open Go Go.Dam
variable {X : Cx} {pm : Perm} {H H' : Heap}
theorem twos_lt {z y p q : Nat} (h : 2 ^ z * (2 * p + 1) = 2 ^ y * (2 * q + 1)) : ¬ z < y := by
 intro hlt
 rw [show y = z + (y - z - 1 + 1) by omega, Nat.pow_add, Nat.mul_assoc] at h
 have := Nat.eq_of_mul_eq_mul_left (Nat.two_pow_pos z) h
 rw [Nat.pow_succ, Nat.mul_comm (2 ^ _) 2, Nat.mul_assoc] at this
 omega
end Go.Dam.C
namespace Go.Dam.C
open Go Go.Dam
variable [Foot]
variable {X : Cx} {pm : Perm} {H H' : Heap}
end Go.Dam.C
namespace Go.Dam.C
open Go Go.Dam
variable {X : Cx} {pm : Perm} {H H' : Heap}
theorem twos_uniq {z y p q : Nat} (h : 2 ^ z * (2 * p + 1) = 2 ^ y * (2 * q + 1)) : z = y ∧ p = q := by
 have h1 := twos_lt h
 have h2 := twos_lt h.symm
 obtain rfl : z = y := by omega
 have := Nat.eq_of_mul_eq_mul_left (Nat.two_pow_pos z) h
 exact ⟨rfl, by omega⟩
end Go.Dam.C
namespace Go.Dam.C
open Go Go.Dam
variable {X : Cx} {pm : Perm} {H H' : Heap}
theorem pow_bits (k : Nat) : (4294967296 : Nat) ^ k = 2 ^ (32 * k) := by rw [show (4294967296 : Nat) = 2 ^ 32 by rfl, ← Nat.pow_mul]
end Go.Dam.C
namespace Go.Dam.C
open Go Go.Dam
variable [Foot]
variable {X : Cx} {pm : Perm} {H H' : Heap}
/-- A function that gives a number. -/
def natPost (pm : Perm) (H : Heap) (t n : Nat) : Post := fun x l H' => (x = Ex.normal ∨ x = Ex.ret) ∧ ∃ vs, resL l H' [.slot t] = some vs ∧ (Keep pm H H' ∧ IsNat H' (tupOf vs) n)
theorem shifts_spec (hX : NX X) (ho : Ok pm H) {v w : Value} {n m k : Nat} (hv : IsNat H v n) (hw : IsNat H w m) (hn : n < 4294967296 ^ k) (hm : m < 4294967296 ^ k) (hk : k < 268435456) (hn0 : n ≠ 0) (hm0 : m ≠ 0) :
  Call X pm F.n_shifts [v, w] H fun r H' => Keep pm H H' ∧ IsNat H' r (Nat.gcd n m) := by
 obtain ⟨a, ha, hsa, hna⟩ := hv.out
 obtain ⟨b, hb, hsb, hnb⟩ := hw.out
 have la := natLen hsa hna hn
 have lb := natLen hsb hnb hm
 refine Call.has hX.n_shifts rfl ?_
 show wp X pm _ _ _ _ (natPost pm H 4 (Nat.gcd n m))
 simp [-n_shifts_k13]
 refine CallAt.of (by simp) (by simp) (Twos_spec hX ha (by omega)) ?_
 rintro _ H ⟨rfl, za, rfl, hza, hz1⟩
 simp [-n_shifts_k13]
 refine CallAt.of (by simp) (by simp) (Twos_spec hX hb (by omega)) ?_
 rintro _ H ⟨rfl, zb, rfl, hzb, hz2⟩
 obtain ⟨p, hp⟩ : ∃ p, n = 2 ^ za * (2 * p + 1) := by
  rcases hz1 with ⟨h, _⟩ | ⟨q, h⟩
  · exact absurd (hna.symm.trans h) hn0
  · exact ⟨q, by rw [← hna]; exact h⟩
 obtain ⟨q, hq⟩ : ∃ q, m = 2 ^ zb * (2 * q + 1) := by
  rcases hz2 with ⟨h, _⟩ | ⟨q, h⟩
  · exact absurd (hnb.symm.trans h) hm0
  · exact ⟨q, by rw [← hnb]; exact h⟩
 obtain ⟨z0, hz0⟩ : ∃ z, z = min za zb := ⟨_, rfl⟩
 have x1 : (if zb < za then (zb : Int) else (za : Int)) = (z0 : Int) := by rw [hz0]; split <;> omega
 simp [-n_shifts_k13, x1]
 refine CallAt.of (by simp) (by simp) (Twos_spec hX ha (by omega)) ?_
 rintro _ H ⟨rfl, za', rfl, hza', hz1'⟩
 obtain ⟨p', hp'⟩ : ∃ p, n = 2 ^ za' * (2 * p + 1) := by
  rcases hz1' with ⟨h, _⟩ | ⟨q, h⟩
  · exact absurd (hna.symm.trans h) hn0
  · exact ⟨q, by rw [← hna]; exact h⟩
 simp [-n_shifts_k13]
 refine CallAt.of (by simp) (by simp) (nat_down hX ho hv hn (by omega) hp' hza') ?_
 rintro v1 H1 ⟨k1, hv1⟩
 simp [-n_shifts_k13]
 refine CallAt.of (by simp) (by simp) (Twos_spec hX (hb.keep ho k1) (by omega)) ?_
 rintro _ H1 ⟨rfl, zb', rfl, hzb', hz2'⟩
 obtain ⟨q', hq'⟩ : ∃ q, m = 2 ^ zb' * (2 * q + 1) := by
  rcases hz2' with ⟨h, _⟩ | ⟨q, h⟩
  · exact absurd (hnb.symm.trans h) hm0
  · exact ⟨q, by rw [← hnb]; exact h⟩
 simp [-n_shifts_k13]
 refine CallAt.of (by simp) (by simp) (nat_down hX k1.ok (hw.keep ho k1) hm (by omega) hq' hzb') ?_
 rintro w1 H2 ⟨k2, hw1⟩
 obtain ⟨rfl, rfl⟩ := twos_uniq (hp.symm.trans hp')
 obtain ⟨rfl, rfl⟩ := twos_uniq (hq.symm.trans hq')
 clear hz1 hz2 hz1' hz2'
 have hpn : 2 * p + 1 ≤ n := by rw [hp]; exact Nat.le_mul_of_pos_left _ (Nat.two_pow_pos _)
 have hz0l : z0 < 8589934592 := by
  have h1 : 2 ^ za ≤ n := by rw [hp]; exact Nat.le_mul_of_pos_right _ (by omega)
  rw [pow_bits] at hn
  have := (Nat.pow_lt_pow_iff_right (by omega : 1 < 2)).1 (Nat.lt_of_le_of_lt h1 hn)
  omega
 have hqm : 2 * q + 1 ≤ m := by rw [hq]; exact Nat.le_mul_of_pos_left _ (Nat.two_pow_pos _)
 simp [-n_shifts_k13]
 refine LoopAt.of (fun s : Value × Value × Nat × Nat => [(0, s.1), (1, s.2.1), (5, .int .i64 (z0 : Int))])
  (fun s H' => Keep pm H H' ∧ IsNat H' s.1 (2 * s.2.2.1 + 1) ∧ IsNat H' s.2.1 (2 * s.2.2.2 + 1) ∧ Nat.gcd n m = 2 ^ z0 * Nat.gcd (2 * s.2.2.1 + 1) (2 * s.2.2.2 + 1) ∧ 2 * s.2.2.1 + 1 < 4294967296 ^ k ∧ 2 * s.2.2.2 + 1 < 4294967296 ^ k) (fun s => s.2.2.1 + s.2.2.2) (v1, w1, p, q) (by simp)
  ⟨k1.trans k2, hv1.keep k1.ok k2, hw1, by simp only; rw [hp, hq, gcd_both, hz0], by simp only; omega, by simp only; omega⟩ ?_
 rintro ⟨v, w, x, y⟩ H3 ⟨k3, hv3, hw3, hg, hxl, hyl⟩
 simp only at hv3 hw3 hg hxl hyl
 obtain ⟨xs, hx1, hx2, hx3⟩ := hv3.out
 obtain ⟨ys, hy1, hy2, hy3⟩ := hw3.out
 have lx := natLen hx2 hx3 hxl
 have ly := natLen hy2 hy3 hyl
 simp [-n_shifts_k13]
 refine CallAt.of (by simp) (by simp) (Cmp_spec hX hx1 hy1 (by omega) (by omega)) ?_
 rintro _ H3 ⟨rfl, rfl⟩
 rw [hx3, hy3]
 -- what is done once the greater one is first
 have key : ∀ (v w : Value) (x y : Nat) (l : Sl) (s0 : Value × Value × Nat × Nat), IsNat H3 v (2 * x + 1) → IsNat H3 w (2 * y + 1) → y < x → Nat.gcd n m = 2 ^ z0 * Nat.gcd (2 * x + 1) (2 * y + 1) → 2 * x + 1 < 4294967296 ^ k → 2 * y + 1 < 4294967296 ^ k → x + y ≤ s0.2.2.1 + s0.2.2.2 →
   lk 0 l = some v → lk 1 l = some w → lk 5 l = some (.int .i64 (z0 : Int)) → wp X pm (.code n_shifts_k13) l H3 [.blk 1] fun x' l' H' => match x' with
    | .normal => Again (fun s : Value × Value × Nat × Nat => [(0, s.1), (1, s.2.1), (5, .int .i64 (z0 : Int))])
      (fun s H' => Keep pm H H' ∧ IsNat H' s.1 (2 * s.2.2.1 + 1) ∧ IsNat H' s.2.1 (2 * s.2.2.2 + 1) ∧ Nat.gcd n m = 2 ^ z0 * Nat.gcd (2 * s.2.2.1 + 1) (2 * s.2.2.2 + 1) ∧ 2 * s.2.2.1 + 1 < 4294967296 ^ k ∧ 2 * s.2.2.2 + 1 < 4294967296 ^ k) (fun s => s.2.2.1 + s.2.2.2) s0 l' H'
    | x' => wp X pm (.res x') l' H' [.blk 0] (natPost pm H 4 (Nat.gcd n m)) := by
  clear hv3 hw3 hg hxl hyl hx1 hx2 hx3 hy1 hy2 hy3 lx ly
  intro v w x y l s0 hv3 hw3 hlt hg hxl hyl hs0 l0 l1 l5
  obtain ⟨xs, hx1, hx2, hx3⟩ := hv3.out
  obtain ⟨ys, hy1, hy2, hy3⟩ := hw3.out
  have lx := natLen hx2 hx3 hxl
  have ly := natLen hy2 hy3 hyl
  simp [l0, l1]
  refine CallAt.of (by simp) (by simp) (Less_spec hX k3.ok hx1 hy1 (by omega) (by omega) hy2) ?_
  rintro _ H4 ⟨k4, ⟨h, _⟩ | ⟨_, r, ds, rfl, hr, hlr, hvr⟩⟩
  · exact absurd h (by omega)
  have hrn := hr.nat
  rw [hvr, hx3, hy3] at hrn
  obtain ⟨d, hd⟩ : ∃ d, d = 2 * x + 1 - (2 * y + 1) := ⟨_, rfl⟩
  rw [← hd] at hrn
  have hd0 : d ≠ 0 := by omega
  obtain ⟨es, he1, he2, he3⟩ := hrn.out
  have hdl : d < 4294967296 ^ k := by omega
  have le := natLen he2 he3 hdl
  simp
  refine CallAt.of (by simp) (by simp) (Twos_spec hX he1 (by omega)) ?_
  rintro _ H4 ⟨rfl, z, rfl, hz, hz1⟩
  obtain ⟨q', hq'⟩ : ∃ q, d = 2 ^ z * (2 * q + 1) := by
   rcases hz1 with ⟨h, _⟩ | ⟨q, h⟩
   · exact absurd (he3.symm.trans h) hd0
   · exact ⟨q, by rw [← he3]; exact h⟩
  have hz0' : z ≠ 0 := by
   rintro rfl
   simp at hq'
   omega
  have hql : 2 * (2 * q' + 1) ≤ d := by
   rw [hq', show z = 1 + (z - 1) by omega, Nat.pow_add, Nat.mul_assoc]
   have := Nat.le_mul_of_pos_left (2 * q' + 1) (Nat.two_pow_pos (z - 1))
   omega
  simp
  refine CallAt.of (by simp) (by simp) (nat_down hX k4.ok hrn hdl (by omega) hq' hz) ?_
  rintro v5 H5 ⟨k5, hv5⟩
  have hw5 := (hw3.keep k3.ok k4).keep k4.ok k5
  have hgq : Nat.gcd (2 * x + 1) (2 * y + 1) = Nat.gcd (2 * q' + 1) (2 * y + 1) := by
   rw [← Nat.gcd_sub_self_left (by omega : 2 * y + 1 ≤ 2 * x + 1), ← hd, hq', gcd_twos]
  rw [hgq] at hg
  obtain ⟨fs, hf1, hf2, hf3⟩ := hv5.out
  obtain ⟨gs, hg1, hg2, hg3⟩ := hw5.out
  have lf := natLen hf2 hf3 (k := k) (by omega)
  have lg := natLen hg2 hg3 (k := k) (by omega)
  obtain ⟨fb, fx, fsl, rfl, hfb, hfr, hfd⟩ := hf1.block (by rintro rfl; simp [nv] at hf3)
  obtain ⟨gb, gx, gsl, rfl, hgb, hgr, hgd⟩ := hg1.block (by rintro rfl; simp [nv] at hg3)
  obtain ⟨fa, fc, rfl⟩ := hfd.form
  obtain ⟨ga, gc, rfl⟩ := hgd.form
  have kk := (k3.trans k4).trans k5
  have hnext : ∀ l' : Sl, lk 0 l' = some (.pointer (some ⟨fb, 0, none⟩)) → lk 1 l' = some (.pointer (some ⟨gb, 0, none⟩)) → lk 5 l' = some (.int .i64 (z0 : Int)) → Again (fun s : Value × Value × Nat × Nat => [(0, s.1), (1, s.2.1), (5, .int .i64 (z0 : Int))])
      (fun s H' => Keep pm H H' ∧ IsNat H' s.1 (2 * s.2.2.1 + 1) ∧ IsNat H' s.2.1 (2 * s.2.2.2 + 1) ∧ Nat.gcd n m = 2 ^ z0 * Nat.gcd (2 * s.2.2.1 + 1) (2 * s.2.2.2 + 1) ∧ 2 * s.2.2.1 + 1 < 4294967296 ^ k ∧ 2 * s.2.2.2 + 1 < 4294967296 ^ k) (fun s => s.2.2.1 + s.2.2.2) s0 l' H5 := by
   intro l' e0 e1 e5
   refine .of (.pointer (some ⟨fb, 0, none⟩), .pointer (some ⟨gb, 0, none⟩), q', y) (by show q' + y < _; omega) (by simp [e0, e1, e5]) ⟨kk, hv5, hw5, hg, by show 2 * q' + 1 < _; omega, hyl⟩
  by_cases hf2' : fs.length ≤ 2
  · by_cases hg2' : gs.length ≤ 2
    · have hf22 : ¬ 2 < fs.length := by omega
      have hg22 : ¬ 2 < gs.length := by omega
      have hfl := nv_lt hfd.1
      have hgl := nv_lt hgd.1
      have hB : (4294967296 : Nat) ^ 2 = 18446744073709551616 := rfl
      have hfl2 : nv fs < 18446744073709551616 := by rw [← hB]; exact Nat.lt_of_lt_of_le hfl (Nat.pow_le_pow_right (by omega) hf2')
      have hgl2 : nv gs < 18446744073709551616 := by rw [← hB]; exact Nat.lt_of_lt_of_le hgl (Nat.pow_le_pow_right (by omega) hg2')
      simp [hfb, hfr, hgb, hgr, hf22, hg22, l1]
      refine CallAt.of (by simp) (by simp) (Word_spec hX hf1 (by omega)) ?_
      rintro _ H5 ⟨rfl, rfl⟩
      simp only [hf2', if_true]
      simp [l1]
      refine CallAt.of (by simp) (by simp) (Word_spec hX hg1 (by omega)) ?_
      rintro _ H5 ⟨rfl, rfl⟩
      simp only [hg2', if_true]
      simp
      refine CallAt.of (by simp) (by simp) (common_spec hX k5.ok (x := nv fs) (y := nv gs) hfl2 hgl2) ?_
      rintro _ H6 ⟨k6, rfl⟩
      have hgl3 : Nat.gcd (nv fs) (nv gs) ≤ nv fs := Nat.gcd_le_left _ (by omega)
      obtain ⟨G, hG⟩ : ∃ G, G = Nat.gcd (nv fs) (nv gs) := ⟨_, rfl⟩
      rw [← hG] at hgl3 ⊢
      simp
      refine CallAt.of (by simp) (by simp) (Of_spec hX k6.ok (x := G) (by omega)) ?_
      rintro r7 H7 ⟨k7, hr7⟩
      simp [l5]
      refine CallAt.of (by simp) (by simp) (up_spec hX k7.ok hr7 (Nat.lt_of_le_of_lt (strip_length _) (by simp)) (k := z0) (by omega)) ?_
      rintro r8 H8 ⟨k8, d8, hr8, _, hv8, _⟩
      simp [natPost]
      refine ⟨kk.trans (k6.trans (k7.trans k8)), ?_⟩
      have : Nat.gcd n m = nv d8 := by rw [hv8, nv_Of, hG, hf3, hg3, hg, Nat.mul_comm]
      rw [this]; exact hr8.nat
    · have hf22 : ¬ 2 < fs.length := by omega
      have hg22 : 2 < gs.length := by omega
      simp [hfb, hfr, hgb, hgr, hf22, hg22, l1]
      refine hnext _ ?_ ?_ ?_ <;> simp [l1, l5]
  · have hf22 : 2 < fs.length := by omega
    simp [hfb, hfr, hf22]
    refine hnext _ ?_ ?_ ?_ <;> simp [l1, l5]
 by_cases heq : 2 * x + 1 = 2 * y + 1
 · have hc : cmpI (2 * x + 1) (2 * y + 1) = 0 := by simp [cmpI, heq]
   simp [hc]
   refine CallAt.of (by simp) (by simp) (up_spec hX k3.ok hx1 (by omega) (k := z0) (by omega)) ?_
   rintro r8 H8 ⟨k8, d8, hr8, _, hv8, _⟩
   simp [natPost]
   refine ⟨k3.trans k8, ?_⟩
   have : Nat.gcd n m = nv d8 := by rw [hv8, hx3, hg, ← heq, Nat.gcd_self, Nat.mul_comm]
   rw [this]; exact hr8.nat
 · by_cases hlt : 2 * x + 1 < 2 * y + 1
   · have hc : cmpI (2 * x + 1) (2 * y + 1) = -1 := by simp [cmpI, hlt]
     simp [-n_shifts_k13, hc]
     refine key w v y x _ (v, w, x, y) hw3 hv3 (by omega) (by rw [hg, Nat.gcd_comm (2 * y + 1)]) hyl hxl (by simp; omega) ?_ ?_ ?_ <;> simp
   · have hc : cmpI (2 * x + 1) (2 * y + 1) = 1 := by unfold cmpI; rw [if_neg hlt, if_neg heq]
     simp [-n_shifts_k13, hc]
     refine key v w x y _ (v, w, x, y) hv3 hw3 (by omega) hg hxl hyl (by simp) ?_ ?_ ?_ <;> simp
end Go.Dam.C
namespace Go.Dam.C
section
open Go Go.Dam
variable [Foot]
variable {X : Cx} {pm : Perm} {H H' : Heap}
theorem Gcd_spec (hX : NX X) (ho : Ok pm H) {v w : Value} {n m k : Nat} (hv : IsNat H v n) (hw : IsNat H w m) (hn : n < 4294967296 ^ k) (hm : m < 4294967296 ^ k) (hk : k < 268435456) :
  Call X pm F.n_Gcd [v, w] H fun r H' => Keep pm H H' ∧ IsNat H' r (Nat.gcd n m) := by
 refine Call.has hX.n_Gcd rfl ?_
 show wp X pm _ _ _ _ (natPost pm H 4 (Nat.gcd n m))
 simp [-n_Gcd_k12]
 refine LoopAt.of (fun s : Value × Value × Nat × Nat => [(5, s.1), (6, s.2.1)]) (fun s H' => Keep pm H H' ∧ IsNat H' s.1 s.2.2.1 ∧ IsNat H' s.2.1 s.2.2.2 ∧ Nat.gcd n m = Nat.gcd s.2.2.1 s.2.2.2 ∧ s.2.2.1 < 4294967296 ^ k ∧ s.2.2.2 < 4294967296 ^ k) (fun s => s.2.2.2) (v, w, n, m) (by simp) ⟨Keep.refl ho, hv, hw, rfl, hn, hm⟩ ?_
 rintro ⟨v, w, x, y⟩ H1 ⟨k1, hv1, hw1, hg, hxl, hyl⟩
 simp only at hv1 hw1 hg hxl hyl
 obtain ⟨xs, hx1, hx2, hx3⟩ := hv1.out
 obtain ⟨ys, hy1, hy2, hy3⟩ := hw1.out
 have lx := natLen hx2 hx3 hxl
 have ly := natLen hy2 hy3 hyl
 simp [-n_Gcd_k12]
 refine CallAt.of (by simp) (by simp) (Word_spec hX hx1 (by omega)) ?_
 rintro _ H1 ⟨rfl, rfl⟩
 have key : ∀ l : Sl, lk 5 l = some v → lk 6 l = some w → wp X pm (.code n_Gcd_k12) l H1 [.blk 1] fun x' l' H' => match x' with
   | .normal => Again (fun s : Value × Value × Nat × Nat => [(5, s.1), (6, s.2.1)]) (fun s H' => Keep pm H H' ∧ IsNat H' s.1 s.2.2.1 ∧ IsNat H' s.2.1 s.2.2.2 ∧ Nat.gcd n m = Nat.gcd s.2.2.1 s.2.2.2 ∧ s.2.2.1 < 4294967296 ^ k ∧ s.2.2.2 < 4294967296 ^ k) (fun s => s.2.2.2) (v, w, x, y) l' H'
   | x' => wp X pm (.res x') l' H' [.blk 0] (natPost pm H 4 (Nat.gcd n m)) := by
  intro l e5 e6
  simp [e6]
  refine CallAt.of (by simp) (by simp) (digits_spec hX.n_digits hy1) ?_
  rintro vb H1 ⟨rfl, hdb⟩
  obtain ⟨bb, bc, rfl⟩ := hdb.form
  by_cases hy0 : ys = []
  · subst hy0
    simp [e5]
    refine CallAt.of (by simp) (by simp) (digits_spec hX.n_digits hx1) ?_
    rintro va H1 ⟨rfl, hda⟩
    simp
    refine CallAt.of (by simp) (by simp) (of_spec hX.n_of k1.ok hda (by omega)) ?_
    rintro r2 H2 ⟨k2, hr2⟩
    simp [natPost]
    refine ⟨k1.trans k2, ?_⟩
    simp [nv] at hy3
    rw [hg, ← hy3, Nat.gcd_zero_right, ← hx3]
    exact hr2.nat
  · have hy0' : 0 < ys.length := List.length_pos_iff.2 hy0
    have hyn : y ≠ 0 := fun h => hy0 ((nv_zero hy2).1 (by rw [hy3, h]))
    simp [hy0, e5]
    refine CallAt.of (by simp) (by simp) (digits_spec hX.n_digits hx1) ?_
    rintro va H1 ⟨rfl, hda⟩
    obtain ⟨ab, ac, rfl⟩ := hda.form
    simp [e6]
    refine CallAt.of (by simp) (by simp) (digits_spec hX.n_digits hy1) ?_
    rintro vb H1 ⟨rfl, hdb⟩
    obtain ⟨bb, bc, rfl⟩ := hdb.form
    by_cases hl : xs.length = ys.length
    · simp [hl, e5, e6]
      have hxn : x ≠ 0 := fun h => by
       have : xs = [] := (nv_zero hx2).1 (by rw [hx3, h])
       rw [this] at hl; simp at hl; omega
      refine CallAt.of (by simp) (by simp) (shifts_spec hX k1.ok hv1 hw1 hxl hyl hk hxn hyn) ?_
      rintro r2 H2 ⟨k2, hr2⟩
      simp [natPost]
      exact ⟨k1.trans k2, by rw [hg]; exact hr2⟩
    · have hl' : ¬ ((xs.length : Int) = (ys.length : Int)) := by omega
      simp [e5, e6]
      refine ⟨fun _ => ?_, fun h => absurd h hl'⟩
      refine CallAt.of (by simp) (by simp) (Div_spec hX k1.ok hx1 hy1 hx2 hy2 (by omega) (by omega)) ?_
      rintro _ H2 ⟨k2, ⟨h, _⟩ | ⟨_, q, r, rfl, hq, hr⟩⟩
      · exact absurd (hy3.symm.trans h) hyn
      rw [hx3, hy3] at hr
      have hlt : x % y < y := Nat.mod_lt _ (by omega)
      simp [e6]
      refine .of (w, r, y, x % y) (by simpa using hlt) (by simp) ⟨k1.trans k2, hw1.keep k1.ok k2, hr, ?_, hyl, by show x % y < _; omega⟩
      show Nat.gcd n m = Nat.gcd y (x % y)
      rw [hg, Nat.gcd_comm x y, Nat.gcd_rec y x, Nat.gcd_comm]
 by_cases h1 : xs.length ≤ 2
 · simp only [h1, if_true]
   simp [-n_Gcd_k12]
   refine CallAt.of (by simp) (by simp) (Word_spec hX hy1 (by omega)) ?_
   rintro _ H1 ⟨rfl, rfl⟩
   by_cases h2 : ys.length ≤ 2
   · simp only [h2, if_true]
     simp [-n_Gcd_k12]
     have hB : (4294967296 : Nat) ^ 2 = 18446744073709551616 := rfl
     have hfl2 : nv xs < 18446744073709551616 := by rw [← hB]; exact Nat.lt_of_lt_of_le (nv_lt hx1.lim) (Nat.pow_le_pow_right (by omega) h1)
     have hgl2 : nv ys < 18446744073709551616 := by rw [← hB]; exact Nat.lt_of_lt_of_le (nv_lt hy1.lim) (Nat.pow_le_pow_right (by omega) h2)
     refine CallAt.of (by simp) (by simp) (common_spec hX k1.ok (x := nv xs) (y := nv ys) hfl2 hgl2) ?_
     rintro _ H6 ⟨k6, rfl⟩
     have hgl3 : Nat.gcd (nv xs) (nv ys) < 18446744073709551616 := by
      rcases Nat.eq_zero_or_pos (nv xs) with h | h
      · rw [h, Nat.gcd_zero_left]; exact hgl2
      · exact Nat.lt_of_le_of_lt (Nat.gcd_le_left _ h) hfl2
     obtain ⟨G, hG⟩ : ∃ G, G = Nat.gcd (nv xs) (nv ys) := ⟨_, rfl⟩
     rw [← hG] at hgl3 ⊢
     simp [-n_Gcd_k12]
     refine CallAt.of (by simp) (by simp) (Of_spec hX k6.ok (x := G) (by omega)) ?_
     rintro r7 H7 ⟨k7, hr7⟩
     simp [natPost]
     refine ⟨k1.trans (k6.trans k7), ?_⟩
     have : Nat.gcd n m = nv [G % 4294967296, G / 4294967296] := by rw [← nv_strip, nv_Of, hG, hx3, hy3, hg]
     rw [this]; exact hr7.nat
   · simp only [h2, if_false]
     simp [-n_Gcd_k12]
     refine key _ ?_ ?_ <;> simp
 · simp only [h1, if_false]
   simp [-n_Gcd_k12]
   refine CallAt.of (by simp) (by simp) (Word_spec hX hy1 (by omega)) ?_
   rintro _ H1 ⟨rfl, rfl⟩
   by_cases h2 : ys.length ≤ 2
   · simp only [h2, if_true]
     simp [-n_Gcd_k12]
     refine key _ ?_ ?_ <;> simp
   · simp only [h2, if_false]
     simp [-n_Gcd_k12]
     refine key _ ?_ ?_ <;> simp
end
end Go.Dam.C
