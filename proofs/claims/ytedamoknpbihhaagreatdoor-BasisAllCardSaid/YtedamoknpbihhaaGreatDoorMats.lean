/- The matrices of the program; the law at the abstract memory. -/
import Derived.Test.YtedamoknpbihhaaGreatDoorBas
namespace Go.Dam.C
section
open Go Go.Dam
/-! ## Steps of an elimination, as they are reckoned -/
def clr (A : Nat → Nat → Rat) (at' col : Nat) (i k : Nat) : Rat := if i = at' then A at' k / A at' col else A i k - A i col * (A at' k / A at' col)
def swp (A : Nat → Nat → Rat) (a b : Nat) (i : Nat) : Nat → Rat := if i = a then A b else if i = b then A a else A i
/-- The first row from one on that isn't 0 in a column: how far behind. -/
def find (A : Nat → Nat → Rat) (col : Nat) : Nat → Nat → Option Nat
 | _, 0 => none
 | at', n + 1 => if A at' col ≠ 0 then some 0 else (find A col (at' + 1) n).map (· + 1)
/-- From a column on: the rows behind it, how many have a step. -/
def red (A : Nat → Nat → Rat) (R : Nat) : Nat → Nat → Nat → (Nat → Nat → Rat) × Nat
 | _, at', 0 => (A, at')
 | col, at', c + 1 => if at' < R then (match find A col at' (R - at') with
   | none => red A R (col + 1) at' c
   | some i => red (clr (swp A at' (at' + i)) at' col) R (col + 1) (at' + 1) c) else (A, at')
theorem find_some {A : Nat → Nat → Rat} {col : Nat} : ∀ {n at' i : Nat}, find A col at' n = some i → i < n ∧ A (at' + i) col ≠ 0
 | 0, _, _, h => by cases h
 | n + 1, at', i, h => by
   rw [find] at h
   split at h
   · cases h; exact ⟨by omega, by assumption⟩
   · cases hf : find A col (at' + 1) n with
     | none => rw [hf] at h; cases h
     | some j =>
       rw [hf] at h
       simp only [Option.map_some, Option.some.injEq] at h
       subst h
       obtain ⟨h1, h2⟩ := find_some hf
       exact ⟨by omega, by rw [show at' + (j + 1) = at' + 1 + j by omega]; exact h2⟩
theorem find_none {A : Nat → Nat → Rat} {col : Nat} : ∀ {n at' : Nat}, find A col at' n = none → ∀ i, i < n → A (at' + i) col = 0
 | 0, _, _, i, hi => by omega
 | n + 1, at', h, i, hi => by
   rw [find] at h
   split at h
   · cases h
   · rename_i h0
     cases hf : find A col (at' + 1) n with
     | some j => rw [hf] at h; cases h
     | none =>
       cases i with
       | zero => exact Classical.byContradiction h0
       | succ i =>
         have := find_none hf i (by omega)
         rw [show at' + (i + 1) = at' + 1 + i by omega]; exact this
/-! ### What an elimination keeps: the solutions -/
/-- z solves the first R rows (W columns). -/
def Sol (A : Nat → Nat → Rat) (R W : Nat) (z : Nat → Rat) : Prop := ∀ i, i < R → sumTo (fun k => A i k * z k) W = 0
theorem sum_congr {f g : Nat → Rat} {n : Nat} (h : ∀ i, i < n → f i = g i) : sumTo f n = sumTo g n := by
 induction n with
 | zero => rfl
 | succ n ih => rw [sumTo, sumTo, ih fun i hi => h i (by omega), h n (by omega)]
theorem sum_add (f g : Nat → Rat) (n : Nat) : sumTo (fun i => f i + g i) n = sumTo f n + sumTo g n := by
 induction n with
 | zero => exact (Rat.add_zero 0).symm
 | succ n ih => simp only [sumTo, ih]; grind
theorem sum_mul (c : Rat) (f : Nat → Rat) (n : Nat) : sumTo (fun i => c * f i) n = c * sumTo f n := by
 induction n with
 | zero => exact (Rat.mul_zero c).symm
 | succ n ih => simp only [sumTo, ih]; grind
theorem sum_swap (f : Nat → Nat → Rat) (n m : Nat) : sumTo (fun i => sumTo (fun k => f i k) m) n = sumTo (fun k => sumTo (fun i => f i k) n) m := by
 induction n with
 | zero =>
   induction m with
   | zero => rfl
   | succ m ih => simp only [sumTo] at ih ⊢; rw [← ih]; exact (Rat.add_zero 0).symm
 | succ n ih => simp only [sumTo, ih]; rw [← sum_add]
theorem clr_row {A : Nat → Nat → Rat} {at' col W : Nat} (i : Nat) (hi : i ≠ at') (z : Nat → Rat) : sumTo (fun k => clr A at' col i k * z k) W = sumTo (fun k => A i k * z k) W - A i col / A at' col * sumTo (fun k => A at' k * z k) W := by
 have e : ∀ x y : Rat, x - y = x + (-1) * y := fun x y => by grind
 rw [← sum_mul, e, ← sum_mul, ← sum_add]
 refine sum_congr fun k _ => ?_
 simp only [clr, hi, if_false]
 grind
theorem clr_at {A : Nat → Nat → Rat} {at' col W : Nat} (z : Nat → Rat) : sumTo (fun k => clr A at' col at' k * z k) W = 1 / A at' col * sumTo (fun k => A at' k * z k) W := by
 rw [← sum_mul]
 refine sum_congr fun k _ => ?_
 simp only [clr, if_true]
 grind
theorem Sol.clr {A : Nat → Nat → Rat} {at' col R W : Nat} (hat : at' < R) (h0 : A at' col ≠ 0) (z : Nat → Rat) : Sol (clr A at' col) R W z ↔ Sol A R W z := by
 constructor
 · intro h
   have ha : sumTo (fun k => A at' k * z k) W = 0 := by
    have := h at' hat
    rw [clr_at] at this
    grind
   intro i hi
   by_cases hia : i = at'
   · rw [hia]; exact ha
   · have := h i hi
     rw [clr_row i hia, ha, Rat.mul_zero] at this
     grind
 · intro h i hi
   by_cases hia : i = at'
   · rw [hia, clr_at, h at' hat, Rat.mul_zero]
   · rw [clr_row i hia, h i hi, h at' hat, Rat.mul_zero, Rat.sub_self]
theorem Sol.swp {A : Nat → Nat → Rat} {a b R W : Nat} (ha : a < R) (hb : b < R) (z : Nat → Rat) : Sol (swp A a b) R W z ↔ Sol A R W z := by
 have key : ∀ B : Nat → Nat → Rat, Sol B R W z → Sol (C.swp B a b) R W z := by
  intro B h i hi
  unfold C.swp
  split
  · exact h b hb
  · split
    · exact h a ha
    · exact h i hi
 refine ⟨fun h => ?_, key A⟩
 have := key _ h
 intro i hi
 have h2 := this i hi
 have : C.swp (C.swp A a b) a b i = A i := by
  unfold C.swp
  by_cases h1 : i = a
  · subst h1
    by_cases h2 : b = i
    · subst h2; simp
    · simp [h2]
  · by_cases h2 : i = b
    · subst h2; simp [h1]
    · simp [h1, h2]
 rwa [this] at h2
/-- The first columns are those of the unit matrix. -/
def Steps (A : Nat → Nat → Rat) (R c : Nat) : Prop := ∀ i k, i < R → k < c → A i k = if i = k then 1 else 0
theorem Steps.step {A : Nat → Nat → Rat} {R c b : Nat} (h : Steps A R c) (hc : c < R) (hb : c ≤ b) (hbR : b < R) (h0 : A b c ≠ 0) : Steps (clr (swp A c b) c c) R (c + 1) := by
 have hs : ∀ i k, i < R → k < c → swp A c b i k = if i = k then 1 else 0 := by
  intro i k hi hk
  unfold swp
  split
  · rw [h b k hbR hk]; rename_i h1; rw [if_neg (by omega), if_neg (by omega)]
  · split
    · rw [h c k hc hk]; rename_i h1; rw [if_neg (by omega), if_neg (by omega)]
    · exact h i k hi hk
 have hcc : swp A c b c c = A b c := by simp [swp]
 intro i k hi hk
 unfold clr
 by_cases hkc : k = c
 · subst hkc
   by_cases hik : i = k
   · subst hik
     rw [if_pos rfl, if_pos rfl, hcc]
     rw [Rat.div_def, Rat.mul_inv_cancel _ h0]
   · rw [if_neg hik, if_neg hik, hcc, Rat.div_def, Rat.mul_inv_cancel _ h0, Rat.mul_one, Rat.sub_self]
 · have hk' : k < c := by omega
   have e0 : swp A c b c k = 0 := by rw [hs c k hc hk', if_neg (by omega)]
   by_cases hic : i = c
   · rw [if_pos hic, e0, if_neg (by omega)]
     simp [Rat.div_def, Rat.zero_mul]
   · rw [if_neg hic, e0, hs i k hi hk']
     simp [Rat.div_def, Rat.zero_mul, Rat.mul_zero, Rat.sub_eq_add_neg, Rat.add_zero]
end
section
open Go Go.Dam
theorem sum_zero {f : Nat → Rat} {n : Nat} (h : ∀ t, t < n → f t = 0) : sumTo f n = 0 := by
 induction n with
 | zero => rfl
 | succ n ih => rw [sumTo, ih fun t ht => h t (by omega), h n (by omega), Rat.add_zero]
theorem sum_one {f : Nat → Rat} {n i : Nat} {c : Rat} (hi : i < n) (h1 : f i = c) (h : ∀ t, t < n → t ≠ i → f t = 0) : sumTo f n = c := by
 induction n with
 | zero => omega
 | succ n ih =>
   rw [sumTo]
   by_cases hin : i = n
   · subst hin
     rw [sum_zero fun t ht => h t (by omega) (by omega), h1, Rat.zero_add]
   · rw [ih (by omega) fun t ht hti => h t (by omega) hti, h n (by omega) (by omega), Rat.add_zero]
theorem szs_le {k : Nat} : ∀ {j n : Nat}, j ≤ n → szs k j ≤ szs k n
 | j, 0, h => by obtain rfl : j = 0 := by omega
                 exact Nat.le_refl _
 | j, n + 1, h => by
   by_cases hj : j = n + 1
   · subst hj; exact Nat.le_refl _
   · have := szs_le (k := k) (j := j) (n := n) (by omega)
     rw [szs]; omega
theorem sum_tail {f : Nat → Rat} {m : Nat} : ∀ {n : Nat}, m ≤ n → (∀ k, m ≤ k → k < n → f k = 0) → sumTo f n = sumTo f m
 | 0, h, _ => by obtain rfl : m = 0 := by omega
                 rfl
 | n + 1, h, g => by
   by_cases hm : m = n + 1
   · subst hm; rfl
   · rw [sumTo, sum_tail (by omega) fun k a b => g k a (by omega), g n (by omega) (by omega), Rat.add_zero]
theorem red_le {R : Nat} : ∀ {c : Nat} {A : Nat → Nat → Rat} {col at' : Nat}, (red A R col at' c).2 ≤ at' + c
 | 0, _, _, _ => by rw [red]; exact Nat.le_refl _
 | c + 1, A, col, at' => by
   rw [red]
   split
   · split
     · have := @red_le R c A (col + 1) at'; omega
     · rename_i i _
       have := @red_le R c (clr (swp A at' (at' + i)) at' col) (col + 1) (at' + 1); omega
   · show at' ≤ _; omega
theorem red_spec {n : Nat} : ∀ {c col : Nat} {A : Nat → Nat → Rat}, col + c = n → Steps A n col →
  ((red A n col col c).2 = n ∧ Steps (red A n col col c).1 n n ∧ ∀ W z, Sol (red A n col col c).1 n W z ↔ Sol A n W z) ∨ ((red A n col col c).2 < n ∧ ∃ z, Sol A n n z ∧ ∃ i, i < n ∧ z i ≠ 0)
 | 0, col, A, hc, hs => by
   obtain rfl : col = n := by omega
   exact .inl ⟨rfl, hs, fun _ _ => Iff.rfl⟩
 | c + 1, col, A, hc, hs => by
   have hcn : col < n := by omega
   rw [red, if_pos hcn]
   cases hf : find A col col (n - col) with
   | none =>
     right
     simp only
     refine ⟨by have := @red_le n c A (col + 1) col; omega, fun k => if k < col then A k col else if k = col then -1 else 0, fun i hi => ?_, col, hcn, by simp; decide⟩
     rw [sum_tail (m := col + 1) (by omega) fun k h1 h2 => by simp only; rw [if_neg (by omega), if_neg (by omega), Rat.mul_zero], sumTo]
     simp only [Nat.lt_irrefl, if_false, if_true]
     by_cases hic : i < col
     · rw [sum_one (i := i) (c := A i col) hic (by rw [hs i i hi hic, if_pos rfl, if_pos hic, Rat.one_mul]) fun t ht hti => by rw [hs i t hi ht, if_neg (fun e => hti e.symm), Rat.zero_mul]]
       grind
     · rw [sum_zero fun t ht => by rw [hs i t hi ht, if_neg (by omega), Rat.zero_mul]]
       have := find_none hf (i - col) (by omega)
       rw [show col + (i - col) = i by omega] at this
       rw [this]
       grind
   | some j =>
     simp only
     obtain ⟨h1, h2⟩ := find_some hf
     have hs' := hs.step hcn (b := col + j) (by omega) (by omega) h2
     have hne : swp A col (col + j) col col ≠ 0 := by simpa [swp] using h2
     have hsol : ∀ W z, Sol (clr (swp A col (col + j)) col col) n W z ↔ Sol A n W z := fun W z => (Sol.clr hcn hne z).trans (Sol.swp hcn (by omega) z)
     rcases red_spec (c := c) (col := col + 1) (by omega) hs' with ⟨r1, r2, r3⟩ | ⟨r1, z, r2, r3⟩
     · exact .inl ⟨r1, r2, fun W z => (r3 W z).trans (hsol W z)⟩
     · exact .inr ⟨r1, z, (hsol n z).1 r2, r3⟩
/-- So big the entries get. -/
def gz : Nat → Nat → Nat
 | k, 0 => k
 | k, c + 1 => gz (8 * k + 1) c
theorem gz_mono : ∀ {c k : Nat}, k ≤ gz k c
 | 0, _ => Nat.le_refl _
 | c + 1, k => by rw [gz]; have := @gz_mono c (8 * k + 1); omega
theorem gz_le : ∀ {c k j : Nat}, k ≤ j → gz k c ≤ gz j c
 | 0, _, _, h => h
 | c + 1, k, j, h => by rw [gz, gz]; exact gz_le (by omega)
theorem clr_sz {A : Nat → Nat → Rat} {at' col k R W : Nat} (hat : at' < R) (hcol : col < W) (h0 : A at' col ≠ 0) (s : ∀ i j, i < R → j < W → sz (A i j) k) : ∀ i j, i < R → j < W → sz (clr A at' col i j) (8 * k + 1) := by
 intro i j hi hj
 unfold clr
 split
 · exact sz_mono (sz_div (s _ _ hat hj) (s _ _ hat hcol) h0) (by omega)
 · exact sz_mono (sz_sub (k := 2 * (2 * k)) (sz_mono (s i j hi hj) (by omega)) (sz_mul (sz_mono (s i col hi hcol) (by omega)) (sz_div (s _ _ hat hj) (s _ _ hat hcol) h0))) (by omega)
theorem swp_sz {A : Nat → Nat → Rat} {a b k R W : Nat} (ha : a < R) (hb : b < R) (s : ∀ i j, i < R → j < W → sz (A i j) k) : ∀ i j, i < R → j < W → sz (swp A a b i j) k := by
 intro i j hi hj
 unfold swp
 split
 · exact s b j hb hj
 · split
   · exact s a j ha hj
   · exact s i j hi hj
theorem red_sz {R W : Nat} : ∀ {c k col at' : Nat} {A : Nat → Nat → Rat}, col + c ≤ W → (∀ i j, i < R → j < W → sz (A i j) k) → ∀ i j, i < R → j < W → sz ((red A R col at' c).1 i j) (gz k c)
 | 0, _, _, _, _, _, s => by rw [red]; exact s
 | c + 1, k, col, at', A, hc, s => by
   rw [red]
   split
   · split
     · exact fun i j hi hj => sz_mono (red_sz (by omega) s i j hi hj) (by rw [gz]; exact gz_le (by omega))
     · rename_i hat _ i hf
       obtain ⟨h1, h2⟩ := find_some hf
       rw [gz]
       exact red_sz (by omega) (clr_sz hat (by omega) (by simpa [swp] using h2) (swp_sz hat (by omega) s))
   · exact fun i j hi hj => sz_mono (s i j hi hj) gz_mono
/-! ### A matrix and its inverse -/
/-- B C is the unit matrix. -/
def InvM (B C : Nat → Nat → Rat) (n : Nat) : Prop := ∀ i j, i < n → j < n → sumTo (fun t => B i t * C t j) n = if i = j then 1 else 0
theorem InvM.kern {B C : Nat → Nat → Rat} {n : Nat} (h : InvM B C n) {z y : Nat → Rat} (hz : ∀ i, i < n → sumTo (fun k => C i k * z k) n = y i) : ∀ i, i < n → z i = sumTo (fun t => B i t * y t) n := by
 intro i hi
 have e1 : sumTo (fun t => B i t * y t) n = sumTo (fun t => sumTo (fun k => B i t * C t k * z k) n) n := sum_congr fun t ht => by
  rw [← hz t ht, ← sum_mul]
  exact sum_congr fun k _ => by grind
 rw [e1, sum_swap, sum_one (i := i) (c := z i) hi]
 · have : sumTo (fun t => B i t * C t i * z i) n = z i * sumTo (fun t => B i t * C t i) n := by
    rw [← sum_mul]; exact sum_congr fun t _ => by grind
   rw [this, h i i hi hi, if_pos rfl, Rat.mul_one]
 · intro k hk hki
   have : sumTo (fun t => B i t * C t k * z k) n = z k * sumTo (fun t => B i t * C t k) n := by
    rw [← sum_mul]; exact sum_congr fun t _ => by grind
   rw [this, h i k hi hk, if_neg (fun e => hki e.symm), Rat.mul_zero]
/-- A matrix that has an inverse has full rank. -/
theorem InvM.full {B C : Nat → Nat → Rat} {n : Nat} (h : InvM B C n) {A : Nat → Nat → Rat} (hA : ∀ i k, i < n → k < n → A i k = C i k) :
  (red A n 0 0 n).2 = n ∧ Steps (red A n 0 0 n).1 n n ∧ ∀ W z, Sol (red A n 0 0 n).1 n W z ↔ Sol A n W z := by
 rcases red_spec (A := A) (c := n) (col := 0) (Nat.zero_add n) (fun _ _ _ hk => absurd hk (Nat.not_lt_zero _)) with q | ⟨_, z, hz, i, hi, hzi⟩
 · exact q
 · have := h.kern (z := z) (y := fun _ => 0) (fun i hi => by rw [← hz i hi]; exact sum_congr fun k hk => by rw [hA i k hi hk]) i hi
   rw [sum_zero fun t _ => Rat.mul_zero _] at this
   exact absurd this hzi
/-- What is solved: the last column. -/
theorem InvM.solve {B C : Nat → Nat → Rat} {n : Nat} (h : InvM B C n) {A : Nat → Nat → Rat} {y : Nat → Rat} (hA : ∀ i k, i < n → k < n → A i k = C i k) (hy : ∀ i, i < n → A i n = y i) :
  ∀ i, i < n → (red A n 0 0 n).1 i n = sumTo (fun t => B i t * y t) n := by
 obtain ⟨_, h2, h3⟩ := h.full hA
 intro i hi
 have hs : Sol (red A n 0 0 n).1 n (n + 1) (fun k => if k < n then (red A n 0 0 n).1 k n else -1) := by
  intro j hj
  rw [sumTo]
  simp only [Nat.lt_irrefl, if_false]
  rw [sum_one (i := j) (c := (red A n 0 0 n).1 j n) hj (by rw [h2 j j hj hj, if_pos rfl, if_pos hj, Rat.one_mul]) fun t ht htj => by rw [h2 j t hj ht, if_neg (fun e => htj e.symm), Rat.zero_mul]]
  grind
 rw [h3] at hs
 have := h.kern (z := fun k => if k < n then (red A n 0 0 n).1 k n else -1) (y := y) (fun j hj => by
  have := hs j hj
  rw [sumTo] at this
  simp only [Nat.lt_irrefl, if_false] at this
  rw [hy j hj] at this
  rw [sum_congr (g := fun k => A j k * if k < n then (red A n 0 0 n).1 k n else -1) fun k hk => by rw [hA j k hj hk]]
  grind) i hi
 rw [if_pos hi] at this
 exact this
end
section
open Go Go.Dam
structure MX (X : Cx) : Prop extends LX X where
 m_New : Has X F.m_New C.m_New
 m_Rank : Has X F.m_Rank C.m_Rank
 m_Rank1 : Has X F.m_Rank1 C.m_Rank1
 m_Solve : Has X F.m_Solve C.m_Solve
 m_Solve1 : Has X F.m_Solve1 C.m_Solve1
 m_Turn : Has X F.m_Turn C.m_Turn
 m_Size : Has X F.m_Size C.m_Size
 m_reduced : Has X F.m_reduced C.m_reduced
 m_reduced1 : Has X F.m_reduced1 C.m_reduced1
 m_copied : Has X F.m_copied C.m_copied
 m_cleared : Has X F.m_cleared C.m_cleared
 s_Index : Has X F.s_Index C.s_Index
 a_Turned : Has X F.a_Turned C.a_Turned
theorem disj_nil_r (l : List Nat) : disj l [] = true := by simp [disj]
variable [Foot]
variable {X : Cx} {pm : Perm} {H H' H'' : Heap}
theorem disj_fr {p q : Value} {a b : Rat} {c : Nat} {y : Blk} (h1 : IsFrac H p a) (h2 : IsFrac H q b) (hy : H.get c = some y) (hn : ∀ u pn pd, ¬ RowT y [.bool u, pn, pd]) (m : Perm) : disj (ptrs m [p, q]) [c] = true := disj_ptrs fun z hz => by
 rcases List.mem_cons.1 hz with e | hz
 · exact h1.ne hy hn z e.symm
 · rcases List.mem_cons.1 hz with e | hz
   · exact h2.ne hy hn z e.symm
   · cases hz
/-- Behind a call without result. -/
def EPost (P : Heap → Prop) : Post := fun z l H' => (z = Ex.normal ∨ z = Ex.ret) ∧ ∃ vs, resL l H' [] = some vs ∧ P H'
theorem cleared_elim (hX : MX X) {H0 : Heap} {v : Value} {c R W at' col k : Nat} {rb : Nat → Nat} {A : Nat → Nat → Rat} (u0 : Upd pm (fun b => ∃ i, i < R ∧ b = rb i) H0 H) (h : MRow H v c rb R W (fun a d => if a = at' then clr A at' col a d else A a d)) (hR : R ≤ 440) (hW : W ≤ 441) (hat : at' < R) (hcol : col < W)
  (hmay : ∀ i, i < R → pm.may (rb i) = true) (sA : ∀ i j, i < R → j < W → sz (A i j) k) (hk : k < 8388608) (h0 : A at' col ≠ 0) {L : Sl} (l0 : lk 0 L = some v) (l1 : lk 1 L = some (.int .i64 (at' : Int))) (l2 : lk 2 L = some (.int .i64 (col : Int))) :
  wp X pm (.code m_cleared_k18) L H [] (EPost fun H' => Upd pm (fun b => ∃ i, i < R ∧ b = rb i) H0 H' ∧ MRow H' v c rb R W (clr A at' col)) := by
 have ho := u0.ok
 obtain ⟨plo, pok, pnum⟩ := pm
 obtain rfl : pnum = none := ho.num
 have hmay' : ∀ o i, i < R → Perm.may ⟨plo, pok, o⟩ (rb i) = true := fun o i hi => hmay i hi
 obtain ⟨cap, ss, rfl, hgc, hlc, hcc, hrc⟩ := h.ex
 have vat : ∀ d, clr A at' col at' d = A at' d / A at' col := fun d => by simp [clr]
 have sat : ∀ d, d < W → sz (A at' d / A at' col) (2 * k) := fun d hd => sz_div (sA at' d hat hd) (sA at' col hat hcol) h0
 simp [l0, -m_cleared_b16]
 refine LoopAt.of (fun i : Nat => [(0, .slice (some ⟨c, 0, none⟩) R cap), (1, .int .i64 (at' : Int)), (2, .int .i64 (col : Int)), (46, .int .i64 (R : Int)), (47, .int .i64 (i : Int))])
  (fun i H' => Upd ⟨plo, pok, none⟩ (fun b => ∃ i, i < R ∧ b = rb i) H H' ∧ i ≤ R ∧ MRow H' (.slice (some ⟨c, 0, none⟩) R cap) c rb R W (fun a d => if a < i ∨ a = at' then clr A at' col a d else A a d)) (fun i => R - i) 0 (by simp [l0, l1, l2]) ⟨.refl ho, by simp, h.congr fun a d ha hd => by simp⟩ ?_
 rintro i H1 ⟨u1, hi, hm1⟩
 by_cases hin : i < R
 · obtain ⟨_, ss1, e1, hg1, hls1, _, hr1⟩ := id hm1.ex
   obtain ⟨s1, s1a, s1b⟩ := hr1 i hin
   obtain ⟨cap1, ps1, rfl, hgr1, hlr1, _, _, hfr1⟩ := id s1b.parts
   obtain ⟨pt, pt1, pt2⟩ := hfr1 col hcol
   have w1 : wr .i64 ((i : Int) + 1) = ((i + 1 : Nat) : Int) := by rw [wr_i64 (by omega) (by omega)]; simp
   simp [hin, hg1, s1a, hcol, hgr1, pt1, -m_cleared_k9]
   by_cases hia : i = at'
   · subst hia
     simp [-m_cleared_k9]
     refine CallAt.not (by simp) ?_
     simp [w1]
     refine .of (i + 1) (by show R - (i + 1) < R - i; omega) (by simp) ⟨u1, by omega, hm1.congr fun a d ha hd => ?_⟩
     by_cases h1 : a < i
     · simp [h1, show a < i + 1 by omega]
     · by_cases h2 : a = i
       · simp [h2]
       · simp [h1, h2, show ¬ a < i + 1 by omega]
   · have hia2 : ((i : Int) == (at' : Int)) = false := by simp; omega
     simp [hia2, -m_cleared_k9]
     have vt : (if i < i ∨ i = at' then clr A at' col i col else A i col) = A i col := by simp [hia]
     rw [vt] at pt2
     refine CallAt.of (by simp) (by simp) (Sign0_spec hX.toNX u1.ok pt2 (sA i col hin hcol) (by omega)) ?_
     rintro _ H2 ⟨k2, sv, rfl, hsv⟩
     have u2 := u1.trans k2.upd
     have hm2 := hm1.keep u1.ok k2
     have pt2' := pt2.keep u1.ok k2
     by_cases hx0 : A i col = 0
     · simp [hsv, hx0, w1, -m_cleared_k9]
       refine .of (i + 1) (by show R - (i + 1) < R - i; omega) (by simp) ⟨u2, by omega, hm2.congr fun a d ha hd => ?_⟩
       by_cases h1 : a < i
       · simp [h1, show a < i + 1 by omega]
       · by_cases h2 : a = i
         · subst h2; simp [clr, hia, hx0, Rat.zero_mul, Rat.sub_eq_add_neg, Rat.add_zero]
         · simp [h1, show ¬ a < i + 1 by omega]
     · have hg1' := k2.some u1.ok hg1
       simp [hsv, hx0, hin, hg1', s1a, -m_cleared_b7]
       refine LoopAt.of (fun d : Nat => [(0, .slice (some ⟨c, 0, none⟩) R cap), (1, .int .i64 (at' : Int)), (2, .int .i64 (col : Int)), (8, .int .i64 (i : Int)), (9, pt), (46, .int .i64 (R : Int)), (47, .int .i64 (i : Int)), (69, .int .i64 (W : Int)), (70, .int .i64 (d : Int))])
        (fun d H' => Upd ⟨plo, pok, none⟩ (fun b => ∃ i, i < R ∧ b = rb i) H2 H' ∧ d ≤ W ∧ MRow H' (.slice (some ⟨c, 0, none⟩) R cap) c rb R W (fun a e => if a < i ∨ a = at' ∨ (a = i ∧ e < d) then clr A at' col a e else A a e)) (fun d => W - d) 0 (by simp) ⟨.refl u2.ok, by simp, hm2.congr fun _ _ _ _ => by simp⟩ ?_
       rintro d H3 ⟨u3, hd, hm3⟩
       have pt3 := pt2'.mut u2.ok u3.toMut
       by_cases hdW : d < W
       · have w2 : wr .i64 ((d : Int) + 1) = ((d + 1 : Nat) : Int) := by rw [wr_i64 (by omega) (by omega)]; simp
         obtain ⟨_, ss3, _, hg3, hls3, _, hr3⟩ := id hm3.ex
         obtain ⟨sa, sa1, sa2⟩ := hr3 at' hat
         obtain ⟨capa, psa, rfl, hga, hla, _, _, hfa⟩ := sa2.parts
         obtain ⟨si, si1, si2⟩ := hr3 i hin
         obtain ⟨capi, psi, rfl, hgi, hli, _, _, hfi⟩ := si2.parts
         obtain ⟨pa, pa1, pa2⟩ := hfa d hdW
         obtain ⟨pi, pi1, pi2⟩ := hfi d hdW
         have va' : (if at' < i ∨ at' = at' ∨ at' = i ∧ d < d then clr A at' col at' d else A at' d) = A at' d / A at' col := by simp [vat]
         have vi' : (if i < i ∨ i = at' ∨ i = i ∧ d < d then clr A at' col i d else A i d) = A i d := by simp [hia]
         rw [va'] at pa2
         rw [vi'] at pi2
         simp [hdW, hat, hg3, sa1, hga, pa1, -m_cleared_k2]
         refine CallAt.of (by simp) (by simp) (Sign0_spec hX.toNX u3.ok pa2 (sat d hdW) (by omega)) ?_
         rintro _ H4 ⟨k4, sw, rfl, hsw⟩
         have hm4 := hm3.keep u3.ok k4
         by_cases hy0 : A at' d / A at' col = 0
         · simp [hsw, hy0, w2]
           refine .of (d + 1) (by show W - (d + 1) < W - d; omega) (by simp) ⟨u3.trans k4.upd, by omega, hm4.congr fun a e ha he => ?_⟩
           by_cases h1 : a = i
           · subst h1
             by_cases h2 : e = d
             · subst h2; simp [clr, hia, hy0, Rat.mul_zero, Rat.sub_eq_add_neg, Rat.add_zero]
             · have e1 : (e < d + 1) = (e < d) := propext ⟨fun h => by omega, fun h => by omega⟩
               simp [e1]
           · simp [h1]
         · have g4 : ∀ {q y}, H3.get q = some y → H4.get q = some y := fun h => k4.some u3.ok h
           have hg4 := g4 hg3
           have hga4 := g4 hga
           have hgi4 := g4 hgi
           have pa4 := pa2.keep u3.ok k4
           have pi4 := pi2.keep u3.ok k4
           have pt4 := pt3.keep u3.ok k4
           have hres : ∀ k, H4.get (H4.next + k) = none := fun k => k4.ok.wf _ (by omega)
           have hres0 : H4.get H4.next = none := k4.ok.wf _ (by omega)
           simp [hsw, hy0]
           refine DrawAt.of k4.ok.lo rfl ?_
           simp [inOrd, hres, hres0, hin, hdW, hat, hg4, si1, sa1, hgi4, hga4, pi1, pa1]
           refine CallD.of (vs := [pt, pa]) (by simp [hres]) (by simp) (by simp) rfl (Mul_frac hX.toNX (k := 2 * k) (H := H4.up 24) (k4.ok.up 24).fresh (pt4.keep k4.ok ((Keep.refl k4.ok).up 24)) (pa4.keep k4.ok ((Keep.refl k4.ok).up 24)) (sz_mono (sA i col hin hcol) (by omega)) (sat d hdW) (by omega)) ?_
           rintro r5 H5 ⟨k5, hr5⟩
           have hD1 := disj_fr pt4 pa4 hg4 (cells_no _)
           have hD2 := disj_fr pt4 pa4 hgi4 (cells_no _)
           have hD3 := disj_fr pt4 pa4 hga4 (cells_no _)
           have hn5 := k5.next
           simp at hn5
           have k5' : Keep ⟨plo, pok, none⟩ (H4.up 24) H5 := k5.perm rfl (k4.ok.up 24).lo
           have k45 : Keep ⟨plo, pok, none⟩ H4 H5 := ((Keep.refl k4.ok).up 24).trans k5'
           have hres5 : ∀ j, j < 24 → H5.get (H4.next + j) = none := fun j hj => (k5.get _ (by simp; omega)).trans (hres j)
           have g5 : ∀ {q y}, H4.get q = some y → H5.get q = some y := fun h => k45.some k4.ok h
           simp
           refine CallD.of (vs := [pi, r5]) (by simp [hres5]) (by simp) (by simp) rfl (Sub_frac hX.toNX (k := 4 * k) k5'.ok.fresh (pi4.keep k4.ok k45) hr5 (sz_mono (sA i d hin hdW) (by omega)) (sz_mono (sz_mul (sz_mono (sA i col hin hcol) (show k ≤ 2 * k by omega)) (sat d hdW)) (by omega)) (by omega)) ?_
           rintro r6 H6 ⟨k6, hr6⟩
           have hE1 := disj_fr (pi4.keep k4.ok k45) hr5 (g5 hg4) (cells_no _)
           have hE2 := disj_fr (pi4.keep k4.ok k45) hr5 (g5 hgi4) (cells_no _)
           have hn6 := k6.next
           have k6' : Keep ⟨plo, pok, none⟩ H5 H6 := k6.perm rfl k5'.ok.lo
           have k46 := k45.trans k6'
           have hres6 : ∀ j, j < 24 → H6.get (H4.next + j) = none := fun j hj => (k6.get _ (by omega)).trans (hres5 j hj)
           have hgi6 : H6.get (rb i) = some (.cells psi (.n 1)) := k46.some k4.ok hgi4
           obtain ⟨a6, rfl⟩ := hr6.ptr
           have hput := MRow.put k46.ok (hm4.keep k4.ok k46) hin hdW hgi6 hr6
           have lc : c < H4.next := k4.ok.lt hg4
           have li : rb i < H4.next := k4.ok.lt hgi4
           have la : rb at' < H4.next := k4.ok.lt hga4
           simp [hres6, hdW, hgi6, hli, hmay' _ i hin, confFine, madeB, hD1, hD2, hE1, disj_nil_r, lc, li, la, w2]
           refine .of (d + 1) (by show W - (d + 1) < W - d; omega) (by simp) ⟨u3.trans (k4.upd.trans (k46.upd.trans (hput.2.weaken fun b _ h => ⟨i, hin, h⟩))), by omega, hput.1.congr fun a e ha he => ?_⟩
           by_cases h1 : a = i
           · subst h1
             by_cases h2 : e = d
             · subst h2; simp [clr, hia]
             · have e1 : (e < d + 1) = (e < d) := propext ⟨fun h => by omega, fun h => by omega⟩
               simp [h2, e1]
           · simp [h1]
       · have : d = W := by omega
         subst this
         simp [w1]
         refine .of (i + 1) (by show R - (i + 1) < R - i; omega) (by simp) ⟨u2.trans u3, by omega, hm3.congr fun a e ha he => ?_⟩
         by_cases h1 : a < i
         · simp [h1, show a < i + 1 by omega]
         · by_cases h2 : a = i
           · subst h2; simp [he]
           · simp [h1, h2, show ¬ a < i + 1 by omega]
 · have : i = R := by omega
   subst this
   simp [EPost]
   exact ⟨u0.trans u1, hm1.congr fun a d ha hd => by simp [ha]⟩
end
end Go.Dam.C
namespace Go.Dam.C
open Go Go.Dam
variable [Foot]
variable {X : Cx} {pm : Perm} {H H' H'' : Heap}
theorem cleared_spec (hX : MX X) (ho : Ok pm H) {v : Value} {c R W at' col k : Nat} {rb : Nat → Nat} {A : Nat → Nat → Rat} (h : MRow H v c rb R W A) (hR : R ≤ 440) (hW : W ≤ 441) (hat : at' < R) (hcol : col < W)
  (hmay : ∀ i, i < R → pm.may (rb i) = true) (sA : ∀ i j, i < R → j < W → sz (A i j) k) (hk : k < 8388608) (h0 : A at' col ≠ 0) :
  Call X pm F.m_cleared [v, .int .i64 (at' : Int), .int .i64 (col : Int)] H fun _ H' => Upd pm (fun b => ∃ i, i < R ∧ b = rb i) H H' ∧ MRow H' v c rb R W (clr A at' col) := by
 obtain ⟨plo, pok, pnum⟩ := pm
 obtain rfl : pnum = none := ho.num
 have hmay' : ∀ o i, i < R → Perm.may ⟨plo, pok, o⟩ (rb i) = true := fun o i hi => hmay i hi
 obtain ⟨cap, ss, rfl, hgc, hlc, hcc, hrc⟩ := id h.ex
 obtain ⟨s0, s0a, s0b⟩ := hrc at' hat
 obtain ⟨cap0, ps0, rfl, hg0, hl0, _, _, hf0⟩ := id s0b.parts
 obtain ⟨pb, pb1, pb2⟩ := hf0 col hcol
 refine Call.has hX.m_cleared rfl ?_
 simp [hat, hgc, s0a, hcol, hg0, pb1, -m_cleared_k18, -m_cleared_b23]
 refine LoopAt.of (fun d : Nat => [(0, .slice (some ⟨c, 0, none⟩) R cap), (1, .int .i64 (at' : Int)), (2, .int .i64 (col : Int)), (6, pb), (22, .int .i64 (W : Int)), (23, .int .i64 (d : Int))])
  (fun d H' => Upd ⟨plo, pok, none⟩ (fun b => ∃ i, i < R ∧ b = rb i) H H' ∧ d ≤ W ∧ MRow H' (.slice (some ⟨c, 0, none⟩) R cap) c rb R W (fun a e => if a = at' ∧ e < d then clr A at' col a e else A a e)) (fun d => W - d) 0 (by simp) ⟨.refl ho, by simp, h.congr fun _ _ _ _ => by simp⟩ ?_
 rintro d H3 ⟨u3, hd, hm3⟩
 have pb3 := pb2.mut ho u3.toMut
 by_cases hdW : d < W
 · have w2 : wr .i64 ((d : Int) + 1) = ((d + 1 : Nat) : Int) := by rw [wr_i64 (by omega) (by omega)]; simp
   obtain ⟨_, ss3, _, hg3, hls3, _, hr3⟩ := id hm3.ex
   obtain ⟨sa, sa1, sa2⟩ := hr3 at' hat
   obtain ⟨capa, psa, rfl, hga, hla, _, _, hfa⟩ := sa2.parts
   obtain ⟨pa, pa1, pa2⟩ := hfa d hdW
   have va' : (if at' = at' ∧ d < d then clr A at' col at' d else A at' d) = A at' d := by simp
   rw [va'] at pa2
   have hres : ∀ k, H3.get (H3.next + k) = none := fun k => u3.ok.wf _ (by omega)
   have hres0 : H3.get H3.next = none := u3.ok.wf _ (by omega)
   simp [hdW, -m_cleared_k18]
   refine DrawAt.of u3.ok.lo rfl ?_
   simp [inOrd, hres, hres0, hdW, hat, hg3, sa1, hga, pa1, -m_cleared_k18]
   refine CallD.of (vs := [pa, pb]) (by simp [hres]) (by simp) (by simp) rfl (Div_frac hX.toNX (H := H3.up 19) (u3.ok.up 19).fresh (pa2.keep u3.ok ((Keep.refl u3.ok).up 19)) (pb3.keep u3.ok ((Keep.refl u3.ok).up 19)) (sA at' d hat hdW) (sA at' col hat hcol) (by omega)) ?_
   rintro _ H4 ⟨k4, ⟨h, _⟩ | ⟨_, r4, rfl, hr4⟩⟩
   · exact absurd h h0
   have hD1 := disj_fr pa2 pb3 hg3 (cells_no _)
   have hD2 := disj_fr pa2 pb3 hga (cells_no _)
   have hn4 := k4.next
   simp at hn4
   have k4' : Keep ⟨plo, pok, none⟩ (H3.up 19) H4 := k4.perm rfl (u3.ok.up 19).lo
   have k34 : Keep ⟨plo, pok, none⟩ H3 H4 := ((Keep.refl u3.ok).up 19).trans k4'
   have hres4 : ∀ j, j < 19 → H4.get (H3.next + j) = none := fun j hj => (k4.get _ (by simp; omega)).trans (hres j)
   have hga5 : H4.get (rb at') = some (.cells psa (.n 1)) := k34.some u3.ok hga
   obtain ⟨a5, rfl⟩ := hr4.ptr
   have hput := MRow.put k34.ok (hm3.keep u3.ok k34) hat hdW hga5 hr4
   have lc : c < H3.next := u3.ok.lt hg3
   have la : rb at' < H3.next := u3.ok.lt hga
   simp [hres4, hdW, hga5, hla, hmay' _ at' hat, confFine, madeB, hD1, disj_nil_r, lc, la, w2, -m_cleared_k18]
   refine .of (d + 1) (by show W - (d + 1) < W - d; omega) (by simp) ⟨u3.trans (k34.upd.trans (hput.2.weaken fun b _ h => ⟨at', hat, h⟩)), by omega, hput.1.congr fun a e ha he => ?_⟩
   by_cases h1 : a = at'
   · subst h1
     by_cases h2 : e = d
     · subst h2; simp [clr]
     · have e1 : (e < d + 1) = (e < d) := propext ⟨fun h => by omega, fun h => by omega⟩
       simp [h2, e1]
   · simp [h1]
 · have : d = W := by omega
   subst this
   simp [-m_cleared_k18]
   refine wp_mono ?_ (cleared_elim hX u3 (hm3.congr fun a e ha he => ?_) hR hW hat hcol hmay sA hk h0 ?_ ?_ ?_)
   · rintro z l H' ⟨h1, vs, h2, h3⟩
     simp at h2
     simp [h3, h1]
   · by_cases h1 : a = at' <;> simp [h1, he]
   all_goals simp
theorem reduced1_spec (hX : MX X) (ho : Ok pm H) {v : Value} {c n col k bx : Nat} {x : Nat → Rat} {y : Blk} (h : PRow H v c n x) (hc : col < n) (hb : H.get bx = some y) (hy : rowOf y = some [.int .i64 (col : Int)]) (sx : sz (x col) k) (hk : k < 268435456) :
  Call X pm F.m_reduced1 [v, .pointer (some ⟨bx, 0, none⟩)] H fun r H' => Keep pm H H' ∧ r = .bool (!decide (x col = 0)) := by
 obtain ⟨cap, ps, rfl, hg, hl, _, _, hf⟩ := h.parts
 obtain ⟨p, p1, p2⟩ := hf col hc
 refine Call.has hX.m_reduced1 rfl ?_
 simp [hb, hy, hc, hg, p1]
 refine CallAt.of (by simp) (by simp) (Sign0_spec hX.toNX ho p2 sx hk) ?_
 rintro _ H2 ⟨k2, sv, rfl, hsv⟩
 simp [hsv]
 exact k2
end Go.Dam.C
namespace Go.Dam.C
open Go Go.Dam
theorem find_of_ne {A : Nat → Nat → Rat} {col : Nat} : ∀ {i at' n : Nat}, (∀ j, j < i → A (at' + j) col = 0) → A (at' + i) col ≠ 0 → i < n → find A col at' n = some i
 | i, at', 0, _, _, h => by omega
 | 0, at', n + 1, _, h0, _ => by rw [find, if_pos (show A at' col ≠ 0 from h0)]
 | i + 1, at', n + 1, hz, h0, hi => by
   rw [find, if_neg (fun h => h (hz 0 (by omega))), find_of_ne (i := i) (fun j hj => by rw [show at' + 1 + j = at' + (j + 1) by omega]; exact hz (j + 1) (by omega)) (by rw [show at' + 1 + i = at' + (i + 1) by omega]; exact h0) (by omega)]
   rfl
theorem find_of_all {A : Nat → Nat → Rat} {col : Nat} : ∀ {n at' : Nat}, (∀ j, j < n → A (at' + j) col = 0) → find A col at' n = none
 | 0, _, _ => rfl
 | n + 1, at', hz => by
   rw [find, if_neg (fun h => h (hz 0 (by omega))), find_of_all (n := n) fun j hj => by rw [show at' + 1 + j = at' + (j + 1) by omega]; exact hz (j + 1) (by omega)]
   rfl
def findI (A : Nat → Nat → Rat) (col at' n : Nat) : Int := match find A col at' n with
 | some i => (i : Int)
 | none => -1
variable [Foot]
variable {X : Cx} {pm : Perm} {H H' H'' : Heap}
theorem SIndex_spec (hX : MX X) (ho : Ok pm H) {c R W at' col k bx cap cap' : Nat} {rb : Nat → Nat} {A : Nat → Nat → Rat} {y : Blk} (h : MRow H (.slice (some ⟨c, 0, none⟩) R cap) c rb R W A) (hR : R ≤ 440) (hat : at' ≤ R) (hcol : col < W)
  (hb : H.get bx = some y) (hy : rowOf y = some [.int .i64 (col : Int)]) (sA : ∀ i j, i < R → j < W → sz (A i j) k) (hk : k < 268435456) :
  Call X pm F.s_Index [.slice (some ⟨c, at', none⟩) (R - at') cap', .func (.func F.m_reduced1) #[] ⟨[.pointer (some ⟨bx, 0, none⟩)]⟩] H fun r H' => Keep pm H H' ∧ r = .int .i64 (findI A col at' (R - at')) := by
 obtain ⟨n, hn⟩ : ∃ n, n = R - at' := ⟨_, rfl⟩
 rw [← hn]
 obtain ⟨_, ss, e, hgc, hlc, hcc, hrc⟩ := id h.ex
 refine Call.has hX.s_Index rfl ?_
 simp
 refine LoopAt.of (fun i : Nat => [(0, .slice (some ⟨c, at', none⟩) n cap'), (1, .func (.func F.m_reduced1) #[] ⟨[.pointer (some ⟨bx, 0, none⟩)]⟩), (7, .int .i64 (n : Int)), (8, .int .i64 (i : Int))])
  (fun i H' => Keep pm H H' ∧ i ≤ n ∧ ∀ j, j < i → A (at' + j) col = 0) (fun i => n - i) 0 (by simp) ⟨.refl ho, by simp, by simp⟩ ?_
 rintro i H1 ⟨k1, hi, hz⟩
 by_cases hin : i < n
 · have w1 : wr .i64 ((i : Int) + 1) = ((i + 1 : Nat) : Int) := by rw [wr_i64 (by omega) (by omega)]; simp
   obtain ⟨s, s1, s2⟩ := hrc (at' + i) (by omega)
   simp [hin, k1.some ho hgc, s1]
   refine CallVAt.of (by simp) (by simp; exact ⟨rfl, rfl, rfl⟩) (by simp; rfl) (reduced1_spec hX k1.ok (s2.keep ho k1) hcol (k1.some ho hb) hy (sA _ _ (by omega) hcol) hk) ?_
   rintro _ H2 ⟨k2, rfl⟩
   by_cases h0 : A (at' + i) col = 0
   · simp [h0, w1]
     refine .of (i + 1) (by show n - (i + 1) < n - i; omega) (by simp) ⟨k1.trans k2, by omega, fun j hj => ?_⟩
     by_cases hji : j = i
     · subst hji; exact h0
     · exact hz j (by omega)
   · simp [h0]
     refine ⟨k1.trans k2, ?_⟩
     unfold findI
     rw [find_of_ne hz h0 hin]
 · have : i = n := by omega
   subst this
   simp
   refine ⟨k1, ?_⟩
   unfold findI
   rw [find_of_all hz]
/-- Two rows change places. -/
theorem MRow.swap {c R W a b cap : Nat} {rb : Nat → Nat} {A : Nat → Nat → Rat} {ss : List Value} {va vb : Value} (ho : Ok pm H) (h : MRow H (.slice (some ⟨c, 0, none⟩) R cap) c rb R W A) (u : Upd pm (fun b => b = c) H H') (hg : H.get c = some (.cells ss (.n 1)))
  (ha : a < R) (hb : b < R) (sa : ss[a]? = some va) (sb : ss[b]? = some vb) (hg' : H'.get c = some (.cells ((ss.set a vb).set b va) (.n 1))) :
  MRow H' (.slice (some ⟨c, 0, none⟩) R cap) c (fun j => if j = a then rb b else if j = b then rb a else rb j) R W (swp A a b) := by
 obtain ⟨lc, lr⟩ := h.lt ho
 obtain ⟨⟨cap', ss', e1, h2, h3, h4, h5⟩, hinj, hne⟩ := h
 cases e1
 rw [hg] at h2
 cases h2
 have mv : ∀ i s, i < R → ss[i]? = some s → PRow H' s (rb i) W (A i) := fun i s hi hs => by
  obtain ⟨s', t1, t2⟩ := h5 i hi
  rw [hs] at t1
  cases t1
  exact t2.mut ho u.toMut (u.same _ (lr i hi) (hne i hi))
 refine ⟨⟨cap, _, rfl, hg', by simp [h3], h4, fun j hj => ?_⟩, fun i j hi hj hij => ?_, fun j hj => ?_⟩
 · by_cases h1 : j = a
   · subst h1
     refine ⟨vb, ?_, ?_⟩
     · by_cases h2 : b = j
       · subst h2
         rw [List.getElem?_set_self (by simp; omega), ← sa, sb]
       · rw [List.getElem?_set_ne h2, List.getElem?_set_self (by omega)]
     · simp only [swp, if_true]
       exact mv b vb hb sb
   · by_cases h2 : j = b
     · subst h2
       refine ⟨va, by rw [List.getElem?_set_self (by simp; omega)], ?_⟩
       simp only [swp, h1, if_false, if_true]
       exact mv a va ha sa
     · obtain ⟨s, s1, s2⟩ := h5 j hj
       refine ⟨s, by rw [List.getElem?_set_ne (fun e => h2 e.symm), List.getElem?_set_ne (fun e => h1 e.symm)]; exact s1, ?_⟩
       simp only [swp, h1, h2, if_false]
       exact mv j s hj s1
 · have e : ∀ t, (if t = a then rb b else if t = b then rb a else rb t) = rb (if t = a then b else if t = b then a else t) := fun t => by
    split
    · rfl
    · split <;> rfl
   have lt : ∀ t, t < R → (if t = a then b else if t = b then a else t) < R := fun t ht => by
    split
    · exact hb
    · split
      · exact ha
      · exact ht
   rw [e, e] at hij
   have hs := hinj _ _ (lt i hi) (lt j hj) hij
   clear hij e lt
   repeat' split at hs
   all_goals omega
 · show (if j = a then rb b else if j = b then rb a else rb j) ≠ c
   split
   · exact hne b hb
   · split
     · exact hne a ha
     · exact hne j hj
end Go.Dam.C
namespace Go.Dam.C
section
open Go Go.Dam
variable [Foot]
variable {X : Cx} {pm : Perm} {H H' H'' : Heap}
theorem MRow.rowV {v : Value} {c n m : Nat} {rb : Nat → Nat} {A : Nat → Nat → Rat} (h : MRow H v c rb n m A) {ss : List Value} (hg : H.get c = some (.cells ss (.n 1))) : RowV ss := by
 obtain ⟨⟨cap, ss', h1, h2, h3, h4, h5⟩, hi, hn⟩ := h
 rw [hg] at h2
 cases h2
 intro u hu
 obtain ⟨j, hj⟩ := List.getElem?_of_mem hu
 have hl := (List.getElem?_eq_some_iff.1 hj).1
 obtain ⟨s, s1, s2⟩ := h5 j (by omega)
 obtain ⟨_, _, rfl, _⟩ := s2.parts
 rw [hj] at s1
 cases s1
 rfl
structure RState where
 col : Nat
 at' : Nat
 A : Nat → Nat → Rat
 rb : Nat → Nat
 k : Nat
 bx : Nat
theorem reduced_spec (hX : MX X) (ho : Ok pm H) {v : Value} {c R W cols k K : Nat} {rb : Nat → Nat} {A : Nat → Nat → Rat} (h : MRow H v c rb R W A) (hR : R ≤ 440) (hW : W ≤ 441) (hcols : cols ≤ W)
  (hmayc : pm.may c = true) (hmay : ∀ i, i < R → pm.may (rb i) = true) (sA : ∀ i j, i < R → j < W → sz (A i j) k) (hgz : gz k cols ≤ K) (hK : K < 8388608) :
  Call X pm F.m_reduced [v, .int .i64 (cols : Int)] H fun r H' => r = .int .i64 ((red A R 0 0 cols).2 : Int) ∧ Upd pm (fun b => b = c ∨ ∃ i, i < R ∧ b = rb i) H H' ∧ ∃ rb', MRow H' v c rb' R W (red A R 0 0 cols).1 ∧ ∀ i, i < R → ∃ j, j < R ∧ rb' i = rb j := by
 obtain ⟨plo, pok, pnum⟩ := pm
 obtain rfl : pnum = none := ho.num
 obtain ⟨cap, ss0, rfl, hgc0, hlc0, hcc0, hrc0⟩ := id h.ex
 have hmayc' : ∀ o, Perm.may ⟨plo, pok, o⟩ c = true := fun _ => hmayc
 refine Call.has hX.m_reduced rfl ?_
 have hmn : Perm.may ⟨plo, pok, none⟩ H.next = true := ho.may (Nat.le_refl _)
 have hmk : ∀ (H : Heap) x, Perm.make ⟨plo, pok, none⟩ H x = H.new x := fun _ _ => rfl
 have hpk : ∀ (H : Heap), Perm.pick ⟨plo, pok, none⟩ H = H.next := fun _ => rfl
 simp [ptr, hmk, hpk, hmn, -m_reduced_b12]
 have kn : Keep ⟨plo, pok, none⟩ H ((H.new (.cells [.int .i64 0] (.t 3))).put H.next (.cells [.int .i64 0] (.t 3))) := ((Keep.refl ho).new _).put (Nat.le_refl _) get_new_next _
 refine LoopAt.of (fun s : RState => [(0, .slice (some ⟨c, 0, none⟩) R cap), (1, .int .i64 (cols : Int)), (5, .int .i64 (s.at' : Int)), (6, .pointer (some ⟨s.bx, 0, none⟩))])
  (fun s H' => Upd ⟨plo, pok, none⟩ (fun b => b = c ∨ ∃ i, i < R ∧ b = rb i) H H' ∧ s.col ≤ cols ∧ s.at' ≤ R ∧ H'.get s.bx = some (.cells [.int .i64 (s.col : Int)] (.t 3)) ∧ MRow H' (.slice (some ⟨c, 0, none⟩) R cap) c s.rb R W s.A ∧ (∀ i, i < R → ∃ j, j < R ∧ s.rb i = rb j) ∧
   red s.A R s.col s.at' (cols - s.col) = red A R 0 0 cols ∧ (∀ i j, i < R → j < W → sz (s.A i j) s.k) ∧ gz s.k (cols - s.col) ≤ K)
  (fun s => cols - s.col) ⟨0, 0, A, rb, k, H.next⟩ (by simp) ⟨kn.upd, by simp, by simp, by simp, h.keep ho kn, fun i hi => ⟨i, hi, rfl⟩, rfl, sA, hgz⟩ ?_
 rintro ⟨col, at', A1, rb1, k1, bx⟩ H1 ⟨u1, hc, ha, hbx, hm1, hrb1, hred, s1, hg1⟩
 simp only at hc ha hbx hm1 hrb1 hred s1 hg1
 by_cases hcc : col < cols
 · by_cases hat : at' < R
   · have hk1 : k1 ≤ K := Nat.le_trans gz_mono hg1
     obtain ⟨m, hm⟩ : ∃ m, cols - col = m + 1 := ⟨cols - col - 1, by omega⟩
     have hm' : cols - (col + 1) = m := by omega
     rw [hm, red, if_pos hat] at hred
     rw [hm, gz] at hg1
     obtain ⟨_, ss, _, hgc, hlc, _, hrc⟩ := id hm1.ex
     have w1 : wr .i64 ((col : Int) + 1) = ((col + 1 : Nat) : Int) := by rw [wr_i64 (by omega) (by omega)]; simp
     have w2 : wr .i64 ((at' : Int) + 1) = ((at' + 1 : Nat) : Int) := by rw [wr_i64 (by omega) (by omega)]; simp
     have hsl : ∀ n, (effSlSl 1 (some ⟨c, 0, none⟩) at' n cap cap).run ⟨plo, pok, none⟩ H1 = some (.slice (some ⟨c, 0 + at' * 1, none⟩) (n - at') (cap - at'), H1) ∨ ¬ (at' ≤ n ∧ n ≤ cap) := fun n => by
      by_cases hn : at' ≤ n ∧ n ≤ cap
      · exact .inl (slSl_cells hgc (.inl rfl) hn.1 hn.2 (Nat.le_refl _))
      · exact .inr hn
     have hslR := (hsl R).resolve_right (fun h => h ⟨by omega, hcc0⟩)
     simp at hslR
     simp [hbx, hcc, hat, hslR, -m_reduced_k8, -m_reduced_k3]
     refine CallAt.of (by simp) (by simp; rfl) (SIndex_spec hX u1.ok hm1 hR ha (by omega) hbx rfl s1 (by omega)) ?_
     rintro _ H2 ⟨k2, rfl⟩
     have u2 := u1.trans k2.upd
     have hbx2 := k2.some u1.ok hbx
     have hm2 := hm1.keep u1.ok k2
     -- the end of a round
     have fin : ∀ {H3 : Heap} {at2 : Nat} {A2 : Nat → Nat → Rat} {rb2 : Nat → Nat} {k3 : Nat} {L : Sl}, Upd ⟨plo, pok, none⟩ (fun b => b = c ∨ ∃ i, i < R ∧ b = rb i) H H3 → at2 ≤ R → H3.get bx = some (.cells [.int .i64 (col : Int)] (.t 3)) → MRow H3 (.slice (some ⟨c, 0, none⟩) R cap) c rb2 R W A2 → (∀ i, i < R → ∃ j, j < R ∧ rb2 i = rb j) →
      red A2 R (col + 1) at2 m = red A R 0 0 cols → (∀ i j, i < R → j < W → sz (A2 i j) k3) → gz k3 m ≤ K → lk 0 L = some (.slice (some ⟨c, 0, none⟩) R cap) → lk 1 L = some (.int .i64 (cols : Int)) → lk 5 L = some (.int .i64 (at2 : Int)) → lk 6 L = some (.pointer (some ⟨bx, 0, none⟩)) →
      wp X ⟨plo, pok, none⟩ (.code m_reduced_k3) L H3 [] (fun x l' H' => match x with
       | .normal => Again (fun s : RState => [(0, .slice (some ⟨c, 0, none⟩) R cap), (1, .int .i64 (cols : Int)), (5, .int .i64 (s.at' : Int)), (6, .pointer (some ⟨s.bx, 0, none⟩))])
         (fun s H' => Upd ⟨plo, pok, none⟩ (fun b => b = c ∨ ∃ i, i < R ∧ b = rb i) H H' ∧ s.col ≤ cols ∧ s.at' ≤ R ∧ H'.get s.bx = some (.cells [.int .i64 (s.col : Int)] (.t 3)) ∧ MRow H' (.slice (some ⟨c, 0, none⟩) R cap) c s.rb R W s.A ∧ (∀ i, i < R → ∃ j, j < R ∧ s.rb i = rb j) ∧
          red s.A R s.col s.at' (cols - s.col) = red A R 0 0 cols ∧ (∀ i j, i < R → j < W → sz (s.A i j) s.k) ∧ gz s.k (cols - s.col) ≤ K)
         (fun s => cols - s.col) ⟨col, at', A1, rb1, k1, bx⟩ l' H'
       | x => wp X ⟨plo, pok, none⟩ (.res x) l' H' [.blk 0, .seq m_reduced_k0] fun x l H' => (x = .normal ∨ x = .ret) ∧ ∃ vs, resL l H' [.slot 4] = some vs ∧ (tupOf vs = .int .i64 ((red A R 0 0 cols).2 : Int) ∧ Upd ⟨plo, pok, none⟩ (fun b => b = c ∨ ∃ i, i < R ∧ b = rb i) H H' ∧ ∃ rb', MRow H' (.slice (some ⟨c, 0, none⟩) R cap) c rb' R W (red A R 0 0 cols).1 ∧ ∀ i, i < R → ∃ j, j < R ∧ rb' i = rb j)) := by
      intro H3 at2 A2 rb2 k3 L u3 ha2 hb3 hm3 hrb3 hred3 s3 hg3 l0 l1 l5 l6
      have hmn3 : Perm.may ⟨plo, pok, none⟩ H3.next = true := u3.ok.may (Nat.le_refl _)
      simp [l6, hb3, ptr, hmk, hpk, hmn3, w1]
      have kf : Keep ⟨plo, pok, none⟩ H3 (((H3.new (.cells [.int .i64 0] (.t 3))).put H3.next (.cells [.int .i64 (col : Int)] (.t 3))).put H3.next (.cells [.int .i64 ((col + 1 : Nat) : Int)] (.t 3))) := (((Keep.refl u3.ok).new _).put (Nat.le_refl _) get_new_next _).put (Nat.le_refl _) get_put_same _
      exact .of ⟨col + 1, at2, A2, rb2, k3, H3.next⟩ (by show cols - (col + 1) < cols - col; omega) (by simp [l0, l1, l5]) ⟨u3.trans kf.upd, by simp; omega, ha2, get_put_same, hm3.keep u3.ok kf, hrb3, by simp only [hm']; exact hred3, s3, by simp only [hm']; exact hg3⟩
     cases hf : find A1 col at' (R - at') with
     | none =>
       have e1 : findI A1 col at' (R - at') = -1 := by unfold findI; rw [hf]
       rw [hf] at hred
       simp [e1, -m_reduced_k3]
       refine fin u2 ha hbx2 hm2 hrb1 hred s1 (Nat.le_trans (gz_le (by omega)) hg1) ?_ ?_ ?_ ?_ <;> simp
     | some i =>
       have e1 : findI A1 col at' (R - at') = (i : Int) := by unfold findI; rw [hf]
       obtain ⟨hi, hne⟩ := find_some hf
       rw [hf] at hred
       have hgc2 := k2.some u1.ok hgc
       obtain ⟨va, va1, va2⟩ := hrc at' hat
       obtain ⟨vb, vb1, vb2⟩ := hrc (at' + i) (by omega)
       obtain ⟨capa, psa, rfl, _⟩ := va2.parts
       obtain ⟨capb, psb, rfl, _⟩ := vb2.parts
       obtain ⟨va, hva⟩ : ∃ va, va = Value.slice (some ⟨rb1 at', 0, none⟩) W capa := ⟨_, rfl⟩
       obtain ⟨vb, hvb⟩ : ∃ vb, vb = Value.slice (some ⟨rb1 (at' + i), 0, none⟩) W capb := ⟨_, rfl⟩
       have hs1 : setCells ss at' [Value.slice (some ⟨rb1 (at' + i), 0, none⟩) W capb] = some (ss.set at' vb) := by rw [hvb]; exact setCells_one (by omega)
       have hs2 : setCells (ss.set at' vb) (at' + i) [Value.slice (some ⟨rb1 at', 0, none⟩) W capa] = some ((ss.set at' vb).set (at' + i) va) := by rw [hva]; exact setCells_one (by simp; omega)
       have w3 : wr .i64 ((at' : Int) + (i : Int)) = ((at' + i : Nat) : Int) := by rw [wr_i64 (by omega) (by omega)]; simp
       have hres : ∀ k, H2.get (H2.next + k) = none := fun k => k2.ok.wf _ (by omega)
       have hres0 : H2.get H2.next = none := k2.ok.wf _ (by omega)
       have lc : c < H2.next := k2.ok.lt hgc2
       have hres' : ∀ j x, ((H2.up 20).put c x).get (H2.next + j) = none := fun j x => (get_put_ne (by omega)).trans (hres j)
       have hai : at' + i < R := by omega
       simp [e1, -m_reduced_k3, -m_reduced_k5]
       refine DrawAt.of k2.ok.lo rfl ?_
       simp [inOrd, hres, hres0, hat, hgc2, va1, vb1, w3, hs1, hs2, hai, hmayc', hres', confFine, madeB, lc, -setCells_one, -m_reduced_k3, -m_reduced_k5]
       have kU : Keep ⟨plo, pok, none⟩ H2 (H2.up 20) := (Keep.refl k2.ok).up 20
       have hrv : RowV ss := hm2.rowV hgc2
       have hva' : refB va = true := by rw [hva]; rfl
       have hvb' : refB vb = true := by rw [hvb]; rfl
       obtain ⟨H3, hH3⟩ : ∃ H3, H3 = (H2.up 20).put c (.cells (ss.set at' vb) (.n 1)) := ⟨_, rfl⟩
       have u3 : Upd ⟨plo, pok, none⟩ (fun b => b = c) (H2.up 20) H3 := by rw [hH3]; exact Upd.put kU.ok hgc2 hrv (hrv.set hvb') (by simp)
       have hg3 : H3.get c = some (.cells (ss.set at' vb) (.n 1)) := by rw [hH3]; exact get_put_same
       rw [← hH3]
       obtain ⟨H4, hH4⟩ : ∃ H4, H4 = H3.put c (.cells ((ss.set at' vb).set (at' + i) va) (.n 1)) := ⟨_, rfl⟩
       have u4 : Upd ⟨plo, pok, none⟩ (fun b => b = c) (H2.up 20) H4 := u3.trans (by rw [hH4]; exact Upd.put u3.ok hg3 (hrv.set hvb') ((hrv.set hvb').set hva') (by simp))
       have hg4 : H4.get c = some (.cells ((ss.set at' vb).set (at' + i) va) (.n 1)) := by rw [hH4]; exact get_put_same
       rw [← hH4]
       have hm4 := MRow.swap kU.ok (hm2.keep k2.ok kU) u4 hgc2 hat hai (by rw [hva]; exact va1) (by rw [hvb]; exact vb1) hg4
       have hrbS : ∀ j, j < R → ∃ t, t < R ∧ (if j = at' then rb1 (at' + i) else if j = at' + i then rb1 at' else rb1 j) = rb t := fun j hj => by
        split
        · exact hrb1 _ hai
        · split
          · exact hrb1 _ hat
          · exact hrb1 _ hj
       have hne' : swp A1 at' (at' + i) at' col ≠ 0 := by simpa [swp] using hne
       have hbx3 : H4.get bx = some (.cells [.int .i64 (col : Int)] (.t 3)) := u4.toMut.some kU.ok hbx2 fun cs e => by cases e
       simp [hbx3, -m_reduced_k3, -m_reduced_k4]
       refine CallAt.of (by simp) (by simp) (cleared_spec hX u4.ok hm4 hR hW hat (by omega) (fun j hj => by obtain ⟨t, t1, t2⟩ := hrbS j hj; rw [t2]; exact hmay t t1) (swp_sz hat hai s1) (by omega) hne') ?_
       rintro _ H5 ⟨u5, hm5⟩
       have hbx4 : H5.get bx = some (.cells [.int .i64 (col : Int)] (.t 3)) := (u4.toMut.trans u5.toMut).some kU.ok hbx2 fun cs e => by cases e
       simp [w2, -m_reduced_k3]
       refine fin (at2 := at' + 1) (k3 := 8 * k1 + 1) (u2.trans (kU.upd.trans ((u4.weaken fun b _ h => .inl h).trans (u5.weaken fun b _ ⟨j, hj, e⟩ => .inr (by obtain ⟨t, t1, t2⟩ := hrbS j hj; exact ⟨t, t1, e.trans t2⟩))))) (by omega) hbx4 hm5 hrbS hred (clr_sz hat (by omega) hne' (swp_sz hat hai s1)) hg1 ?_ ?_ ?_ ?_ <;> simp
   · have : at' = R := by omega
     subst this
     have hr : red A1 at' col at' (cols - col) = (A1, at') := by
      cases cols - col with
      | zero => rw [red]
      | succ n => rw [red, if_neg (by omega)]
     rw [hr] at hred
     simp [hbx, hcc, ← hred]
     exact ⟨u1, rb1, hm1, hrb1⟩
 · have : col = cols := by omega
   subst this
   rw [Nat.sub_self, red] at hred
   simp [hbx, ← hred]
   exact ⟨u1, rb1, hm1, hrb1⟩
end
section
open Go Go.Dam
/-! ## A slice that grows -/
/-- A slice of one-cell things that has no room left; none: it is nil. -/
def GS (H : Heap) (v : Value) (i : Nat) (ss : List Value) : Option Nat → Prop
 | none => i = 0 ∧ ss = [] ∧ v = .slice none 0 0
 | some c => v = .slice (some ⟨c, 0, none⟩) i i ∧ ss.length = i ∧ H.get c = some (.cells ss (.n 1))
theorem GS.len {H : Heap} {v : Value} {i : Nat} {ss : List Value} {o : Option Nat} (g : GS H v i ss o) : ss.length = i := by
 cases o with
 | none => obtain ⟨rfl, rfl, _⟩ := g; rfl
 | some c => exact g.2.1
/-! ### What of a heap a fraction looks at -/
theorem Dig.le2 (G : Foot) {H H' : Heap} {v : Value} {ds : List Nat} (h : @Dig G H v ds) (hl : ∀ b y, H.get b = some y → G.s b → H'.get b = some y) : @Dig G H' v ds := by
 refine ⟨h.1, h.2.imp id ?_⟩
 rintro ⟨c, off, cap, y, row, h1, h2, h3, h4, h5, h6, h7⟩
 exact ⟨c, off, cap, y, row, h1, hl _ _ h2 h7, h3, h4, h5, h6, h7⟩
theorem IsN.le2 (G : Foot) {H H' : Heap} {v : Value} {ds : List Nat} (h : @IsN G H v ds) (hl : ∀ b y, H.get b = some y → (G.s b ∨ ∃ row, RowT y row ∧ row.length ≠ 2) → H'.get b = some y) : @IsN G H' v ds := by
 refine h.imp id ?_
 rintro ⟨b, x, s, h1, h2, h3, h4⟩
 exact ⟨b, x, s, h1, hl _ _ h2 (.inr ⟨_, h3, by simp⟩), h3, Dig.le2 G h4 fun b y e g => hl b y e (.inl g)⟩
theorem IsNat.le2 (G : Foot) {H H' : Heap} {v : Value} {n : Nat} (h : @IsNat G H v n) (hl : ∀ b y, H.get b = some y → (G.s b ∨ ∃ row, RowT y row ∧ row.length ≠ 2) → H'.get b = some y) : @IsNat G H' v n :=
 @IsNat.mk G H' v n ((@IsNat.ex G H v n h).imp fun _ q => ⟨IsN.le2 G q.1 hl, q.2⟩)
theorem IsFrac.le2 (G : Foot) {H H' : Heap} {v : Value} {q : Rat} (h : @IsFrac G H v q) (hl : ∀ b y, H.get b = some y → (G.s b ∨ ∃ row, RowT y row ∧ row.length ≠ 2) → H'.get b = some y) : @IsFrac G H' v q := by
 refine @IsFrac.mk G H' v q ((@IsFrac.ex G H v q h).imp id ?_)
 rintro ⟨b, x, pn, pd, h1, h2, h3, h4, h5⟩
 exact ⟨b, x, pn, pd, h1, hl _ _ h2 (.inr ⟨_, h3, by simp⟩), h3, IsNat.le2 G h4 hl, IsNat.le2 G h5 hl⟩
section
variable [Foot]
variable {X : Cx} {pm : Perm} {H H' H'' : Heap}
theorem app_step (ho : Ok pm H) {v x : Value} {i by' : Nat} {ss : List Value} {o : Option Nat} (g : GS H v i ss o) (hm : ∀ c, o = some c → pm.may c = true) (hx : oneCellV x = true) (hi : i < 1000000) (hby : by' ≤ 24) :
  ∃ H', (effAppend 1 by' v [x] 1).run pm H = some (.slice (some ⟨H.next, 0, none⟩) (i + 1) (i + 1), H') ∧ GS H' (.slice (some ⟨H.next, 0, none⟩) (i + 1) (i + 1)) (i + 1) (ss ++ [x]) (some H.next) ∧ H'.next = H.next + 1 ∧
    (∀ b, b < H.next → o ≠ some b → H'.get b = H.get b) ∧ ∀ H0, Keep pm H0 H → (∀ c, o = some c → H0.next ≤ c) → Keep pm H0 H' := by
 have hb : (i + 1) * by' ≤ 17179869184 := Nat.le_trans (Nat.mul_le_mul_left _ hby) (by omega)
 cases o with
 | none =>
   obtain ⟨rfl, rfl, rfl⟩ := g
   refine ⟨H.new (.cells [x] (.n 1)), ?_, ⟨rfl, rfl, get_new_next⟩, rfl, fun b hb _ => get_new_lt hb, fun H0 k _ => k.new _⟩
   unfold effAppend
   simp at hb
   simp [ho.make, ho.pick, hx, show by' ≤ 17179869184 by omega]
 | some c =>
   obtain ⟨rfl, hl, hg⟩ := g
   have hcl := ho.lt hg
   have hgc : getCells ss 0 i = some ss := by rw [← hl]; exact getCells_all ss
   refine ⟨(H.put c .dead).new (.cells (ss ++ [x]) (.n 1)), ?_, ⟨rfl, by simp [hl], get_new_next⟩, rfl, fun b hb hn => by rw [get_new_lt (show b < (H.put c .dead).next from hb), get_put_ne (fun e => hn (by rw [e]))], fun H0 k hc => (k.put (hc c rfl) hg .dead).new _⟩
   unfold effAppend
   simp [ho.make, ho.pick, hx, hb, hg, hgc, hm c rfl, show ¬ (i + 1 ≤ i) by omega, show i + 1 ≤ 17179869184 by omega]
end
abbrev fl (F : Foot) (o : Option Nat) : Foot := ⟨fun b => F.s b ∧ o ≠ some b⟩
/-- A row of fractions that grows. -/
structure GRow (F : Foot) (pm : Perm) (H0 H : Heap) (v : Value) (i : Nat) (x : Nat → Rat) (o : Option Nat) : Prop where
 k : @Keep F pm H0 H
 ok : @Ok (fl F o) pm H
 ge : ∀ c, o = some c → H0.next ≤ c
 ex : ∃ ss, GS H v i ss o ∧ ∀ j, j < i → ∃ p, ss[j]? = some p ∧ @IsFrac (fl F o) H p (x j)
theorem GRow.nil (F : Foot) {pm : Perm} {H : Heap} (ho : @Ok F pm H) {x : Nat → Rat} : GRow F pm H H (.slice none 0 0) 0 x none where
 k := @Keep.refl F _ _ ho
 ok := Ok.refoot F (fl F none) ho fun b hb => ⟨@Ok.new F _ _ ho b hb, by simp⟩
 ge := by simp
 ex := ⟨[], ⟨rfl, rfl, rfl⟩, by simp⟩
theorem GRow.empty (F : Foot) {pm : Perm} {H : Heap} (ho : @Ok F pm H) {x : Nat → Rat} : GRow F pm H (H.new (.cells [] (.n 1))) (.slice (some ⟨H.next, 0, none⟩) 0 0) 0 x (some H.next) where
 k := @Keep.new F _ _ _ (@Keep.refl F _ _ ho) _
 ok := Ok.refoot F (fl F (some H.next)) (@Keep.ok F _ _ _ (@Keep.new F _ _ _ (@Keep.refl F _ _ ho) _)) fun b hb => ⟨@Ok.new F _ _ ho b (by simp at hb; omega), by simp at hb ⊢; omega⟩
 ge := by simp
 ex := ⟨[], ⟨rfl, rfl, get_new_next⟩, by simp⟩
theorem GRow.lt {F : Foot} {pm : Perm} {H0 H : Heap} {v : Value} {i : Nat} {x : Nat → Rat} {o : Option Nat} (g : GRow F pm H0 H v i x o) : ∀ c, o = some c → c < H.next := by
 rintro c rfl
 obtain ⟨ss, ⟨_, _, h⟩, _⟩ := g.ex
 exact @Ok.lt F _ _ (@Keep.ok F _ _ _ g.k) _ _ h
theorem GRow.row {F : Foot} {pm : Perm} {H0 H : Heap} {v : Value} {i c : Nat} {x : Nat → Rat} (g : GRow F pm H0 H v i x (some c)) : @PRow F H v c i x := by
 obtain ⟨ss, ⟨h1, h2, h3⟩, h4⟩ := g.ex
 exact @PRow.mk F _ _ _ _ _ ⟨i, ss, h1, h3, h2, Nat.le_refl _, fun j hj => (h4 j hj).imp fun p q => ⟨q.1, IsFrac.refoot (fl F (some c)) F (@Ok.wf F _ _ (@Keep.ok F _ _ _ g.k)) (fun b _ h => h.1) q.2⟩⟩
/-- What lies in the old heap lies in the new one, and not in the block that grows. -/
theorem GRow.frac {F : Foot} {pm : Perm} {H0 H : Heap} {v : Value} {i : Nat} {x : Nat → Rat} {o : Option Nat} (g : GRow F pm H0 H v i x o) (ho : @Ok F pm H0) {p : Value} {q : Rat} (h : @IsFrac F H0 p q) : @IsFrac (fl F o) H p q := by
 refine @IsFrac.le (fl F o) _ _ _ _ (IsFrac.refoot F (fl F o) (@Ok.wf F _ _ ho) (fun b hb h => ⟨h, fun e => ?_⟩) h) fun b y hb => @Keep.some F _ _ _ g.k ho _ _ hb
 have := g.ge b e
 omega
theorem GRow.grow {F : Foot} {pm : Perm} {H0 H1 H2 : Heap} {v : Value} {i : Nat} {x : Nat → Rat} {o : Option Nat} (g : GRow F pm H0 H1 v i x o) (ho : @Ok F pm H0) (k2 : @Keep (fl F o) pm H1 H2) {p : Value} {q : Rat} (hp : @IsFrac (fl F o) H2 p q) (hi : i < 1000000) :
  ∃ H', (effAppend 1 8 v [p] 1).run pm (H2.new (.cells [p] (.n 1))) = some (.slice (some ⟨H2.next + 1, 0, none⟩) (i + 1) (i + 1), H') ∧ GRow F pm H0 H' (.slice (some ⟨H2.next + 1, 0, none⟩) (i + 1) (i + 1)) (i + 1) (fun j => if j = i then q else x j) (some (H2.next + 1)) := by
 obtain ⟨ss, gs, hf⟩ := g.ex
 have ok2 := @Keep.ok (fl F o) _ _ _ k2
 have kn : @Keep (fl F o) pm H2 (H2.new (.cells [p] (.n 1))) := @Keep.new (fl F o) _ _ _ (@Keep.refl (fl F o) _ _ ok2) _
 have k1n := @Keep.trans (fl F o) _ _ _ _ k2 kn
 have hge := g.ge
 have hlt := g.lt
 have gs2 : GS (H2.new (.cells [p] (.n 1))) v i ss o := by
  cases o with
  | none => exact gs
  | some c => exact ⟨gs.1, gs.2.1, @Keep.some (fl F (some c)) _ _ _ k1n g.ok _ _ gs.2.2⟩
 obtain ⟨a, rfl⟩ := @IsFrac.ptr (fl F o) _ _ _ hp
 have okF1 := @Keep.ok F _ _ _ g.k
 have hn1 := @Keep.next (fl F o) _ _ _ k1n
 have kF : @Keep F pm H0 (H2.new (.cells [.pointer a] (.n 1))) := @Keep.trans F _ _ _ _ g.k (Keep.refoot (fl F o) F k1n fun b hb => @Ok.new F _ _ okF1 b (by omega))
 obtain ⟨H', e1, e2, e3, e4, e5⟩ := @app_step F pm _ (@Keep.ok F _ _ _ kF) v (.pointer a) i 8 ss o gs2 (fun c hc => @Ok.may F _ _ ho _ (hge c hc)) rfl hi (by omega)
 have kF' := e5 H0 kF hge
 have hnn : (H2.new (.cells [.pointer a] (.n 1))).next = H2.next + 1 := rfl
 have hn2 : H1.next ≤ H2.next := @Keep.next (fl F o) _ _ _ k2
 refine ⟨H', e1, kF', Ok.refoot F (fl F (some (H2.next + 1))) (@Keep.ok F _ _ _ kF') fun b hb => ⟨@Ok.new F _ _ (@Keep.ok F _ _ _ kF') b hb, by rw [e3, hnn] at hb; simp; omega⟩, ?_, _, e2, fun j hj => ?_⟩
 · rintro c hc
   simp at hc
   have := @Keep.next F _ _ _ g.k
   omega
 have conv : ∀ {u : Value} {r : Rat}, @IsFrac (fl F o) H2 u r → @IsFrac (fl F (some (H2.next + 1))) H' u r := by
  intro u r hu
  have a1 := @IsFrac.keep (fl F o) _ _ _ _ _ hu ok2 kn
  have wfK := @Ok.wf F _ _ (@Keep.ok F _ _ _ kF)
  have a2 := IsFrac.refoot (fl F o) ⟨fun b => F.s b ∧ o ≠ some b ∧ b ≠ H2.next + 1⟩ wfK (fun b hb h => ⟨h.1, h.2, by rw [hnn] at hb; omega⟩) a1
  have b1 := IsFrac.le2 ⟨fun b => F.s b ∧ o ≠ some b ∧ b ≠ H2.next + 1⟩ (H' := H') a2 fun b y hy hg => by
   have hbl := @Ok.lt F _ _ (@Keep.ok F _ _ _ kF) _ _ hy
   rw [e4 b hbl ?_]
   · exact hy
   rintro rfl
   rcases hg with hg | ⟨row, hg, _⟩
   · exact hg.2.1 rfl
   · rw [gs2.2.2] at hy
     cases hy
     exact absurd hg.2 (by simp [typedB])
  exact IsFrac.refoot ⟨fun b => F.s b ∧ o ≠ some b ∧ b ≠ H2.next + 1⟩ (fl F (some (H2.next + 1))) (@Ok.wf F _ _ (@Keep.ok F _ _ _ kF')) (fun b _ h => ⟨h.1, by simp; exact fun e => h.2.2 e.symm⟩) b1
 by_cases hji : j = i
 · subst hji
   refine ⟨.pointer a, by rw [← gs.len]; simp, ?_⟩
   simp only [if_true]
   exact conv hp
 · obtain ⟨u, u1, u2⟩ := hf j (by omega)
   refine ⟨u, by rw [List.getElem?_append_left (by rw [gs.len]; omega)]; exact u1, ?_⟩
   simp only [hji, if_false]
   exact conv (@IsFrac.keep (fl F o) _ _ _ _ _ u2 g.ok k2)
end
section
open Go Go.Dam
theorem getCells_one {row : List Value} {off : Nat} {p : Value} (h : row[off]? = some p) : getCells row off 1 = some [p] := by
 obtain ⟨hl, he⟩ := List.getElem?_eq_some_iff.1 h
 simp only [getCells, nble]
 rw [decide_eq_true (by omega)]
 simp only [cond_true, Option.some.injEq]
 rw [List.drop_eq_getElem_cons hl, he]
 rfl
variable [Foot]
variable {X : Cx} {pm : Perm} {H H' H'' : Heap}
/-- A matrix. -/
structure IsMat (H : Heap) (v : Value) (s c : Nat) (rb : Nat → Nat) (n : Nat) (A : Nat → Nat → Rat) : Prop where
 ex : ∃ x vl, v = .pointer (some ⟨s, 0, none⟩) ∧ H.get s = some x ∧ RowT x [vl, .int .i64 (n : Int)] ∧ MRow H vl c rb n n A
theorem IsMat.keep {v : Value} {s c n : Nat} {rb : Nat → Nat} {A : Nat → Nat → Rat} (h : IsMat H v s c rb n A) (ho : Ok pm H) (hk : Keep pm H H') : IsMat H' v s c rb n A := by
 obtain ⟨x, vl, h1, h2, h3, h4⟩ := h.ex
 exact ⟨x, vl, h1, hk.some ho h2, h3, h4.keep ho hk⟩
theorem MSize_spec (hX : MX X) (ho : Ok pm H) {v : Value} {s c n : Nat} {rb : Nat → Nat} {A : Nat → Nat → Rat} (h : IsMat H v s c rb n A) :
  Call X pm F.m_Size [v] H fun r H' => Keep pm H H' ∧ r = .tuple #[.int .i64 (n : Int), .int .i64 (n : Int)] := by
 obtain ⟨x, vl, rfl, hg, hr, hm⟩ := h.ex
 obtain ⟨cap, ss, rfl, _⟩ := hm.ex
 have hres : ∀ k, H.get (H.next + k) = none := fun k => ho.wf _ (by omega)
 have hres0 : H.get H.next = none := ho.wf _ (by omega)
 have ls : s < H.next := ho.lt hg
 refine Call.has hX.m_Size rfl ?_
 simp
 refine DrawAt.of ho.lo rfl ?_
 simp [inOrd, hres, hres0, hg, hr.1, confFine, madeB, ls]
 exact (Keep.refl ho).up 11
omit [Foot] in
theorem Rank1_spec (hX : MX X) {i : Int} : Call X pm F.m_Rank1 [.int .i64 i] H fun r H' => H' = H ∧ r = .slice none 0 0 := by
 refine Call.has hX.m_Rank1 rfl ?_
 simp
omit [Foot] in
theorem Solve1_spec (hX : MX X) {bx cy n capy i : Nat} {x : Blk} {ps : List Value} (hb : H.get bx = some x) (hx : rowOf x = some [.slice (some ⟨cy, 0, none⟩) n capy]) (hg : H.get cy = some (.cells ps (.n 1))) (hi : i < n) (hn : n ≤ capy) (hn4 : n ≤ 440) :
  Call X pm F.m_Solve1 [.int .i64 (i : Int), .pointer (some ⟨bx, 0, none⟩)] H fun r H' => H' = H ∧ r = .slice (some ⟨cy, i, none⟩) 1 (capy - i) := by
 have w1 : wr .i64 ((i : Int) + 1) = ((i + 1 : Nat) : Int) := by rw [wr_i64 (by omega) (by omega)]; simp
 have hsl := slSl_cells (pm := pm) (off := 0) (m := capy) (cap := capy) (l := i) (h := i + 1) (esz := 1) hg (.inl rfl) (by omega) (by omega) (Nat.le_refl _)
 simp at hsl
 refine Call.has hX.m_Solve1 rfl ?_
 simp [hb, hx, w1]
 simp [hsl]
theorem CloneE_spec (hX : LX X) (ho : Ok pm H) {c n cap : Nat} {ps : List Value} (hg : H.get c = some (.cells ps (.n 1))) (hl : ps.length = n) (hv : RowV ps) (hn : n ≤ 440) (hn0 : 0 < n) :
  Call X pm F.s_CloneF [.slice (some ⟨c, 0, none⟩) n cap] H fun r H' => Keep pm H H' ∧ ∃ c', r = .slice (some ⟨c', 0, none⟩) n n ∧ H'.get c' = some (.cells ps (.n 1)) ∧ H.next ≤ c' := by
 obtain ⟨plo, pok, pnum⟩ := pm
 obtain rfl : pnum = none := ho.num
 refine Call.has hX.s_CloneF rfl ?_
 have hcl := ho.lt hg
 have hg1 : ∀ x, (H.new x).get c = some (.cells ps (.n 1)) := fun x => (get_new_lt hcl).trans hg
 have htk : List.take n ps = ps := List.take_of_length_le (by omega)
 have hm : Perm.may ⟨plo, pok, none⟩ H.next = true := ho.may (Nat.le_refl _)
 have hpk : ∀ (H : Heap), Perm.pick ⟨plo, pok, none⟩ H = H.next := fun _ => rfl
 have hmk : ∀ (H : Heap) x, Perm.make ⟨plo, pok, none⟩ H x = H.new x := fun _ _ => rfl
 simp [fill, hpk, hmk, hg1, getCells, hl, htk, effAppend, show ¬ n = 0 by omega, show n * 8 ≤ 17179869184 by omega, show n ≤ 17179869184 by omega, hv.one, hm, show ¬ n ≤ 0 by omega]
 have k1 : Keep ⟨plo, pok, none⟩ H (((H.new (.cells [] (.n 1))).put H.next .dead).new (.cells ps (.n 1))) := (((Keep.refl ho).new _).put (Nat.le_refl _) get_new_next .dead).new _
 refine ⟨k1, ?_⟩
 first | exact get_new_next | exact ⟨get_new_next, by omega⟩
structure CState where
 i : Nat
 o : Option Nat
 v : Value
 rb : Nat → Nat
def CRows (H H1 : Heap) (w n : Nat) (A' : Nat → Nat → Rat) (s : CState) : Prop := ∃ ss, GS H1 s.v s.i ss s.o ∧ (∀ c, s.o = some c → H.next ≤ c) ∧ (∀ j, j < s.i → ∃ cap', ss[j]? = some (.slice (some ⟨s.rb j, 0, none⟩) (n + w) cap') ∧ H.next ≤ s.rb j ∧ s.rb j < H1.next ∧ s.o ≠ some (s.rb j) ∧ n + w ≤ cap' ∧ ∃ ps, H1.get (s.rb j) = some (.cells ps (.n 1)) ∧ ps.length = n + w ∧ ∀ k, k < n + w → ∃ p, ps[k]? = some p ∧ IsFrac H p (A' j k)) ∧
 ∀ a b, a < s.i → b < s.i → s.rb a = s.rb b → a = b
theorem copied_spec (hX : MX X) (ho : Ok pm H) {v : Value} {s c n : Nat} {rb : Nat → Nat} {A : Nat → Nat → Rat} (h : IsMat H v s c rb n A) (hn : n ≤ 440) (hn0 : 0 < n) {g : FuncId} {cs : List Value} {w : Nat} {A' : Nat → Nat → Rat} {y : Nat → Value}
  (hmore : ∀ i H1, i < n → Keep pm H H1 → Call X pm g (.int .i64 (i : Int) :: cs) H1 fun r H2 => H2 = H1 ∧ r = y i)
  (hy : ∀ i, i < n → (w = 0 ∧ y i = .slice none 0 0) ∨ (w = 1 ∧ ∃ cy off cap yb row p, y i = .slice (some ⟨cy, off, none⟩) 1 cap ∧ H.get cy = some yb ∧ rowOf yb = some row ∧ row[off]? = some p ∧ IsFrac H p (A' i n)))
  (hA : ∀ i k, i < n → k < n → A' i k = A i k) :
  Call X pm F.m_copied [v, .func (.func g) #[] ⟨cs⟩] H fun r H' => Keep pm H H' ∧ ∃ c' rb', MRow H' r c' rb' n (n + w) A' ∧ H.next ≤ c' ∧ ∀ i, i < n → H.next ≤ rb' i := by
 obtain ⟨plo, pok, pnum⟩ := pm
 obtain rfl : pnum = none := ho.num
 obtain ⟨x, vl, rfl, hg, hr, hm⟩ := id h.ex
 obtain ⟨cap, ss, rfl, hgc, hlc, hcc, hrc⟩ := id hm.ex
 have hpk : ∀ (H : Heap), Perm.pick ⟨plo, pok, none⟩ H = H.next := fun _ => rfl
 have hmk : ∀ (H : Heap) x, Perm.make ⟨plo, pok, none⟩ H x = H.new x := fun _ _ => rfl
 have hw1 : w ≤ 1 := by rcases hy 0 hn0 with h | h <;> omega
 refine Call.has hX.m_copied rfl ?_
 simp [-m_copied_k9]
 refine CallAt.of (by simp) (by simp) (MSize_spec hX ho h) ?_
 rintro _ Hs ⟨ks, rfl⟩
 simp
 refine LoopAt.of (fun z : CState => [(0, .pointer (some ⟨s, 0, none⟩)), (1, .func (.func g) #[] ⟨cs⟩), (5, z.v), (14, .int .i64 (n : Int)), (15, .int .i64 (z.i : Int))])
  (fun z H1 => Keep ⟨plo, pok, none⟩ H H1 ∧ z.i ≤ n ∧ CRows H H1 w n A' z) (fun z => n - z.i) ⟨0, none, .slice none 0 0, fun _ => 0⟩ (by simp) ⟨ks, by simp, [], ⟨rfl, rfl, rfl⟩, by simp, by simp, by simp⟩ ?_
 rintro ⟨i, o, vo, rb1⟩ H1 ⟨k1, hi, ss1, gs, hge, hrows, hinj⟩
 simp only at hi gs hge hrows hinj
 by_cases hin : i < n
 · have w1 : wr .i64 ((i : Int) + 1) = ((i + 1 : Nat) : Int) := by rw [wr_i64 (by omega) (by omega)]; simp
   obtain ⟨sr, sr1, sr2⟩ := hrc i hin
   obtain ⟨capr, psr, rfl, hgr, hlr, _, hvr, hfr⟩ := sr2.parts
   simp [hin, k1.some ho hg, hr.1, k1.some ho hgc, sr1, -withCells]
   refine CallAt.of (by simp) (by simp) (CloneE_spec (cap := capr) hX.toLX k1.ok (k1.some ho hgr) hlr hvr hn hn0) ?_
   rintro _ H2 ⟨k2, c2, rfl, hg2, hc2⟩
   have k12 := k1.trans k2
   simp [-withCells]
   refine CallVAt.of (by simp) (by simp; exact ⟨rfl, rfl, rfl⟩) (by simp; rfl) (hmore i H2 hin k12) ?_
   rintro _ H2 ⟨rfl, rfl⟩
   simp [-withCells]
   have hn1 := k1.next
   have hn2 := k2.next
   have hgs2 : GS H2 vo i ss1 o := by
    cases o with
    | none => exact gs
    | some c => exact ⟨gs.1, gs.2.1, k2.some k1.ok gs.2.2⟩
   have hlt : ∀ c, o = some c → c < H1.next := by
    rintro c rfl; exact k1.ok.lt gs.2.2
   have key : ∃ Ha ra ps, (withCells 1 (y i) fun new k => effAppend 1 8 (.slice (some ⟨c2, 0, none⟩) n n) new k).run ⟨plo, pok, none⟩ H2 = some (.slice (some ⟨ra, 0, none⟩) (n + w) (n + w), Ha) ∧ Ha.get ra = some (.cells ps (.n 1)) ∧ ps.length = n + w ∧ (∀ k, k < n + w → ∃ p, ps[k]? = some p ∧ IsFrac H p (A' i k)) ∧
    Keep ⟨plo, pok, none⟩ H1 Ha ∧ H1.next ≤ ra := by
    have el : ∀ k, k < n → ∃ p, psr[k]? = some p ∧ IsFrac H p (A' i k) := fun k hk => by
     obtain ⟨p, p1, p2⟩ := hfr k hk
     exact ⟨p, p1, by rw [hA i k hin hk]; exact p2⟩
    rcases hy i hin with ⟨rfl, e⟩ | ⟨rfl, cy, off, capy, yb, row, p, e, y1, y2, y3, y4⟩
    · refine ⟨H2, c2, psr, ?_, hg2, hlr, el, k2, hc2⟩
      rw [e]
      simp [effAppend]
    · obtain ⟨ap, rfl⟩ := y4.ptr
      obtain ⟨Ha, e1, e2, e3, e4, e5⟩ := app_step (by' := 8) k2.ok (v := .slice (some ⟨c2, 0, none⟩) n n) (x := .pointer ap) (ss := psr) (o := some c2) ⟨rfl, hlr, hg2⟩ (fun c hc => by cases hc; exact ho.may (by omega)) rfl (by omega) (by omega)
      refine ⟨Ha, H2.next, psr ++ [.pointer ap], ?_, e2.2.2, e2.2.1, fun k hk => ?_, e5 H1 k2 (fun c hc => by cases hc; exact hc2), by omega⟩
      · rw [e]
        simp [k12.some ho y1, y2, getCells_one y3]
        exact e1
      · by_cases hkn : k = n
        · subst hkn
          exact ⟨.pointer ap, by rw [← hlr]; simp, y4⟩
        · obtain ⟨p, p1, p2⟩ := el k (by omega)
          exact ⟨p, by rw [List.getElem?_append_left (by omega)]; exact p1, p2⟩
   obtain ⟨Ha, ra, ps, e1, ga, la, fa, ka, hra⟩ := key
   rw [e1]
   have k1a := k1.trans ka
   have gsa : GS (Ha.new (.cells [.slice (some ⟨ra, 0, none⟩) (n + w) (n + w)] (.n 1))) vo i ss1 o := by
    cases o with
    | none => exact gs
    | some c => exact ⟨gs.1, gs.2.1, (ka.new _).some k1.ok gs.2.2⟩
   obtain ⟨Hb, b1, b2, b3, b4, b5⟩ := app_step (by' := 24) (ka.new (.cells [.slice (some ⟨ra, 0, none⟩) (n + w) (n + w)] (.n 1))).ok gsa (x := .slice (some ⟨ra, 0, none⟩) (n + w) (n + w)) (fun c hc => ho.may (hge c hc)) rfl (by omega) (by omega)
   simp [hpk, hmk, getCells, b1, w1]
   have lra := ka.ok.lt ga
   have lan := ka.next
   have hnb : (Ha.new (.cells [.slice (some ⟨ra, 0, none⟩) (n + w) (n + w)] (.n 1))).next = Ha.next + 1 := rfl
   rw [hnb] at b2
   have sam : ∀ b, b < Ha.next → o ≠ some b → Hb.get b = Ha.get b := fun b hb hob => (b4 b (by omega) hob).trans (get_new_lt hb)
   refine .of ⟨i + 1, some (Ha.next + 1), .slice (some ⟨Ha.next + 1, 0, none⟩) (i + 1) (i + 1), fun j => if j = i then ra else rb1 j⟩ (by show n - (i + 1) < n - i; omega) (by simp) ⟨b5 H (k1a.new _) hge, by simp; omega, ss1 ++ [Value.slice (some ⟨ra, 0, none⟩) (n + w) (n + w)], b2, fun c hc => by simp at hc; omega, fun j hj => ?_, fun a b ha hb hab => ?_⟩
   · simp only at hj ⊢
     by_cases hji : j = i
     · subst hji
       simp only [if_true]
       exact ⟨n + w, by rw [← gs.len]; simp, by omega, by rw [b3, hnb]; omega, by simp; omega, Nat.le_refl _, ps, (sam ra lra (fun e => by have := hlt _ e; omega)).trans ga, la, fa⟩
     · simp only [hji, if_false]
       obtain ⟨cap', r1, r2, r3, r4, r5, ps', r6, r7, r8⟩ := hrows j (by omega)
       exact ⟨cap', by rw [List.getElem?_append_left (by rw [gs.len]; omega)]; exact r1, r2, by rw [b3, hnb]; omega, by simp; omega, r5, ps', (sam _ (by omega) r4).trans (ka.some k1.ok r6), r7, r8⟩
   · simp only at ha hb hab
     have lt : ∀ j, j < i → rb1 j < H1.next := fun j hj => by obtain ⟨_, _, _, r3, _⟩ := hrows j hj; exact r3
     by_cases h1 : a = i <;> by_cases h2 : b = i <;> simp only [h1, h2, if_true, if_false] at hab
     · omega
     · have := lt b (by omega); omega
     · have := lt a (by omega); omega
     · exact hinj a b (by omega) (by omega) hab
 · have : i = n := by omega
   subst this
   simp
   refine ⟨k1, ?_⟩
   cases o with
   | none => obtain ⟨rfl, _⟩ := gs; omega
   | some c' =>
     obtain ⟨rfl, hl1, hg1⟩ := gs
     refine ⟨c', rb1, ⟨⟨i, ss1, rfl, hg1, hl1, Nat.le_refl _, fun j hj => ?_⟩, hinj, fun j hj => ?_⟩, hge c' rfl, fun j hj => ?_⟩
     · obtain ⟨cap', r1, r2, r3, r4, r5, ps', r6, r7, r8⟩ := hrows j hj
       exact ⟨_, r1, ⟨cap', ps', rfl, r6, r7, r5, fun k hk => (r8 k hk).imp fun p q => ⟨q.1, q.2.keep ho k1⟩⟩⟩
     · obtain ⟨cap', r1, r2, r3, r4, _⟩ := hrows j hj
       exact fun e => r4 (by rw [e])
     · obtain ⟨cap', r1, r2, _⟩ := hrows j hj
       exact r2
end
section
open Go Go.Dam
variable [Fo : Foot]
variable {X : Cx} {pm : Perm} {H H' H'' : Heap}
theorem Rank_spec (hX : MX X) (ho : Ok pm H) {v : Value} {s c n k K : Nat} {rb : Nat → Nat} {A : Nat → Nat → Rat} (h : IsMat H v s c rb n A) (hn : n ≤ 440) (hn0 : 0 < n) (sA : ∀ i j, i < n → j < n → sz (A i j) k) (hgz : gz k n ≤ K) (hK : K < 8388608) :
  Call X pm F.m_Rank [v] H fun r H' => Keep pm H H' ∧ r = .int .i64 ((red A n 0 0 n).2 : Int) := by
 refine Call.has hX.m_Rank rfl ?_
 simp [-m_Rank_k2]
 refine CallAt.of (by simp) (by simp) (MSize_spec hX ho h) ?_
 rintro _ H1 ⟨k1, rfl⟩
 simp
 refine CallAt.of (vs := [v, .func (.func F.m_Rank1) #[] ⟨[]⟩]) (by simp) (by simp; rfl) (copied_spec hX k1.ok (h.keep ho k1) hn hn0 (w := 0) (A' := A) (y := fun _ => .slice none 0 0) (fun i H1 hi _ => Rank1_spec hX) (fun i hi => .inl ⟨rfl, rfl⟩) fun _ _ _ _ => rfl) ?_
 rintro vl H2 ⟨k2, c', rb', hm, hc', hrb'⟩
 have l1 := k1.next
 simp
 refine CallAt.of (by simp) (by simp) (reduced_spec hX k2.ok hm hn (by omega) (cols := n) (by omega) (ho.may (by omega)) (fun i hi => ho.may (by have := hrb' i hi; omega)) (k := k) (K := K) (fun i j hi hj => sA i j hi hj) hgz hK) ?_
 rintro _ H3 ⟨rfl, u3, _⟩
 simp
 refine Upd.keep (k1.trans k2) u3 ?_
 rintro b hb (rfl | ⟨i, hi, rfl⟩)
 · omega
 · have := hrb' i hi; omega
theorem MSolve_spec (hX : MX X) (ho : Ok pm H) {v vy : Value} {s c n cy k K : Nat} {rb : Nat → Nat} {A : Nat → Nat → Rat} {y : Nat → Rat} (h : IsMat H v s c rb n A) (hy : PRow H vy cy n y) (hn : n ≤ 440) (hn0 : 0 < n) (sA : ∀ i j, i < n → j < n → sz (A i j) k) (sy : ∀ i, i < n → sz (y i) k) (hgz : gz k n ≤ K) (hK : K < 8388608)
  (hfull : (red (fun i j => if j < n then A i j else y i) n 0 0 n).2 = n) :
  Call X pm F.m_Solve [v, vy] H fun r H' => Keep pm H H' ∧ ∃ x cx, r = .tuple #[x, .bool true] ∧ PRow H' x cx n (fun i => (red (fun i j => if j < n then A i j else y i) n 0 0 n).1 i n) := by
 obtain ⟨plo, pok, pnum⟩ := pm
 obtain rfl : pnum = none := ho.num
 have hpk : ∀ (H : Heap), Perm.pick ⟨plo, pok, none⟩ H = H.next := fun _ => rfl
 have hmk : ∀ (H : Heap) x, Perm.make ⟨plo, pok, none⟩ H x = H.new x := fun _ _ => rfl
 obtain ⟨capy, psy, rfl, hgy, hly, hcy, hfy⟩ := id hy.ex
 refine Call.has hX.m_Solve rfl ?_
 simp [ptr, hpk, hmk, -m_Solve_k19]
 obtain ⟨Hb, hHb⟩ : ∃ Hb, Hb = H.new (.cells [.slice (some ⟨cy, 0, none⟩) n capy] (.t 28)) := ⟨_, rfl⟩
 have kb : Keep ⟨plo, pok, none⟩ H Hb := by rw [hHb]; exact (Keep.refl ho).new _
 have hgb : Hb.get H.next = some (.cells [.slice (some ⟨cy, 0, none⟩) n capy] (.t 28)) := by rw [hHb]; exact get_new_next
 simp only [← hHb]
 refine CallAt.of (by simp) (by simp) (MSize_spec hX kb.ok (h.keep ho kb)) ?_
 rintro _ H1 ⟨k1, rfl⟩
 have hgb1 := k1.some kb.ok hgb
 have kb1 := kb.trans k1
 simp [hgb1, -m_Solve_k15]
 refine CallAt.of (by simp) (by simp) (copied_spec hX k1.ok (h.keep ho kb1) hn hn0 (g := F.m_Solve1) (cs := [.pointer (some ⟨H.next, 0, none⟩)]) (w := 1) (A' := fun i j => if j < n then A i j else y i) (y := fun i => .slice (some ⟨cy, i, none⟩) 1 (capy - i)) (fun i H2 hi k2 => Solve1_spec hX (k2.some k1.ok hgb1) rfl ((kb1.trans k2).some ho hgy) hi hcy hn)
  (fun i hi => .inr ⟨rfl, by
   obtain ⟨p, p1, p2⟩ := hfy i hi
   exact ⟨cy, i, _, _, psy, p, rfl, kb1.some ho hgy, rfl, p1, by simp; exact p2.keep ho kb1⟩⟩) fun i j _ hj => by simp [hj]) ?_
 rintro vl H2 ⟨k2, c', rb', hm, hc', hrb'⟩
 have l1 := kb1.next
 have l2 := k2.next
 simp [-m_Solve_k12, -m_Solve_k13]
 refine CallAt.of (by simp) (by simp) (reduced_spec hX k2.ok hm hn (by omega) (cols := n) (by omega) (ho.may (by omega)) (fun i hi => ho.may (by have := hrb' i hi; omega)) (k := k) (K := K) (fun i j hi hj => by
  show sz (if j < n then A i j else y i) k
  split
  · exact sA i j hi (by assumption)
  · exact sy i hi) hgz hK) ?_
 rintro _ H3 ⟨rfl, u3, rb3, hm3, hrb3⟩
 have k03 : Keep ⟨plo, pok, none⟩ H H3 := by
  refine Upd.keep (kb1.trans k2) u3 ?_
  rintro b hb (rfl | ⟨i, hi, rfl⟩)
  · omega
  · have := hrb' i hi; omega
 rw [hfull]
 have hsz := red_sz (R := n) (W := n + 1) (c := n) (k := k) (col := 0) (at' := 0) (A := fun i j => if j < n then A i j else y i) (by omega) (fun i j hi hj => by
  show sz (if j < n then A i j else y i) k
  split
  · exact sA i j hi (by assumption)
  · exact sy i hi)
 obtain ⟨z, hz⟩ : ∃ z : Nat → Nat → Rat, z = (red (fun i j => if j < n then A i j else y i) n 0 0 n).1 := ⟨_, rfl⟩
 rw [← hz] at hm3 hsz ⊢
 obtain ⟨cap3, ss3, rfl, hg3, hl3, hc3, hr3⟩ := id hm3.ex
 simp [fill, hpk, hmk, -m_Solve_b9]
 refine LoopAt.of (fun q : Nat × Value × Option Nat => [(7, .int .i64 (n : Int)), (9, q.2.1), (30, .slice (some ⟨c', 0, none⟩) n cap3), (31, .int .i64 (n : Int)), (32, .int .i64 (q.1 : Int))])
  (fun q H' => GRow Fo ⟨plo, pok, none⟩ H3 H' q.2.1 q.1 (fun i => z i n) q.2.2 ∧ q.1 ≤ n ∧ q.2.2 ≠ none) (fun q => n - q.1) (0, .slice (some ⟨H3.next, 0, none⟩) 0 0, some H3.next) (by simp) ⟨GRow.empty Fo k03.ok, by simp, by simp⟩ ?_
 rintro ⟨i, x, o⟩ H4 ⟨g4, hi, ho4⟩
 simp only at g4 hi ho4
 by_cases hin : i < n
 · have w1 : wr .i64 ((i : Int) + 1) = ((i + 1 : Nat) : Int) := by rw [wr_i64 (by omega) (by omega)]; simp
   obtain ⟨sr, sr1, sr2⟩ := hr3 i hin
   obtain ⟨capr, psr, rfl, hgr, hlr, _, hvr, hfr⟩ := sr2.parts
   obtain ⟨p, p1, p2⟩ := hfr n (by omega)
   simp [hin, g4.k.some k03.ok hg3, g4.k.some k03.ok hgr, sr1, p1]
   refine CallAt.of (by simp) (by simp) (@Add_frac (fl Fo o) X _ H4 hX.toNX g4.ok _ _ _ _ (K + 1) (g4.frac k03.ok p2) (@IsFrac.nil (fl Fo o) H4) (sz_mono (hsz i n hin (by omega)) (by omega)) (sz_zero (by omega)) (by omega)) ?_
   rintro r H5 ⟨k5, hr⟩
   rw [Rat.add_zero] at hr
   obtain ⟨ar, rfl⟩ := @IsFrac.ptr (fl Fo o) _ _ _ hr
   obtain ⟨H6, e6, g6⟩ := g4.grow k03.ok k5 hr (by omega)
   simp [hpk, hmk, getCells, e6, w1]
   refine .of (i + 1, _, some (H5.next + 1)) (by show n - (i + 1) < n - i; omega) (by simp; rfl) ⟨?_, by simp; omega, by simp⟩
   have ex : (fun j => if j = i then z i n else z j n) = fun j => z j n := by
    funext j
    split
    · rename_i e; rw [e]
    · rfl
   rw [ex] at g6
   exact g6
 · have : i = n := by omega
   subst this
   obtain ⟨cx, rfl⟩ := Option.ne_none_iff_exists'.1 ho4
   simp
   exact ⟨k03.trans g4.k, cx, g4.row⟩
end
section
open Go Go.Dam
variable [Fo : Foot]
variable {X : Cx} {pm : Perm} {H H' H'' : Heap}
theorem Turn_spec (hX : MX X) (ho : Ok pm H) {v : Value} {s c n : Nat} {rb : Nat → Nat} {A : Nat → Nat → Rat} (h : IsMat H v s c rb n A) (hn : n ≤ 440) (hn0 : 0 < n) :
  Call X pm F.m_Turn [v] H fun r H' => Keep pm H H' ∧ ∃ s' c' rb', IsMat H' r s' c' rb' n (fun i k => A k i) := by
 obtain ⟨plo, pok, pnum⟩ := pm
 obtain rfl : pnum = none := ho.num
 have hpk : ∀ (H : Heap), Perm.pick ⟨plo, pok, none⟩ H = H.next := fun _ => rfl
 have hmk : ∀ (H : Heap) x, Perm.make ⟨plo, pok, none⟩ H x = H.new x := fun _ _ => rfl
 obtain ⟨x, vl, rfl, hg, hr, hm⟩ := id h.ex
 obtain ⟨cap, ss, rfl, hgc, hlc, hcc, hrc⟩ := id hm.ex
 refine Call.has hX.m_Turn rfl ?_
 simp [-m_Turn_k16]
 refine CallAt.of (by simp) (by simp) (MSize_spec hX ho h) ?_
 rintro _ H1 ⟨k1, rfl⟩
 simp [ptr, hpk, hmk, -m_Turn_b13]
 obtain ⟨st, hst⟩ : ∃ st, st = H1.next := ⟨_, rfl⟩
 obtain ⟨H2, hH2⟩ : ∃ H2, H2 = H1.new (.cells [.slice none 0 0, .int .i64 (n : Int)] (.t 80)) := ⟨_, rfl⟩
 have kn : Keep ⟨plo, pok, none⟩ H1 H2 := by rw [hH2]; exact (Keep.refl k1.ok).new _
 have hgs : H2.get st = some (.cells [.slice none 0 0, .int .i64 (n : Int)] (.t 80)) := by rw [hH2, hst]; exact get_new_next
 have hl1 := k1.next
 have hl2 := kn.next
 have k02 := k1.trans kn
 simp only [← hH2, ← hst]
 refine LoopAt.of (fun z : CState => [(0, .pointer (some ⟨s, 0, none⟩)), (3, .int .i64 (n : Int)), (5, .pointer (some ⟨st, 0, none⟩)), (17, .int .i64 (n : Int)), (18, .int .i64 (z.i : Int))])
  (fun z H' => Keep ⟨plo, pok, none⟩ H H' ∧ z.i ≤ n ∧ st < H'.next ∧ H'.get st = some (.cells [z.v, .int .i64 (n : Int)] (.t 80)) ∧ z.o ≠ some st ∧ CRows H H' 0 n (fun i k => A k i) z ∧ ∀ j, j < z.i → z.rb j ≠ st) (fun z => n - z.i) ⟨0, none, .slice none 0 0, fun _ => 0⟩ (by simp) ⟨k02, by simp, k02.ok.lt hgs, hgs, by simp, ⟨[], ⟨rfl, rfl, rfl⟩, by simp, by simp, by simp⟩, by simp⟩ ?_
 rintro ⟨i, o, vo, rb1⟩ H3 ⟨k3, hi, hlst, hgst, host, ⟨ss1, gs, hge, hrows, hinj⟩, hrst⟩
 simp only at hi hgst gs hge hrows hinj host hrst
 by_cases hin : i < n
 · have w1 : wr .i64 ((i : Int) + 1) = ((i + 1 : Nat) : Int) := by rw [wr_i64 (by omega) (by omega)]; simp
   have hlt : ∀ c, o = some c → c < H3.next := by
    rintro c rfl; exact k3.ok.lt gs.2.2
   simp [hin, -m_Turn_k9]
   rw [mk_run k3.ok (by omega) (by omega)]
   obtain ⟨r, hr0⟩ : ∃ r, r = H3.next := ⟨_, rfl⟩
   obtain ⟨H4, hH4⟩ : ∃ H4, H4 = H3.new (.cells (times [.pointer none] n) (.n 1)) := ⟨_, rfl⟩
   have k4 : Keep ⟨plo, pok, none⟩ H3 H4 := by rw [hH4]; exact (Keep.refl k3.ok).new _
   have hg4 : H4.get r = some (.cells (times [.pointer none] n) (.n 1)) := by rw [hH4, hr0]; exact get_new_next
   have hl3 := k3.next
   have hl4 : H4.next = r + 1 := by rw [hH4, hr0]; rfl
   simp [← hH4, ← hr0, -m_Turn_k2, -m_Turn_b7]
   have k04 := k3.trans k4
   refine LoopAt.of (fun j : Nat => [(0, .pointer (some ⟨s, 0, none⟩)), (3, .int .i64 (n : Int)), (5, .pointer (some ⟨st, 0, none⟩)), (6, .int .i64 (i : Int)), (7, .slice (some ⟨r, 0, none⟩) n n), (17, .int .i64 (n : Int)), (18, .int .i64 (i : Int)), (24, .int .i64 (n : Int)), (25, .int .i64 (j : Int))])
    (fun j H' => Keep ⟨plo, pok, none⟩ H H' ∧ Keep ⟨plo, pok, none⟩ H3 H' ∧ H'.next = r + 1 ∧ j ≤ n ∧ ∃ ps, H'.get r = some (.cells ps (.n 1)) ∧ ps.length = n ∧ ∀ t, t < j → ∃ p, ps[t]? = some p ∧ IsFrac H p (A t i)) (fun j => n - j) 0 (by simp) ⟨k04, k4, hl4, by simp, _, hg4, by rw [times_one]; simp, by simp⟩ ?_
   rintro j H5 ⟨k05, k35, hl5, hj, ps, hg5, hps, hfs⟩
   by_cases hjn : j < n
   · have w2 : wr .i64 ((j : Int) + 1) = ((j + 1 : Nat) : Int) := by rw [wr_i64 (by omega) (by omega)]; simp
     obtain ⟨sr, sr1, sr2⟩ := hrc j hjn
     obtain ⟨capr, psr, rfl, hgr, hlr, _, hvr, hfr⟩ := sr2.parts
     obtain ⟨p, p1, p2⟩ := hfr i hin
     have hmr : Perm.may ⟨plo, pok, none⟩ r = true := ho.may (by omega)
     obtain ⟨ap, rfl⟩ := p2.ptr
     have hsc : setCells ps j [Value.pointer ap] = some (ps.set j (.pointer ap)) := setCells_one (by omega)
     simp [hjn, hin, k05.some ho hg, hr.1, k05.some ho hgc, sr1, k05.some ho hgr, p1, hg5, hsc, hmr, w2, -m_Turn_k2, -setCells_one]
     refine .of (j + 1) (by show n - (j + 1) < n - j; omega) (by simp) ⟨k05.put (by omega) hg5 _, k35.put (by omega) hg5 _, hl5, by omega, _, get_put_same, by simp [hps], fun t ht => ?_⟩
     by_cases htj : t = j
     · subst htj
       exact ⟨_, List.getElem?_set_self (by omega), p2⟩
     · obtain ⟨q, q1, q2⟩ := hfs t (by omega)
       exact ⟨q, by rw [List.getElem?_set_ne (fun e => htj e.symm)]; exact q1, q2⟩
   · have : j = n := by omega
     subst this
     have hgs5 := k35.some k3.ok hgst
     have gsa : GS (H5.new (.cells [.slice (some ⟨r, 0, none⟩) j j] (.n 1))) vo i ss1 o := by
      cases o with
      | none => exact gs
      | some c => exact ⟨gs.1, gs.2.1, (k35.new _).some k3.ok gs.2.2⟩
     obtain ⟨Hb, b1, b2, b3, b4, b5⟩ := app_step (by' := 24) (k35.new (.cells [.slice (some ⟨r, 0, none⟩) j j] (.n 1))).ok gsa (x := .slice (some ⟨r, 0, none⟩) j j) (fun c hc => ho.may (hge c hc)) rfl (by omega) (by omega)
     have hnb : (H5.new (.cells [.slice (some ⟨r, 0, none⟩) j j] (.n 1))).next = H5.next + 1 := rfl
     rw [hnb] at b2
     have sam : ∀ b, b < H5.next → o ≠ some b → Hb.get b = H5.get b := fun b hb hob => (b4 b (by omega) hob).trans (get_new_lt hb)
     have hgsb : Hb.get st = some (.cells [vo, .int .i64 (j : Int)] (.t 80)) := (sam st (by omega) host).trans hgs5
     have hgs6 : ∀ x, (H5.new x).get st = some (.cells [vo, .int .i64 (j : Int)] (.t 80)) := fun x => (get_new_lt (by omega)).trans hgs5
     have hmst : Perm.may ⟨plo, pok, none⟩ st = true := ho.may (by omega)
     have kb := b5 H (k05.new _) hge
     have hsc : setCells [vo, Value.int .i64 (j : Int)] 0 [Value.slice (some ⟨H5.next + 1, 0, none⟩) (i + 1) (i + 1)] = some [Value.slice (some ⟨H5.next + 1, 0, none⟩) (i + 1) (i + 1), .int .i64 (j : Int)] := setCells_one (by simp)
     simp [fill, hpk, hmk, getCells, hgs5, b1, hgsb, hmst, hsc, w1, -setCells_one]
     have lr : r < H5.next := by omega
     refine .of ⟨i + 1, some (H5.next + 1), .slice (some ⟨H5.next + 1, 0, none⟩) (i + 1) (i + 1), fun t => if t = i then r else rb1 t⟩ (by show j - (i + 1) < j - i; omega) (by simp) ⟨kb.put (by omega) hgsb _, by simp; omega, ?_, get_put_same, by simp; omega, ⟨ss1 ++ [Value.slice (some ⟨r, 0, none⟩) j j], ⟨rfl, b2.2.1, ?_⟩, fun c hc => by simp at hc; omega, fun t ht => ?_, fun a b ha hb hab => ?_⟩, fun t ht => ?_⟩
     · show st < Hb.next
       omega
     · rw [get_put_ne (by omega)]
       exact b2.2.2
     · simp only at ht ⊢
       have nx : (Hb.put st (.cells [Value.slice (some ⟨H5.next + 1, 0, none⟩) (i + 1) (i + 1), .int .i64 (j : Int)] (.t 80))).next = H5.next + 2 := by show Hb.next = _; omega
       by_cases hti : t = i
       · subst hti
         simp only [if_true]
         exact ⟨j, by rw [← gs.len]; simp, by omega, by rw [nx]; omega, by simp; omega, Nat.le_refl _, ps, ((get_put_ne (by omega)).trans (sam r lr (fun e => by have := hlt _ e; omega))).trans hg5, hps, fun k hk => hfs k hk⟩
       · simp only [hti, if_false]
         obtain ⟨cap', r1, r2, r3, r4, r5, ps', r6, r7, r8⟩ := hrows t (by omega)
         exact ⟨cap', by rw [List.getElem?_append_left (by rw [gs.len]; omega)]; exact r1, r2, by rw [nx]; omega, by simp; omega, r5, ps', ((get_put_ne (hrst t (by omega))).trans (sam _ (by omega) r4)).trans (k35.some k3.ok r6), r7, r8⟩
     · simp only at ha hb hab
       have lt : ∀ t, t < i → rb1 t < H3.next := fun t ht => by obtain ⟨_, _, _, r3, _⟩ := hrows t ht; exact r3
       by_cases h1 : a = i <;> by_cases h2 : b = i <;> simp only [h1, h2, if_true, if_false] at hab
       · omega
       · have := lt b (by omega); omega
       · have := lt a (by omega); omega
       · exact hinj a b (by omega) (by omega) hab
     · simp only at ht ⊢
       by_cases hti : t = i
       · simp only [hti, if_true]; omega
       · simp only [hti, if_false]; exact hrst t (by omega)
 · have : i = n := by omega
   subst this
   simp
   refine ⟨k3, ?_⟩
   cases o with
   | none => obtain ⟨rfl, _⟩ := gs; omega
   | some c' =>
     obtain ⟨rfl, hl1, hg1⟩ := gs
     refine ⟨st, c', rb1, ⟨_, _, rfl, hgst, ⟨rfl, rfl⟩, ⟨⟨i, ss1, rfl, hg1, hl1, Nat.le_refl _, fun j hj => ?_⟩, hinj, fun j hj => ?_⟩⟩⟩
     · obtain ⟨cap', r1, r2, r3, r4, r5, ps', r6, r7, r8⟩ := hrows j hj
       exact ⟨_, r1, ⟨cap', ps', rfl, r6, r7, r5, fun k hk => (r8 k hk).imp fun p q => ⟨q.1, q.2.keep ho k3⟩⟩⟩
     · obtain ⟨cap', r1, r2, r3, r4, _⟩ := hrows j hj
       exact fun e => r4 (by rw [e])
end
section
open Go Go.Dam
variable [Fo : Foot]
variable {X : Cx} {pm : Perm} {H H' H'' : Heap}
theorem Turned_spec (hX : MX X) (ho : Ok pm H) {v vy : Value} {n b C V cy k K : Nat} {cb vb : Nat → Nat} {A B : Nat → Nat → Rat} {y : Nat → Rat} (hb : IsBasis H v n b C V cb vb A B) (hy : PRow H vy cy n y) (hn : n ≤ 440)
  (sB : ∀ i j, i < n → j < n → sz (B i j) k) (sy : ∀ i, i < n → sz (y i) k) (sK : ∀ i j, i < n → j ≤ n → sz (sumTo (fun t => y t * B t i) j) K) (hkK : 2 * k ≤ K) (hK : K < 67108864) :
  Call X pm F.a_Turned [v, vy] H fun r H' => Keep pm H H' ∧ ∃ cx, PRow H' r cx n (fun i => sumTo (fun t => y t * B t i) n) := by
 obtain ⟨plo, pok, pnum⟩ := pm
 obtain rfl : pnum = none := ho.num
 have hpk : ∀ (H : Heap), Perm.pick ⟨plo, pok, none⟩ H = H.next := fun _ => rfl
 have hmk : ∀ (H : Heap) x, Perm.make ⟨plo, pok, none⟩ H x = H.new x := fun _ _ => rfl
 obtain ⟨⟨bx, vc, vi, rfl, hgb, hrb, hmc, hmv⟩, _⟩ := hb
 obtain ⟨capC, ssC, rfl, hgC, hlC, hcC, hrC⟩ := hmc.ex
 obtain ⟨capV, ssV, rfl, hgV, hlV, hcV, hrV⟩ := hmv.ex
 obtain ⟨capy, psy, rfl, hgy, hly, hcy, hfy⟩ := id hy.ex
 obtain ⟨hrb, _⟩ := hrb
 refine Call.has hX.a_Turned rfl ?_
 have hbl : b < H.next := ho.lt hgb
 have hg0 : ∀ x, (H.new x).get b = some bx := fun x => by rw [get_new_lt hbl]; exact hgb
 simp [hgb, hrb, fill, hpk, hmk, hg0, -a_Turned_b14]
 refine LoopAt.of (fun q : Nat × Value × Option Nat => [(0, .pointer (some ⟨b, 0, none⟩)), (1, .slice (some ⟨cy, 0, none⟩) n capy), (5, q.2.1), (26, .int .i64 (n : Int)), (27, .int .i64 (q.1 : Int))])
  (fun q H' => GRow Fo ⟨plo, pok, none⟩ H H' q.2.1 q.1 (fun i => sumTo (fun t => y t * B t i) n) q.2.2 ∧ q.1 ≤ n ∧ q.2.2 ≠ none) (fun q => n - q.1) (0, .slice (some ⟨H.next, 0, none⟩) 0 0, some H.next) (by simp) ⟨GRow.empty Fo ho, by simp, by simp⟩ ?_
 rintro ⟨i, x, o⟩ H1 ⟨g1, hi, ho1⟩
 simp only at g1 hi ho1
 by_cases hin : i < n
 · have w1 : wr .i64 ((i : Int) + 1) = ((i + 1 : Nat) : Int) := by rw [wr_i64 (by omega) (by omega)]; simp
   simp [hin, -a_Turned_k9]
   refine CallAt.of (by simp) (by simp) (@Of_zero (fl Fo o) X _ H1 hX.toLX g1.ok) ?_
   rintro s2 H2 ⟨k2, hs2⟩
   simp [-a_Turned_b7, -a_Turned_k2]
   refine LoopAt.of (fun q : Nat × Value => [(0, .pointer (some ⟨b, 0, none⟩)), (1, .slice (some ⟨cy, 0, none⟩) n capy), (5, x), (6, .int .i64 (i : Int)), (7, q.2), (26, .int .i64 (n : Int)), (27, .int .i64 (i : Int)), (32, .int .i64 (n : Int)), (33, .int .i64 (q.1 : Int))])
    (fun q H' => @Keep (fl Fo o) ⟨plo, pok, none⟩ H1 H' ∧ q.1 ≤ n ∧ @IsFrac (fl Fo o) H' q.2 (sumTo (fun t => y t * B t i) q.1)) (fun q => n - q.1) (0, s2) (by simp) ⟨k2, by simp, hs2⟩ ?_
   rintro ⟨j, s⟩ H3 ⟨k3, hj, hs3⟩
   simp only at hj hs3
   have up : ∀ {q : Nat} {z : Blk}, H.get q = some z → H3.get q = some z := fun hq => @Keep.some (fl Fo o) _ _ _ k3 g1.ok _ _ (g1.k.some ho hq)
   by_cases hjn : j < n
   · have w2 : wr .i64 ((j : Int) + 1) = ((j + 1 : Nat) : Int) := by rw [wr_i64 (by omega) (by omega)]; simp
     obtain ⟨sr, sr1, sr2⟩ := hrV j hjn
     obtain ⟨capr, psr, rfl, hgr, hlr, _, hvr, hfr⟩ := sr2.parts
     obtain ⟨p, p1, p2⟩ := hfr i hin
     obtain ⟨q, q1, q2⟩ := hfy j hjn
     have ok3 := @Keep.ok (fl Fo o) _ _ _ k3
     have hres : ∀ k, H3.get (H3.next + k) = none := fun k => @Ok.wf (fl Fo o) _ _ ok3 _ (by omega)
     have hres0 : H3.get H3.next = none := @Ok.wf (fl Fo o) _ _ ok3 _ (by omega)
     have kU : @Keep (fl Fo o) ⟨plo, pok, none⟩ H1 (H3.up 18) := @Keep.up (fl Fo o) _ _ _ k3 18
     have p3 := @IsFrac.keep (fl Fo o) _ _ _ _ _ (g1.frac ho p2) g1.ok kU
     have q3 := @IsFrac.keep (fl Fo o) _ _ _ _ _ (g1.frac ho q2) g1.ok kU
     simp [hjn]
     refine DrawAt.of (@Ok.lo (fl Fo o) _ _ ok3) rfl ?_
     simp [inOrd, hin, hjn, hres, hres0, up hgb, hrb, up hgV, sr1, up hgr, p1, up hgy, q1]
     refine CallD.fixed (by simp [hres]) (by simp) (by simp) rfl (@Mul_frac (fl Fo o) X _ (H3.up 18) hX.toNX (@Keep.ok (fl Fo o) _ _ _ kU) _ _ _ _ k q3 p3 (sy j hjn) (sB j i hjn hin) (by omega)) ?_
     rintro r4 H4 ⟨k4, hr4⟩
     have hres4 : ∀ t, t < 18 → H4.get (H3.next + t) = none := fun t ht => (@Keep.get (fl Fo o) _ _ _ k4 _ (by simp; omega)).trans (hres t)
     simp
     have ss3 := @IsFrac.keep (fl Fo o) _ _ _ _ _ hs3 ok3 (@Keep.trans (fl Fo o) _ _ _ _ (@Keep.up (fl Fo o) _ _ _ (@Keep.refl (fl Fo o) _ _ ok3) 18) k4)
     refine CallD.fixed (by simp [hres4]) (by simp) (by simp) rfl (@Add_frac (fl Fo o) X _ H4 hX.toNX (@Keep.ok (fl Fo o) _ _ _ k4) _ _ _ _ K ss3 hr4 (sK i j hin hj) (sz_mono (sz_mul (sy j hjn) (sB j i hjn hin)) hkK) (by omega)) ?_
     rintro r5 H5 ⟨k5, hr5⟩
     have hn4 := @Keep.next (fl Fo o) _ _ _ k4
     have hres5 : ∀ t, t < 18 → H5.get (H3.next + t) = none := fun t ht => (@Keep.get (fl Fo o) _ _ _ k5 _ (by simp at hn4; omega)).trans (hres4 t ht)
     have lt3 : ∀ {q : Nat} {z : Blk}, H3.get q = some z → q < H3.next := fun hq => @Ok.lt (fl Fo o) _ _ ok3 _ _ hq
     have l1 := lt3 (up hgb)
     have l2 := lt3 (up hgV)
     have l3 := lt3 (up hgr)
     have l4 := lt3 (up hgy)
     simp [hres5, confFine, madeB, l1, l2, l3, l4, w2]
     exact .of (j + 1, r5) (by show n - (j + 1) < n - j; omega) (by simp) ⟨@Keep.trans (fl Fo o) _ _ _ _ kU (@Keep.trans (fl Fo o) _ _ _ _ k4 k5), by simp; omega, hr5⟩
   · have : j = n := by omega
     subst this
     obtain ⟨ar, rfl⟩ := @IsFrac.ptr (fl Fo o) _ _ _ hs3
     obtain ⟨H6, e6, g6⟩ := g1.grow ho k3 hs3 (by omega)
     simp [hpk, hmk, getCells, e6, w1]
     refine .of (i + 1, _, some (H3.next + 1)) (by show j - (i + 1) < j - i; omega) (by simp; rfl) ⟨?_, by simp; omega, by simp⟩
     have ex : (fun t => if t = i then sumTo (fun t => y t * B t i) j else sumTo (fun u => y u * B u t) j) = fun t => sumTo (fun u => y u * B u t) j := by
      funext t
      split
      · rename_i e; rw [e]
      · rfl
     rw [ex] at g6
     exact g6
 · have : i = n := by omega
   subst this
   obtain ⟨cx, rfl⟩ := Option.ne_none_iff_exists'.1 ho1
   simp
   exact ⟨g1.k, cx, g1.row⟩
end
section
open Go Go.Dam
/-! ## A matrix is read -/
/-- Rows of texts. -/
structure SMat (H : Heap) (v : Value) (c : Nat) (rb : Nat → Nat) (n : Nat) (t : Nat → Nat → List UInt8) : Prop where
 ex : ∃ cap ss, v = .slice (some ⟨c, 0, none⟩) n cap ∧ H.get c = some (.cells ss (.n 1)) ∧ ss.length = n ∧ n ≤ cap ∧ ∀ i, i < n → ∃ capi ts, ss[i]? = some (.slice (some ⟨rb i, 0, none⟩) n capi) ∧ n ≤ capi ∧ H.get (rb i) = some (.cells ts (.n 1)) ∧ ts.length = n ∧ ∀ k, k < n → ts[k]? = some (St (t i k))
/-- A block that is given up; another that comes. -/
theorem kill_conv (F : Foot) {pm : Perm} {H2 H' : Heap} {o : Option Nat} {m : Nat} (ok2 : @Ok (fl F o) pm H2) (wf' : ∀ b, H'.next ≤ b → H'.get b = none) (hm : H2.next ≤ m) (same : ∀ b, b < H2.next → o ≠ some b → H'.get b = H2.get b)
  (hc : ∀ c, o = some c → ∃ cs, H2.get c = some (.cells cs (.n 1))) {u : Value} {r : Rat} (hu : @IsFrac (fl F o) H2 u r) : @IsFrac (fl F (some m)) H' u r := by
 have a2 := IsFrac.refoot (fl F o) ⟨fun b => F.s b ∧ o ≠ some b ∧ b ≠ m⟩ (@Ok.wf (fl F o) _ _ ok2) (fun b hb h => ⟨h.1, h.2, by omega⟩) hu
 have b1 := IsFrac.le2 ⟨fun b => F.s b ∧ o ≠ some b ∧ b ≠ m⟩ (H' := H') a2 fun b y hy hg => by
  have hbl := @Ok.lt (fl F o) _ _ ok2 _ _ hy
  rw [same b hbl ?_]
  · exact hy
  rintro rfl
  rcases hg with hg | ⟨row, hg, _⟩
  · exact hg.2.1 rfl
  · obtain ⟨cs, hcs⟩ := hc b rfl
    rw [hcs] at hy
    cases hy
    exact absurd hg.2 (by simp [typedB])
 exact IsFrac.refoot ⟨fun b => F.s b ∧ o ≠ some b ∧ b ≠ m⟩ (fl F (some m)) wf' (fun b _ h => ⟨h.1, by simp; exact fun e => h.2.2 e.symm⟩) b1
/-- A variable of two cells is written. -/
theorem st_conv (G : Foot) {H : Heap} {st : Nat} {a b : Value} {T : TypeId} (hs : ¬ G.s st) (hg : H.get st = some (.cells [a, b] (.t T))) (y : Blk) {u : Value} {r : Rat} (hu : @IsFrac G H u r) : @IsFrac G (H.put st y) u r := by
 refine IsFrac.le2 G hu fun c z hz hc => ?_
 rw [get_put_ne]
 · exact hz
 · rintro rfl
   rcases hc with hc | ⟨row, hc, hl⟩
   · exact hs hc
   · rw [hg] at hz
     cases hz
     have := hc.1
     simp only [rowOf_cells, Option.some.injEq] at this
     rw [← this] at hl
     exact hl rfl
structure NInv (Fo : Foot) (pm : Perm) (H H1 : Heap) (st n : Nat) (A : Nat → Nat → Rat) (z : CState) (m : Int) : Prop where
 k : @Keep Fo pm H H1
 ok : @Ok (fl (fless Fo st) z.o) pm H1
 hs : H1.get st = some (.cells [z.v, .int .i64 m] (.t 80))
 st0 : H.next ≤ st
 sto : z.o ≠ some st
 ge : ∀ c, z.o = some c → H.next ≤ c
 ex : ∃ ss, GS H1 z.v z.i ss z.o ∧ ∀ j, j < z.i → ∃ cap', ss[j]? = some (.slice (some ⟨z.rb j, 0, none⟩) n cap') ∧ n ≤ cap' ∧ z.o ≠ some (z.rb j) ∧ z.rb j ≠ st ∧ H.next ≤ z.rb j ∧ ∃ ps, H1.get (z.rb j) = some (.cells ps (.n 1)) ∧ ps.length = n ∧ ∀ k, k < n → ∃ p, ps[k]? = some p ∧ @IsFrac (fl (fless Fo st) z.o) H1 p (A j k)
 inj : ∀ a b, a < z.i → b < z.i → z.rb a = z.rb b → a = b
theorem NInv.cols {Fo : Foot} {pm : Perm} {H H1 : Heap} {st n : Nat} {A : Nat → Nat → Rat} {z : CState} {m m' : Int} (h : NInv Fo pm H H1 st n A z m) : NInv Fo pm H (H1.put st (.cells [z.v, .int .i64 m'] (.t 80))) st n A z m' := by
 have kp : @Keep Fo pm H (H1.put st (.cells [z.v, .int .i64 m'] (.t 80))) := @Keep.put Fo _ _ _ h.k _ _ h.st0 h.hs _
 refine ⟨kp, Ok.refoot Fo _ (@Keep.ok Fo _ _ _ kp) fun b hb => @Ok.new (fl (fless Fo st) z.o) _ _ h.ok b hb, get_put_same, h.st0, h.sto, h.ge, ?_, h.inj⟩
 obtain ⟨ss, gs, hr⟩ := h.ex
 have hG : ¬ (fl (fless Fo st) z.o).s st := fun e => e.1.2 rfl
 refine ⟨ss, ?_, fun j hj => ?_⟩
 · have hsto := h.sto
   revert gs hsto
   cases z.o with
   | none => exact fun gs _ => gs
   | some c => exact fun gs hsto => ⟨gs.1, gs.2.1, (get_put_ne (fun e => hsto (by rw [e]))).trans gs.2.2⟩
 · obtain ⟨cap', r1, r2, r3, r4, r0, ps, r5, r6, r7⟩ := hr j hj
   exact ⟨cap', r1, r2, r3, r4, r0, ps, (get_put_ne r4).trans r5, r6, fun k hk => (r7 k hk).imp fun p q => ⟨q.1, st_conv _ hG h.hs _ q.2⟩⟩
section
variable {X : Cx} {pm : Perm} {H H' H'' : Heap}
theorem New_row (Fo : Foot) (hX : MX X) (ho : @Ok Fo pm H) (ht : Tab H) {v : Value} {st n i rr capr : Nat} {A : Nat → Nat → Rat} {z : CState} {ts : List Value} {t : Nat → List UInt8} (hi : NInv Fo pm H H' st n A z (n : Int)) (hzi : z.i = i) (hin : i < n) (hn : n ≤ 440)
  (hgr : H.get rr = some (.cells ts (.n 1))) (hlt : ts.length = n) (htx : ∀ k, k < n → ts[k]? = some (St (t k))) (hl : ∀ k, k < n → (t k).length < 1000000) (hq : ∀ k, k < n → getQ (t k) = some (A i k)) {L : Sl} {ks : List Fr} {Q : Post}
  (l0 : lk 0 L = some v) (l4 : lk 4 L = some (.pointer (some ⟨st, 0, none⟩))) (l6 : lk 6 L = some (.slice (some ⟨rr, 0, none⟩) n capr)) (l17 : lk 17 L = some v) (l18 : lk 18 L = some (.int .i64 (n : Int))) (l19 : lk 19 L = some (.int .i64 (i : Int)))
  (hQ : ∀ L' H3 z', NInv Fo pm H H3 st n A z' (n : Int) → z'.i = i + 1 → lk 0 L' = some v → lk 4 L' = some (.pointer (some ⟨st, 0, none⟩)) → lk 17 L' = some v → lk 18 L' = some (.int .i64 (n : Int)) → lk 19 L' = some (.int .i64 (i : Int)) → wp X pm (.res .normal) L' H3 ks Q) :
  wp X pm (.code m_New_k16) L H' ks Q := by
 obtain ⟨plo, pok, pnum⟩ := pm
 obtain rfl : pnum = none := @Ok.num Fo _ _ ho
 have hpk : ∀ (H : Heap), Perm.pick ⟨plo, pok, none⟩ H = H.next := fun _ => rfl
 have hmk : ∀ (H : Heap) x, Perm.make ⟨plo, pok, none⟩ H x = H.new x := fun _ _ => rfl
 have hn' : ¬ 440 < n := by omega
 obtain ⟨F', hF'⟩ : ∃ F', F' = fl (fless Fo st) z.o := ⟨_, rfl⟩
 have hiok := hi.ok
 rw [← hF'] at hiok
 simp [l4, l6, hi.hs, hn', -m_New_b11, -m_New_k2]
 refine LoopAt.of (fun q : Nat × Value × Option Nat => [(0, v), (4, .pointer (some ⟨st, 0, none⟩)), (7, q.2.1), (17, v), (18, .int .i64 (n : Int)), (19, .int .i64 (i : Int)), (43, .slice (some ⟨rr, 0, none⟩) n capr), (44, .int .i64 (n : Int)), (45, .int .i64 (q.1 : Int))])
  (fun q H3 => GRow F' ⟨plo, pok, none⟩ H' H3 q.2.1 q.1 (A i) q.2.2 ∧ q.1 ≤ n ∧ (q.2.2 = none → q.1 = 0)) (fun q => n - q.1) (0, .slice none 0 0, none) (by simp [l0, l4, l17, l18, l19]) ⟨GRow.nil F' hiok, by simp, by simp⟩ ?_
 rintro ⟨j, x, o⟩ H3 ⟨g3, hj, hjo⟩
 simp only at g3 hj hjo
 have up : ∀ {q : Nat} {y : Blk}, H.get q = some y → H3.get q = some y := fun hq => @Keep.some F' _ _ _ g3.k hiok _ _ (@Keep.some Fo _ _ _ hi.k ho _ _ hq)
 by_cases hjn : j < n
 · have w2 : wr .i64 ((j : Int) + 1) = ((j + 1 : Nat) : Int) := by rw [wr_i64 (by omega) (by omega)]; simp
   simp [hjn, up hgr, htx j hjn]
   refine CallAt.of (by simp) (by simp) (@Get_frac (fl F' o) X _ H3 hX.toLX g3.ok (up ht) (t j) (hl j hjn)) ?_
   rintro _ H4 ⟨k4, ⟨e, _⟩ | ⟨q, p, e, rfl, hp⟩⟩
   · rw [hq j hjn] at e; cases e
   rw [hq j hjn] at e
   cases e
   obtain ⟨ap, rfl⟩ := @IsFrac.ptr (fl F' o) _ _ _ hp
   obtain ⟨H5, e5, g5⟩ := g3.grow hiok k4 hp (by omega)
   simp [hpk, hmk, getCells, e5, w2]
   refine .of (j + 1, _, some (H4.next + 1)) (by show n - (j + 1) < n - j; omega) (by simp; rfl) ⟨?_, by simp; omega, by simp⟩
   have ex : (fun u => if u = j then A i j else A i u) = A i := by
    funext u
    split
    · rename_i e; rw [e]
    · rfl
   rw [ex] at g5
   exact g5
 · have : j = n := by omega
   subst this
   cases o with
   | none => have := hjo rfl; omega
   | some r =>
   have hrow := g3.row
   obtain ⟨capx, psx, rfl, hgx, hlx, hcx, _, hfx⟩ := @PRow.parts F' _ _ _ _ _ hrow
   have okF3 := @Keep.ok F' _ _ _ g3.k
   obtain ⟨ss, gs, hr⟩ := hi.ex
   rw [hzi] at gs hr
   have hge := g3.ge r rfl
   have k03 : @Keep Fo ⟨plo, pok, none⟩ H H3 := @Keep.trans Fo _ _ _ _ hi.k (Keep.refoot F' Fo g3.k fun b hb => @Ok.new Fo _ _ (@Keep.ok Fo _ _ _ hi.k) b (Nat.le_trans (@Keep.next F' _ _ _ g3.k) hb))
   have hs3 : H3.get st = some (.cells [z.v, .int .i64 (j : Int)] (.t 80)) := @Keep.some F' _ _ _ g3.k hiok _ _ hi.hs
   have hstl : st < H3.next := @Ok.lt F' _ _ okF3 _ _ hs3
   have hstl' : st < H'.next := @Ok.lt F' _ _ hiok _ _ hi.hs
   have kn : @Keep Fo ⟨plo, pok, none⟩ H (H3.new (.cells [.slice (some ⟨r, 0, none⟩) j capx] (.n 1))) := @Keep.new Fo _ _ _ k03 _
   have knF : @Keep F' ⟨plo, pok, none⟩ H' (H3.new (.cells [.slice (some ⟨r, 0, none⟩) j capx] (.n 1))) := @Keep.new F' _ _ _ g3.k _
   have gsa : GS (H3.new (.cells [.slice (some ⟨r, 0, none⟩) j capx] (.n 1))) z.v i ss z.o := by
    revert gs
    cases z.o with
    | none => exact fun gs => gs
    | some c => exact fun gs => ⟨gs.1, gs.2.1, @Keep.some F' _ _ _ knF hiok _ _ gs.2.2⟩
   obtain ⟨Hb, b1, b2, b3, b4, b5⟩ := @app_step Fo _ _ (@Keep.ok Fo _ _ _ kn) z.v (.slice (some ⟨r, 0, none⟩) j capx) i 24 ss z.o gsa (fun c hc => @Ok.may Fo _ _ ho _ (hi.ge c hc)) rfl (by omega) (by omega)
   have hnb : (H3.new (.cells [.slice (some ⟨r, 0, none⟩) j capx] (.n 1))).next = H3.next + 1 := rfl
   rw [hnb] at b2
   have sam : ∀ b, b < H3.next → z.o ≠ some b → Hb.get b = H3.get b := fun b hb hob => (b4 b (by omega) hob).trans (get_new_lt hb)
   have hsb : Hb.get st = some (.cells [z.v, .int .i64 (j : Int)] (.t 80)) := (sam st hstl hi.sto).trans hs3
   have kb := b5 H kn hi.ge
   have hmst : Perm.may ⟨plo, pok, none⟩ st = true := @Ok.may Fo _ _ ho _ hi.st0
   have hsc : setCells [z.v, Value.int .i64 (j : Int)] 0 [Value.slice (some ⟨H3.next + 1, 0, none⟩) (i + 1) (i + 1)] = some [Value.slice (some ⟨H3.next + 1, 0, none⟩) (i + 1) (i + 1), .int .i64 (j : Int)] := setCells_one (by simp)
   simp [hs3, hpk, hmk, getCells, b1, hsb, hmst, hsc, -setCells_one]
   have hn3 := @Keep.next Fo _ _ _ k03
   have hn3' := @Keep.next F' _ _ _ g3.k
   have wfb := @Ok.wf Fo _ _ (@Keep.ok Fo _ _ _ kb)
   have kbp : @Keep Fo ⟨plo, pok, none⟩ H (Hb.put st (.cells [Value.slice (some ⟨H3.next + 1, 0, none⟩) (i + 1) (i + 1), .int .i64 (j : Int)] (.t 80))) := @Keep.put Fo _ _ _ kb _ _ hi.st0 hsb _
   have hG : ¬ (fl (fless Fo st) (some (H3.next + 1))).s st := fun e => e.1.2 rfl
   have hoc : ∀ c, z.o = some c → c < H'.next := by
    intro c hc
    rw [hc] at gs
    exact @Ok.lt F' _ _ hiok _ _ gs.2.2
   have conv : ∀ {u : Value} {q : Rat}, @IsFrac (fl (fless Fo st) z.o) H3 u q → @IsFrac (fl (fless Fo st) (some (H3.next + 1))) (Hb.put st (.cells [Value.slice (some ⟨H3.next + 1, 0, none⟩) (i + 1) (i + 1), .int .i64 (j : Int)] (.t 80))) u q := by
    intro u q hu
    refine st_conv _ hG hsb _ (kill_conv (fless Fo st) (pm := ⟨plo, pok, none⟩) (by rw [← hF']; exact okF3) wfb (by omega) sam (fun c hc => ?_) hu)
    rw [hc] at gs
    exact ⟨ss, @Keep.some F' _ _ _ g3.k hiok _ _ gs.2.2⟩
   have lr : r < H3.next := @Ok.lt F' _ _ okF3 _ _ hgx
   refine hQ _ _ ⟨i + 1, some (H3.next + 1), .slice (some ⟨H3.next + 1, 0, none⟩) (i + 1) (i + 1), fun u => if u = i then r else z.rb u⟩ ⟨kbp, ?_, get_put_same, hi.st0, by simp; omega, fun c hc => by simp at hc; omega, ⟨ss ++ [Value.slice (some ⟨r, 0, none⟩) j capx], ⟨rfl, b2.2.1, ?_⟩, fun u hu => ?_⟩, fun a b ha hb hab => ?_⟩ rfl ?_ ?_ ?_ ?_ ?_
   · refine Ok.refoot Fo _ (@Keep.ok Fo _ _ _ kbp) fun b hb => ?_
     have hb : Hb.next ≤ b := hb
     exact ⟨⟨@Ok.new Fo _ _ (@Keep.ok Fo _ _ _ kb) b hb, by omega⟩, by simp; omega⟩
   · rw [get_put_ne (by omega)]
     exact b2.2.2
   · simp only at hu ⊢
     by_cases hui : u = i
     · subst hui
       simp only [if_true]
       refine ⟨capx, by rw [← gs.len]; simp, hcx, by simp; omega, by omega, by have := @Keep.next Fo _ _ _ hi.k; omega, psx, ((get_put_ne (by omega)).trans (sam r lr (fun e => by have := hoc _ e; omega))).trans hgx, hlx, fun k hk => (hfx k hk).imp fun p q => ⟨q.1, conv (by rw [← hF']; exact q.2)⟩⟩
     · simp only [hui, if_false]
       obtain ⟨cap', r1, r2, r3, r4, r0, ps', r5, r6, r7⟩ := hr u (by omega)
       have hlu : z.rb u < H'.next := @Ok.lt F' _ _ hiok _ _ r5
       exact ⟨cap', by rw [List.getElem?_append_left (by rw [gs.len]; omega)]; exact r1, r2, by simp; omega, r4, r0, ps', ((get_put_ne r4).trans (sam _ (by omega) r3)).trans (@Keep.some F' _ _ _ g3.k hiok _ _ r5), r6, fun k hk => (r7 k hk).imp fun p q => ⟨q.1, conv (by rw [← hF'] at q ⊢; exact @IsFrac.keep F' _ _ _ _ _ q.2 hiok g3.k)⟩⟩
   · simp only at ha hb hab
     have lt : ∀ u, u < i → z.rb u < H'.next := fun u hu => by
      obtain ⟨_, _, _, _, _, _, ps', r5, _⟩ := hr u hu
      exact @Ok.lt F' _ _ hiok _ _ r5
     by_cases h1 : a = i <;> by_cases h2 : b = i <;> simp only [h1, h2, if_true, if_false] at hab
     · omega
     · have := lt b (by omega); omega
     · have := lt a (by omega); omega
     · exact hi.inj a b (by omega) (by omega) hab
   all_goals simp
theorem MNew_spec [Fo : Foot] (hX : MX X) (ho : Ok pm H) (ht : Tab H) {v : Value} {c n : Nat} {rb : Nat → Nat} {t : Nat → Nat → List UInt8} {A : Nat → Nat → Rat} (h : SMat H v c rb n t) (hn : n ≤ 440) (hn0 : 0 < n)
  (hl : ∀ i k, i < n → k < n → (t i k).length < 1000000) (hq : ∀ i k, i < n → k < n → getQ (t i k) = some (A i k)) :
  Call X pm F.m_New [v] H fun r H' => Keep pm H H' ∧ ∃ p s' c' rb', r = .tuple #[p, .bool true] ∧ IsMat H' p s' c' rb' n A ∧ H.next ≤ c' ∧ ∀ i, i < n → H.next ≤ rb' i := by
 obtain ⟨plo, pok, pnum⟩ := pm
 obtain rfl : pnum = none := ho.num
 have hpk : ∀ (H : Heap), Perm.pick ⟨plo, pok, none⟩ H = H.next := fun _ => rfl
 have hmk : ∀ (H : Heap) x, Perm.make ⟨plo, pok, none⟩ H x = H.new x := fun _ _ => rfl
 have hn' : ¬ 440 < n := by omega
 obtain ⟨cap, ss, rfl, hgc, hlc, hcc, hrc⟩ := h.ex
 refine Call.has hX.m_New rfl ?_
 simp [hn', ptr, hpk, hmk, -m_New_b21]
 have kn : Keep ⟨plo, pok, none⟩ H (H.new (.cells [.slice none 0 0, .int .i64 0] (.t 80))) := (Keep.refl ho).new _
 refine LoopAt.of (fun z : CState => [(0, .slice (some ⟨c, 0, none⟩) n cap), (4, .pointer (some ⟨H.next, 0, none⟩)), (17, .slice (some ⟨c, 0, none⟩) n cap), (18, .int .i64 (n : Int)), (19, .int .i64 (z.i : Int))])
  (fun z H' => NInv Fo ⟨plo, pok, none⟩ H H' H.next n A z (if z.i = 0 then 0 else (n : Int)) ∧ z.i ≤ n) (fun z => n - z.i) ⟨0, none, .slice none 0 0, fun _ => 0⟩ (by simp) ⟨⟨kn, Ok.refoot Fo _ kn.ok fun b hb => ⟨⟨kn.ok.new b hb, by simp at hb; omega⟩, by simp⟩, get_new_next, Nat.le_refl _, by simp, by simp, ⟨[], ⟨rfl, rfl, rfl⟩, by simp⟩, by simp⟩, by simp⟩ ?_
 rintro z H1 ⟨hi, hzn⟩
 obtain ⟨i, hzi⟩ : ∃ i, z.i = i := ⟨_, rfl⟩
 rw [hzi] at hi hzn ⊢
 by_cases hin : i < n
 · have w1 : wr .i64 ((i : Int) + 1) = ((i + 1 : Nat) : Int) := by rw [wr_i64 (by omega) (by omega)]; simp
   obtain ⟨capr, ts, s1, s2, hgr, hlt, htx⟩ := hrc i hin
   simp [hin, hi.k.some ho hgc, s1, -m_New_k16]
   have fin : ∀ L' H3 z', NInv Fo ⟨plo, pok, none⟩ H H3 H.next n A z' (n : Int) → z'.i = i + 1 → lk 0 L' = some (.slice (some ⟨c, 0, none⟩) n cap) → lk 4 L' = some (.pointer (some ⟨H.next, 0, none⟩)) → lk 17 L' = some (.slice (some ⟨c, 0, none⟩) n cap) → lk 18 L' = some (.int .i64 (n : Int)) → lk 19 L' = some (.int .i64 (i : Int)) →
    Again (fun z : CState => [(0, .slice (some ⟨c, 0, none⟩) n cap), (4, .pointer (some ⟨H.next, 0, none⟩)), (17, .slice (some ⟨c, 0, none⟩) n cap), (18, .int .i64 (n : Int)), (19, .int .i64 (z.i : Int))])
     (fun z H' => NInv Fo ⟨plo, pok, none⟩ H H' H.next n A z (if z.i = 0 then 0 else (n : Int)) ∧ z.i ≤ n) (fun z => n - z.i) z ((19, .int .i64 ((i + 1 : Nat) : Int)) :: (71, .int .i64 ((i + 1 : Nat) : Int)) :: L') H3 := fun L' H3 z' hz hzi' l0 l4 l17 l18 l19 => by
    refine .of z' (by show n - z'.i < n - z.i; omega) (by simp [l0, l4, l17, l18, hzi']) ⟨?_, by omega⟩
    rw [if_neg (by omega)]
    exact hz
   by_cases hi0 : i = 0
   · have hms : Perm.may ⟨plo, pok, none⟩ H.next = true := ho.may (Nat.le_refl _)
     rw [if_pos hi0] at hi
     have hsc : setCells [z.v, Value.int .i64 0] 1 [Value.int .i64 (n : Int)] = some [z.v, .int .i64 (n : Int)] := setCells_one (by simp)
     simp [hi0, hi.hs, hms, hsc, -setCells_one, -m_New_k16]
     refine New_row Fo hX ho ht (t := t i) hi.cols hzi hin hn hgr hlt htx (fun k hk => hl i k hin hk) (fun k hk => hq i k hin hk) (v := .slice (some ⟨c, 0, none⟩) n cap) (capr := capr) ?_ ?_ ?_ ?_ ?_ ?_ ?_
     all_goals try simp [hi0]
     intro L' H3 z' hz hzi' l0 l4 l17 l18 l19
     have e0 : wr .i64 (1 : Int) = ((i + 1 : Nat) : Int) := by rw [hi0]; rfl
     simp [l19]
     rw [e0]
     exact fin L' H3 z' hz (by omega) l0 l4 l17 l18 (by rw [l19, hi0]; rfl)
   · rw [if_neg hi0] at hi
     simp [hi0, -m_New_k16]
     refine New_row Fo hX ho ht (t := t i) hi hzi hin hn hgr hlt htx (fun k hk => hl i k hin hk) (fun k hk => hq i k hin hk) (v := .slice (some ⟨c, 0, none⟩) n cap) (capr := capr) ?_ ?_ ?_ ?_ ?_ ?_ ?_
     all_goals try simp
     intro L' H3 z' hz hzi' l0 l4 l17 l18 l19
     simp [l19, w1]
     exact fin L' H3 z' hz hzi' l0 l4 l17 l18 l19
 · have : i = n := by omega
   subst this
   rw [if_neg (by omega)] at hi
   simp
   refine ⟨hi.k, ?_⟩
   obtain ⟨ss', gs, hr⟩ := hi.ex
   rw [hzi] at gs hr
   have hs := hi.hs
   have inj := hi.inj
   rw [hzi] at inj
   have hge := hi.ge
   revert gs hr hge
   cases z.o with
   | none => rintro ⟨rfl, _⟩; omega
   | some c' =>
     rintro ⟨hv, hl1, hg1⟩ hr hge
     rw [hv] at hs
     refine ⟨H.next, c', z.rb, ⟨_, _, rfl, hs, ⟨rfl, rfl⟩, ⟨⟨i, ss', rfl, hg1, hl1, Nat.le_refl _, fun j hj => ?_⟩, inj, fun j hj => ?_⟩⟩, hge c' rfl, fun j hj => by obtain ⟨_, _, _, _, _, r0, _⟩ := hr j hj; exact r0⟩
     · obtain ⟨cap', r1, r2, r3, r4, r0, ps', r5, r6, r7⟩ := hr j hj
       exact ⟨_, r1, ⟨cap', ps', rfl, r5, r6, r2, fun k hk => (r7 k hk).imp fun p q => ⟨q.1, IsFrac.refoot (fl (fless Fo H.next) (some c')) Fo hi.k.ok.wf (fun b _ h => h.1.1) q.2⟩⟩⟩
     · obtain ⟨cap', r1, r2, r3, r4, _⟩ := hr j hj
       exact fun e => r3 (by rw [e])
end
end
section
open Go Go.Dam
/-! ## The inverse, when a column changes -/
theorem red_not_full {A : Nat → Nat → Rat} {n : Nat} {z : Nat → Rat} (hz : Sol A n n z) {i : Nat} (hi : i < n) (h0 : z i ≠ 0) : (red A n 0 0 n).2 ≠ n := by
 intro h
 rcases red_spec (A := A) (c := n) (col := 0) (Nat.zero_add n) (fun _ _ _ hk => absurd hk (Nat.not_lt_zero _)) with ⟨_, h2, h3⟩ | ⟨h1, _⟩
 · have := (h3 n z).2 hz i hi
   rw [sum_one (i := i) (c := z i) hi (by rw [h2 i i hi hi, if_pos rfl, Rat.one_mul]) fun t ht hti => by rw [h2 i t hi ht, if_neg (fun e => hti e.symm), Rat.zero_mul]] at this
   exact h0 this
 · omega
/-- The matrix whose columns are these. -/
def colM (A : Nat → Nat → Rat) (i k : Nat) : Rat := A k i
def setC (A : Nat → Nat → Rat) (at' : Nat) (c : Nat → Rat) (a d : Nat) : Rat := if a = at' then c d else A a d
theorem sum_sub (f g : Nat → Rat) (n : Nat) : sumTo (fun i => f i - g i) n = sumTo f n - sumTo g n := by
 induction n with
 | zero => exact (Rat.sub_self (a := 0)).symm
 | succ n ih => simp only [sumTo, ih]; grind
theorem Inv_left {A B : Nat → Nat → Rat} {n at' : Nat} {c x : Nat → Rat} (h : InvM B (colM A) n) (hat : at' < n) (hx : ∀ i, x i = sumTo (fun t => B i t * c t) n) (h0 : x at' ≠ 0) :
  InvM (elimM at' x (divM at' (x at') B)) (colM (setC A at' c)) n := by
 have key : ∀ i j, i < n → j < n → sumTo (fun t => B i t * colM (setC A at' c) t j) n = if j = at' then x i else if i = j then 1 else 0 := by
  intro i j hi hj
  by_cases hja : j = at'
  · subst hja
    rw [if_pos rfl, hx]
    exact sum_congr fun t _ => by simp [colM, setC]
  · rw [if_neg hja, ← h i j hi hj]
    exact sum_congr fun t _ => by simp [colM, setC, hja]
 have kat : ∀ j, j < n → sumTo (fun t => B at' t / x at' * colM (setC A at' c) t j) n = if j = at' then 1 else 0 := by
  intro j hj
  have : sumTo (fun t => B at' t / x at' * colM (setC A at' c) t j) n = (1 / x at') * sumTo (fun t => B at' t * colM (setC A at' c) t j) n := by
   rw [← sum_mul]; exact sum_congr fun t _ => by grind
  rw [this, key at' j hat hj]
  by_cases hja : j = at'
  · rw [if_pos hja, if_pos hja]; grind
  · rw [if_neg hja, if_neg hja, if_neg (fun e => hja e.symm), Rat.mul_zero]
 intro i j hi hj
 by_cases hia : i = at'
 · subst hia
   rw [sum_congr (g := fun t => B i t / x i * colM (setC A i c) t j) fun t _ => by simp [elimM, divM], kat j hj]
   by_cases hij : i = j
   · simp [hij]
   · simp only [hij, if_false]; exact if_neg fun e => hij e.symm
 · have : sumTo (fun t => elimM at' x (divM at' (x at') B) i t * colM (setC A at' c) t j) n = sumTo (fun t => B i t * colM (setC A at' c) t j) n - x i * sumTo (fun t => B at' t / x at' * colM (setC A at' c) t j) n := by
    rw [← sum_mul, ← sum_sub]
    exact sum_congr fun t _ => by simp only [elimM, divM, hia, if_false, if_true]; grind
   rw [this, key i j hi hj, kat j hj]
   by_cases hja : j = at'
   · subst hja
     rw [if_pos rfl, if_pos rfl, if_neg hia]; grind
   · rw [if_neg hja, if_neg hja]; grind
theorem Inv_right {A B : Nat → Nat → Rat} {n at' : Nat} {c x : Nat → Rat} (h : InvM (colM A) B n) (hat : at' < n) (hx : ∀ i, x i = sumTo (fun t => B i t * c t) n) (h0 : x at' ≠ 0) :
  InvM (colM (setC A at' c)) (elimM at' x (divM at' (x at') B)) n := by
 have hc : ∀ i, i < n → sumTo (fun t => colM A i t * x t) n = c i := by
  intro i hi
  have e1 : sumTo (fun t => colM A i t * x t) n = sumTo (fun t => sumTo (fun k => colM A i t * B t k * c k) n) n := sum_congr fun t _ => by
   rw [hx, ← sum_mul]; exact sum_congr fun k _ => by grind
  rw [e1, sum_swap, sum_one (i := i) (c := c i) hi]
  · have : sumTo (fun t => colM A i t * B t i * c i) n = c i * sumTo (fun t => colM A i t * B t i) n := by rw [← sum_mul]; exact sum_congr fun t _ => by grind
    rw [this, h i i hi hi, if_pos rfl, Rat.mul_one]
  · intro k hk hki
    have : sumTo (fun t => colM A i t * B t k * c k) n = c k * sumTo (fun t => colM A i t * B t k) n := by rw [← sum_mul]; exact sum_congr fun t _ => by grind
    rw [this, h i k hi hk, if_neg (fun e => hki e.symm), Rat.mul_zero]
 intro i j hi hj
 have e : sumTo (fun t => colM (setC A at' c) i t * elimM at' x (divM at' (x at') B) t j) n = sumTo (fun t => colM A i t * B t j) n - (B at' j / x at') * sumTo (fun t => colM A i t * x t) n + sumTo (fun t => if t = at' then c i * (B at' j / x at') else 0) n := by
  rw [← sum_mul, ← sum_sub, ← sum_add]
  refine sum_congr fun t _ => ?_
  by_cases hta : t = at'
  · subst hta
    simp only [colM, setC, elimM, divM, if_true]
    have : B t j = x t * (B t j / x t) := by rw [Rat.mul_comm, Rat.div_mul_cancel h0]
    grind
  · simp only [colM, setC, elimM, divM, hta, if_false, if_true]
    grind
 rw [e, hc i hi, h i j hi hj, sum_one (i := at') (c := c i * (B at' j / x at')) hat (by simp) fun t _ hta => by simp [hta]]
 grind
/-- A column that does not stand alone. -/
theorem rank_iff {A B : Nat → Nat → Rat} {n at' : Nat} {c x : Nat → Rat} (h1 : InvM B (colM A) n) (h2 : InvM (colM A) B n) (hat : at' < n) (hx : ∀ i, x i = sumTo (fun t => B i t * c t) n) : (red (colM (setC A at' c)) n 0 0 n).2 = n ↔ x at' ≠ 0 := by
 constructor
 · intro h hz
   refine red_not_full (A := colM (setC A at' c)) (n := n) (z := fun k => if k = at' then -1 else x k) (fun i hi => ?_) hat (by simp; decide) h
   have hc : sumTo (fun t => colM A i t * x t) n = c i := by
    have e1 : sumTo (fun t => colM A i t * x t) n = sumTo (fun t => sumTo (fun k => colM A i t * B t k * c k) n) n := sum_congr fun t _ => by
     rw [hx, ← sum_mul]; exact sum_congr fun k _ => by grind
    rw [e1, sum_swap, sum_one (i := i) (c := c i) hi]
    · have : sumTo (fun t => colM A i t * B t i * c i) n = c i * sumTo (fun t => colM A i t * B t i) n := by rw [← sum_mul]; exact sum_congr fun t _ => by grind
      rw [this, h2 i i hi hi, if_pos rfl, Rat.mul_one]
    · intro k hk hki
      have : sumTo (fun t => colM A i t * B t k * c k) n = c k * sumTo (fun t => colM A i t * B t k) n := by rw [← sum_mul]; exact sum_congr fun t _ => by grind
      rw [this, h2 i k hi hk, if_neg (fun e => hki e.symm), Rat.mul_zero]
   have e : sumTo (fun k => colM (setC A at' c) i k * if k = at' then -1 else x k) n = sumTo (fun t => colM A i t * x t) n + sumTo (fun t => if t = at' then - c i else 0) n := by
    rw [← sum_add]
    refine sum_congr fun t _ => ?_
    by_cases hta : t = at'
    · subst hta
      simp only [colM, setC, if_true, hz]
      grind
    · simp only [colM, setC, hta, if_false]
      grind
   rw [e, hc, sum_one (i := at') (c := - c i) hat (by simp) fun t _ hta => by simp [hta]]
   grind
 · intro h0
   exact ((Inv_left h1 hat hx h0).full fun _ _ _ _ => rfl).1
theorem Inv_id {n : Nat} : InvM idM (colM idM) n := by
 intro i j hi hj
 rw [sum_one (i := i) (c := if i = j then 1 else 0) hi]
 · simp only [idM, colM, if_true, Rat.one_mul]
 · intro t _ hti
   simp [idM, hti, Rat.zero_mul]
theorem Inv_id' {n : Nat} : InvM (colM idM) idM n := by
 intro i j hi hj
 rw [sum_one (i := i) (c := if i = j then 1 else 0) hi]
 · simp only [idM, colM, if_true, Rat.one_mul]
   by_cases h : i = j
   · simp [h]
   · simp only [h, if_false]; exact if_neg fun e => h e.symm
 · intro t _ hti
   have : ¬ i = t := fun e => hti e.symm
   simp [idM, colM, this, Rat.zero_mul]
/-- An inverse's entries are no greater than what an elimination makes. -/
theorem InvM.size {B C : Nat → Nat → Rat} {n k : Nat} (h : InvM B C n) (s : ∀ i j, i < n → j < n → sz (C i j) k) (hk : 1 ≤ k) : ∀ i j, i < n → j < n → sz (B i j) (gz k n) := by
 intro i j hi hj
 have e := h.solve (A := fun i t => if t < n then C i t else if i = j then 1 else 0) (y := fun t => if t = j then 1 else 0) (fun i t _ ht => by simp [ht]) (fun i _ => by simp) i hi
 rw [sum_one (i := j) (c := B i j) hj (by simp [Rat.mul_one]) fun t _ htj => by simp [htj, Rat.mul_zero]] at e
 rw [← e]
 refine red_sz (R := n) (W := n + 1) (by omega) (fun a t ha _ => ?_) i n hi (by omega)
 show sz (if t < n then C a t else if a = j then 1 else 0) k
 split
 · exact s a t ha (by assumption)
 · split
   · exact sz_one hk
   · exact sz_zero hk
end
section
open Go Go.Dam
/-- A number with a short text, which reads as it. -/
def Smol (q : Rat) : Prop := sz q 3 ∧ getQ (qtext q) = some q ∧ (qtext q).length ≤ 20
theorem Smol.zero : Smol 0 := ⟨sz_zero (by omega), by decide +kernel, by decide +kernel⟩
theorem Smol.one : Smol 1 := ⟨sz_one (by omega), by decide +kernel, by decide +kernel⟩
theorem qtext_zero : qtext 0 = [48] := by decide +kernel
theorem qtext_one : qtext 1 = [49] := by decide +kernel
theorem getQ_text {l : List UInt8} {q : Rat} (h : getQ l = some q) : qtext q = l := by
 unfold getQ finQ at h
 split at h
 · rename_i hg
   cases h
   exact hg.2.2.2
 · cases h
def gBegun (_ : Perm) (args : List Value) (H : Heap) : Option (Value × Heap) := match args with
 | [] => bif hasTab H then some (.bool true, H) else none
 | _ => none
structure BX (X : Cx) : Prop extends MX X where
 begun : X.ov F.l_begun = some gBegun
 l_BasisAll : Has X F.l_BasisAll C.l_BasisAll
variable {X : Cx} {pm : Perm} {H H' H'' : Heap}
theorem begun_spec (hX : BX X) (ht : Tab H) : Call X pm F.l_begun [] H fun r H' => H' = H ∧ r = .bool true := by
 refine Call.over hX.begun (v := .bool true) (H' := H) ?_ ⟨rfl, rfl⟩
 have h1 : hasTab H = true := by unfold hasTab; rw [ht]; rfl
 simp only [gBegun, h1]
 rfl
theorem LF2_spec [Foot] (hX : LX X) (ho : Ok pm H) (ht : Tab H) {l : List UInt8} (hl : l.length ≤ 20) : Call X pm F.l_F [St l] H fun r H' => Keep pm H H' ∧ ∃ q, IsFrac H' r q ∧ Smol q := by
 refine Call.has hX.l_F rfl ?_
 simp
 refine CallAt.of (by simp) (by simp) (Get_frac hX ho ht (l := l) (by omega)) ?_
 rintro _ H1 ⟨k1, ⟨h1, rfl⟩ | ⟨q, p, h1, rfl, h2⟩⟩
 · simp
   refine CallAt.of (by simp) (by simp) (Of_zero hX k1.ok) ?_
   rintro r H2 ⟨k2, hr⟩
   simp
   exact ⟨k1.trans k2, 0, hr, Smol.zero⟩
 · simp
   have e := getQ_text h1
   exact ⟨k1, q, h2, getQ_sz h1 hl, by rw [e]; exact h1, by rw [e]; exact hl⟩
section
variable [Foot]
theorem SMat.keep {v : Value} {c n : Nat} {rb : Nat → Nat} {t : Nat → Nat → List UInt8} (h : SMat H v c rb n t) (ho : Ok pm H) (hk : Keep pm H H') : SMat H' v c rb n t := by
 obtain ⟨cap, ss, h1, h2, h3, h4, h5⟩ := h.ex
 exact ⟨cap, ss, h1, hk.some ho h2, h3, h4, fun i hi => by
  obtain ⟨capi, ts, r1, r2, r3, r4, r5⟩ := h5 i hi
  exact ⟨capi, ts, r1, r2, hk.some ho r3, r4, r5⟩⟩
omit [Foot] in
theorem SMat.congr {v : Value} {c n : Nat} {rb : Nat → Nat} {t u : Nat → Nat → List UInt8} (h : SMat H v c rb n t) (e : ∀ i k, i < n → k < n → u i k = t i k) : SMat H v c rb n u := by
 obtain ⟨cap, ss, h1, h2, h3, h4, h5⟩ := h.ex
 exact ⟨cap, ss, h1, h2, h3, h4, fun i hi => by
  obtain ⟨capi, ts, r1, r2, r3, r4, r5⟩ := h5 i hi
  exact ⟨capi, ts, r1, r2, r3, r4, fun k hk => by rw [e i k hi hk]; exact r5 k hk⟩⟩
/-- A basis' blocks are none of the texts'. -/
theorem SMat.upd {v w : Value} {c n b C V : Nat} {rb cb vb : Nat → Nat} {t : Nat → Nat → List UInt8} {A B : Nat → Nat → Rat} (h : SMat H v c rb n t) (ho : Ok pm H) (hn0 : 0 < n) (hb : IsBasis H w n b C V cb vb A B) (u : Upd pm (fun b => b = C ∨ ∃ i, i < n ∧ b = vb i) H H') : SMat H' v c rb n t := by
 obtain ⟨cap, ss, h1, h2, h3, h4, h5⟩ := h.ex
 obtain ⟨⟨x, vc, vi, b1, b2, b3, hmc, hmv⟩, _⟩ := hb
 obtain ⟨capC, ssC, rfl, hgC, hlC, hcC, hrC⟩ := hmc.ex
 obtain ⟨capV, ssV, rfl, hgV, hlV, hcV, hrV⟩ := hmv.ex
 have row : ∀ i, i < n → ∀ (q : Value) (d : Nat) (x : Nat → Rat), PRow H q d n x → d ≠ rb i := by
  rintro i hi q d x hp rfl
  obtain ⟨capi, ts, r1, r2, r3, r4, r5⟩ := h5 i hi
  obtain ⟨capp, ps, _, p2, p3, _, p5⟩ := hp.ex
  rw [r3] at p2
  cases p2
  obtain ⟨p, p6, p7⟩ := p5 0 hn0
  obtain ⟨a, rfl⟩ := p7.ptr
  rw [r5 0 hn0] at p6
  cases p6
 have sl : ∀ i, i < n → ∀ (q : Value) (d : Nat) (x : Nat → Rat), PRow H q d n x → d ≠ c := by
  rintro i hi q d x hp rfl
  obtain ⟨capi, ts, r1, r2, r3, r4, r5⟩ := h5 0 hn0
  obtain ⟨capp, ps, _, p2, p3, _, p5⟩ := hp.ex
  rw [h2] at p2
  cases p2
  obtain ⟨p, p6, p7⟩ := p5 0 hn0
  obtain ⟨a, rfl⟩ := p7.ptr
  rw [r1] at p6
  cases p6
 have nc : ¬ (c = C ∨ ∃ i, i < n ∧ c = vb i) := by
  rintro (rfl | ⟨i, hi, e⟩)
  · rw [hgC] at h2
    cases h2
    obtain ⟨capi, ts, r1, r2, r3, r4, r5⟩ := h5 0 hn0
    obtain ⟨s, s1, s2⟩ := hrC 0 hn0
    obtain ⟨_, _, rfl, _⟩ := s2.parts
    rw [r1] at s1
    simp only [Option.some.injEq, Value.slice.injEq, Addr.mk.injEq] at s1
    exact row 0 hn0 _ _ _ s2 s1.1.1.symm
  · obtain ⟨s, s1, s2⟩ := hrV i hi
    exact sl i hi _ _ _ s2 e.symm
 have nr : ∀ i, i < n → ¬ (rb i = C ∨ ∃ j, j < n ∧ rb i = vb j) := by
  rintro i hi (e | ⟨j, hj, e⟩)
  · obtain ⟨capi, ts, r1, r2, r3, r4, r5⟩ := h5 i hi
    rw [e, hgC] at r3
    cases r3
    obtain ⟨s, s1, s2⟩ := hrC 0 hn0
    obtain ⟨_, _, rfl, _⟩ := s2.parts
    rw [r5 0 hn0] at s1
    cases s1
  · obtain ⟨s, s1, s2⟩ := hrV j hj
    exact row i hi _ _ _ s2 e.symm
 exact ⟨cap, ss, h1, (u.same c (ho.lt h2) nc).trans h2, h3, h4, fun i hi => by
  obtain ⟨capi, ts, r1, r2, r3, r4, r5⟩ := h5 i hi
  exact ⟨capi, ts, r1, r2, (u.same _ (ho.lt r3) (nr i hi)).trans r3, r4, r5⟩⟩
theorem Put_out (hX : LX X) {v vcol : Value} {n b C V : Nat} {cb vb : Nat → Nat} {A B : Nat → Nat → Rat} (hb : IsBasis H v n b C V cb vb A B) {a : Int} (ha : a < 0 ∨ (n : Int) ≤ a) :
  Call X pm F.a_Put [v, .int .i64 a, vcol] H fun r H' => H' = H ∧ r = .bool false := by
 refine Call.has hX.a_Put rfl ?_
 obtain ⟨⟨bx, vc, vi, rfl, hgb, hrb, hmc, hmv⟩, hsep⟩ := id hb
 obtain ⟨capC, ssC, rfl, hgC, hlC, hcC, hrC⟩ := hmc.ex
 by_cases h0 : a < 0
 · simp [h0, -a_Put_k38]
   refine CallAt.not (by simp) ?_
   simp [-a_Put_k38]
   refine CallAt.not (by simp) ?_
   simp
 · have hn : ¬ a < (n : Int) := by omega
   simp [h0, -a_Put_k38]
   refine CallAt.of (by simp) (by simp) (Size_spec hX hgb hrb.1) ?_
   rintro _ H ⟨rfl, rfl⟩
   simp [hn, -a_Put_k38]
   refine CallAt.not (by simp) ?_
   simp
theorem Solve_nil (hX : LX X) {v : Value} {n b C V : Nat} {cb vb : Nat → Nat} {A B : Nat → Nat → Rat} (hb : IsBasis H v n b C V cb vb A B) (hn0 : 0 < n) :
  Call X pm F.a_Solve [v, .slice none 0 0] H fun r H' => H' = H ∧ r = .slice none 0 0 := by
 obtain ⟨⟨bx, vc, vi, rfl, hgb, hrb, hmc, hmv⟩, hsep⟩ := id hb
 obtain ⟨capC, ssC, rfl, hgC, hlC, hcC, hrC⟩ := hmc.ex
 refine Call.has hX.a_Solve rfl ?_
 simp [hgb, hrb.1]
 omega
theorem Col_out (hX : LX X) {v : Value} {n b C V : Nat} {cb vb : Nat → Nat} {A B : Nat → Nat → Rat} (hb : IsBasis H v n b C V cb vb A B) :
  Call X pm F.a_Col [v, .int .i64 (n : Int)] H fun r H' => H' = H ∧ r = .slice none 0 0 := by
 obtain ⟨⟨bx, vc, vi, rfl, hgb, hrb, hmc, hmv⟩, hsep⟩ := id hb
 obtain ⟨capC, ssC, rfl, hgC, hlC, hcC, hrC⟩ := hmc.ex
 refine Call.has hX.a_Col rfl ?_
 simp
 refine CallAt.of (by simp) (by simp) (Size_spec hX hgb hrb.1) ?_
 rintro _ H ⟨rfl, rfl⟩
 simp
end
end
end Go.Dam.C
namespace Go.Dam.C
open Go Go.Dam
theorem gz34 {n : Nat} (h : n ≤ 4) : gz 3 n ≤ 12873 := by
 have : n = 0 ∨ n = 1 ∨ n = 2 ∨ n = 3 ∨ n = 4 := by omega
 rcases this with rfl | rfl | rfl | rfl | rfl <;> decide
theorem InvM.trans {A B : Nat → Nat → Rat} {n : Nat} (h : InvM (colM A) B n) : InvM (fun i k => B k i) (fun i k => colM A k i) n := by
 intro i j hi hj
 have e : sumTo (fun t => B t i * colM A j t) n = sumTo (fun t => colM A j t * B t i) n := sum_congr fun t _ => Rat.mul_comm _ _
 show sumTo (fun t => B t i * colM A j t) n = _
 rw [e, h j i hj hi]
 by_cases hij : i = j
 · simp [hij]
 · rw [if_neg hij, if_neg fun e => hij e.symm]
variable [Foot]
variable {X : Cx} {pm : Perm} {H H' H'' : Heap}
structure AInv (pm : Perm) (H0 H : Heap) (n b C V : Nat) (vb : Nat → Nat) (vy : Value) (cy : Nat) (y : Nat → Rat) (vr : Value) (c : Nat) (rb cb : Nat → Nat) (A B : Nat → Nat → Rat) : Prop where
 k : Keep pm H0 H
 bas : IsBasis H (.pointer (some ⟨b, 0, none⟩)) n b C V cb vb A B
 rows : SMat H vr c rb n (fun i k => qtext (A k i))
 yrow : PRow H vy cy n y
 sm : ∀ a d, a < n → d < n → Smol (A a d)
 l : InvM B (colM A) n
 r : InvM (colM A) B n
theorem AInv.keep {H0 : Heap} {n b C V cy c : Nat} {vb rb cb : Nat → Nat} {vy vr : Value} {y : Nat → Rat} {A B : Nat → Nat → Rat} (h : AInv pm H0 H n b C V vb vy cy y vr c rb cb A B) (hk : Keep pm H H') : AInv pm H0 H' n b C V vb vy cy y vr c rb cb A B :=
 ⟨h.k.trans hk, h.bas.keep h.k.ok hk, h.rows.keep h.k.ok hk, h.yrow.keep h.k.ok hk, h.sm, h.l, h.r⟩
theorem AInv.sB {H0 : Heap} {n b C V cy c : Nat} {vb rb cb : Nat → Nat} {vy vr : Value} {y : Nat → Rat} {A B : Nat → Nat → Rat} (h : AInv pm H0 H n b C V vb vy cy y vr c rb cb A B) (hn4 : n ≤ 4) : ∀ i j, i < n → j < n → sz (B i j) 12873 := fun i j hi hj =>
 sz_mono (h.l.size (k := 3) (fun a d ha hd => (h.sm d a hd ha).1) (by omega) i j hi hj) (gz34 hn4)
def BPost (pm : Perm) (H0 : Heap) : Post := fun z l H' => (z = Ex.normal ∨ z = Ex.ret) ∧ ∃ vs, resL l H' [.slot 8] = some vs ∧ (Keep pm H0 H' ∧ tupOf vs = .bool true)
end Go.Dam.C
namespace Go.Dam.C
open Go Go.Dam
variable {X : Cx} {pm : Perm} {H H' H'' : Heap}
theorem szs_sum {f g : Nat → Rat} {n j : Nat} (hn4 : n ≤ 4) (hf : ∀ t, t < n → sz (f t) 12873) (hg : ∀ t, t < n → sz (g t) 12873) (hj : j ≤ n) : sz (sumTo (fun t => f t * g t) j) 772411 := by
 refine sz_mono (sz_sum (k := 25746) fun t ht => sz_mono (sz_mul (hf t (by omega)) (hg t (by omega))) (by omega)) (Nat.le_trans (szs_le (n := 4) (by omega)) (by decide))
end Go.Dam.C
namespace Go.Dam.C
open Go Go.Dam
variable [Foot]
variable {X : Cx} {pm : Perm} {H H' H'' : Heap}
set_option maxHeartbeats 1000000 in
theorem A_fin (hX : BX X) {H0 : Heap} (ho : Ok pm H0) (ht : Tab H0) {n b C V cy c : Nat} {vb rb cb : Nat → Nat} {vy vr : Value} {y : Nat → Rat} {A B : Nat → Nat → Rat} (inv : AInv pm H0 H n b C V vb vy cy y vr c rb cb A B) (hn4 : n ≤ 4) (hn0 : 0 < n) (sy : ∀ i, i < n → sz (y i) 3)
  {L : Sl} (l0 : lk 0 L = some (.int .i64 (n : Int))) (l10 : lk 10 L = some (.pointer (some ⟨b, 0, none⟩))) (l11 : lk 11 L = some vr) (l14 : lk 14 L = some vy) : wp X pm (.code l_BasisAll_k22) L H [] (BPost pm H0) := by
 obtain ⟨plo, pok, pnum⟩ := pm
 obtain rfl : pnum = none := ho.num
 have hg4 := gz34 hn4
 have sA : ∀ i j, i < n → j < n → sz (colM A i j) 3 := fun i j hi hj => (inv.sm j i hj hi).1
 have sB := inv.sB hn4
 have sy' : ∀ i, i < n → sz (y i) 12873 := fun i hi => sz_mono (sy i hi) (by omega)
 simp [l11, -l_BasisAll_k20]
 refine CallAt.of (by simp) (by simp) (MNew_spec hX.toMX inv.k.ok (ht.keep ho inv.k) inv.rows (by omega) hn0 (A := colM A) (fun i k hi hk => by have := (inv.sm k i hk hi).2.2; omega) fun i k hi hk => (inv.sm k i hk hi).2.1) ?_
 rintro _ H1 ⟨k1, pm1, s1, c1, rb1, rfl, hm1, _⟩
 have inv1 := inv.keep k1
 simp [l14, -l_BasisAll_k18]
 have hfull := inv.l.full (A := fun i j => if j < n then colM A i j else y i) fun i k _ hk => by simp [hk]
 refine CallAt.of (by simp) (by simp) (MSolve_spec hX.toMX inv1.k.ok hm1 inv1.yrow (by omega) hn0 sA sy hg4 (by omega) hfull.1) ?_
 rintro _ H2 ⟨k2, x, cx, rfl, hx⟩
 have inv2 := inv1.keep k2
 have hx' : PRow H2 x cx n (fun i => sumTo (fun t => B i t * y t) n) := hx.congr fun i hi => (inv.l.solve (A := fun i j => if j < n then colM A i j else y i) (fun i k _ hk => by simp [hk]) (fun i _ => by simp) i hi).symm
 simp [-l_BasisAll_k15]
 refine CallAt.of (by simp) (by simp) (Turn_spec hX.toMX inv2.k.ok (hm1.keep inv1.k.ok k2) (by omega) hn0) ?_
 rintro vt H3 ⟨k3, s3, c3, rb3, hm3⟩
 have inv3 := inv2.keep k3
 simp [l14, -l_BasisAll_k15]
 have hfull2 := inv.r.trans.full (A := fun i j => if j < n then colM A j i else y i) fun i k _ hk => by simp [hk]
 refine CallAt.of (by simp) (by simp) (MSolve_spec hX.toMX inv3.k.ok hm3 inv3.yrow (by omega) hn0 (fun i j hi hj => sA j i hj hi) sy hg4 (by omega) hfull2.1) ?_
 rintro _ H4 ⟨k4, z, cz, rfl, hz⟩
 have inv4 := inv3.keep k4
 have hz' : PRow H4 z cz n (fun i => sumTo (fun t => y t * B t i) n) := hz.congr fun i hi => by
  rw [inv.r.trans.solve (A := fun i j => if j < n then colM A j i else y i) (y := y) (fun i k _ hk => by simp [hk]) (fun i _ => by simp) i hi]
  exact sum_congr fun t _ => Rat.mul_comm _ _
 simp [l10, l14, -l_BasisAll_k12]
 refine CallAt.of (by simp) (by simp) (Solve_spec hX.toLX inv4.k.ok inv4.bas inv4.yrow (by omega) sB sy' (K := 772411) (fun i j hi hj => szs_sum hn4 (sB i · hi) sy' hj) (by omega) (by omega)) ?_
 rintro u H5 ⟨k5, cu, hu, _⟩
 have inv5 := inv4.keep k5
 simp [l10, l14, -l_BasisAll_k12]
 refine CallAt.of (by simp) (by simp) (Turned_spec hX.toMX inv5.k.ok inv5.bas inv5.yrow (by omega) sB sy' (K := 772411) (fun i j hi hj => szs_sum hn4 sy' (fun t ht => sB t i ht hi) hj) (by omega) (by omega)) ?_
 rintro w H6 ⟨k6, cw, hw⟩
 have inv6 := inv5.keep k6
 have hu6 := hu.keep inv5.k.ok k6
 have hx6 := hx'.keep inv2.k.ok (k3.trans (k4.trans (k5.trans k6)))
 have hz6 := hz'.keep inv4.k.ok (k5.trans k6)
 obtain ⟨capu, psu, rfl, hgu, hlu, hcu, _, hfu⟩ := hu6.parts
 obtain ⟨capw, psw, rfl, hgw, hlw, hcw, _, hfw⟩ := hw.parts
 obtain ⟨capx, psx, rfl, hgx, hlx, hcx, _, hfx⟩ := hx6.parts
 obtain ⟨capz, psz, rfl, hgz, hlz, hcz, _, hfz⟩ := hz6.parts
 obtain ⟨bx, vc, vi, _, hgb, hrb, hmc, _⟩ := inv6.bas.ex
 obtain ⟨capC, ssC, rfl, _⟩ := hmc.ex
 simp [l0, l10, -l_BasisAll_k8]
 refine CallAt.of (by simp) (by simp) (Size_spec hX.toLX hgb hrb.1) ?_
 rintro _ H6 ⟨rfl, rfl⟩
 simp [l0, l10, -l_BasisAll_k8]
 refine CallAt.of (by simp) (by simp) (Solve_nil hX.toLX inv6.bas hn0) ?_
 rintro _ H6 ⟨rfl, rfl⟩
 simp [-l_BasisAll_b6, -l_BasisAll_k1]
 obtain ⟨capr, ssr, rfl, hgr, hlr, hcr, hrr⟩ := inv6.rows.ex
 obtain ⟨cap0, ts0, r1, r2, r3, r4, r5⟩ := hrr 0 hn0
 refine LoopAt.of (fun i : Nat => [(0, .int .i64 (n : Int)), (10, .pointer (some ⟨b, 0, none⟩)), (11, .slice (some ⟨c, 0, none⟩) n capr), (28, .slice (some ⟨cx, 0, none⟩) n capx), (30, .slice (some ⟨cz, 0, none⟩) n capz), (32, .slice (some ⟨cu, 0, none⟩) n capu), (33, .slice (some ⟨cw, 0, none⟩) n capw), (34, .int .i64 (i : Int))])
  (fun i H' => Keep ⟨plo, pok, none⟩ H6 H' ∧ i ≤ n) (fun i => n - i) 0 (by simp [l0, l10, l11]) ⟨.refl inv6.k.ok, by simp⟩ ?_
 rintro i H7 ⟨k7, hi⟩
 have inv7 := inv6.keep k7
 have up : ∀ {q : Nat} {z : Blk}, H6.get q = some z → H7.get q = some z := fun hq => k7.some inv6.k.ok hq
 by_cases hin : i < n
 · have w1 : wr .i64 ((i : Int) + 1) = ((i + 1 : Nat) : Int) := by rw [wr_i64 (by omega) (by omega)]; simp
   obtain ⟨pu, pu1, pu2⟩ := hfu i hin
   obtain ⟨px, px1, px2⟩ := hfx i hin
   obtain ⟨pw, pw1, pw2⟩ := hfw i hin
   obtain ⟨pz, pz1, pz2⟩ := hfz i hin
   have hres : ∀ k, H7.get (H7.next + k) = none := fun k => k7.ok.wf _ (by omega)
   have hres0 : H7.get H7.next = none := k7.ok.wf _ (by omega)
   have kU : Keep ⟨plo, pok, none⟩ H6 (H7.up 45) := k7.up 45
   have eq0 : ∀ q : Rat, (if q < q then (-1 : Int) else if q = q then 0 else 1) = 0 := fun q => by
    have : ¬ q < q := by grind
    simp [this]
   have szq : ∀ q : Rat, sz (q - q) (2 * 772411 + 1) := fun q => by
    have : q - q = 0 := by grind
    rw [this]; exact sz_zero (by omega)
   have su1 : sz (sumTo (fun t => B i t * y t) n) 772411 := szs_sum hn4 (sB i · hin) sy' (Nat.le_refl _)
   have sw1 : sz (sumTo (fun t => y t * B t i) n) 772411 := szs_sum hn4 sy' (fun t ht => sB t i ht hin) (Nat.le_refl _)
   simp [hin]
   refine DrawAt.of k7.ok.lo rfl ?_
   simp [inOrd, hres, hres0, hin, up hgu, pu1, up hgx, px1]
   refine CallD.fixed (by simp [hres]) (by simp) (by simp) rfl (Cmp_frac hX.toNX (k := 772411) kU.ok (pu2.keep inv6.k.ok kU) (px2.keep inv6.k.ok kU) su1 su1 (szq _) (by omega)) ?_
   rintro _ H8 ⟨k8, rfl⟩
   rw [eq0]
   have hres8 : ∀ t, t < 45 → H8.get (H7.next + t) = none := fun t ht => (k8.get _ (by simp; omega)).trans (hres t)
   have k68 := kU.trans k8
   have up8 : ∀ {q : Nat} {z : Blk}, H6.get q = some z → H8.get q = some z := fun hq => k68.some inv6.k.ok hq
   simp [hres8, hin, up8 hgw, pw1, up8 hgz, pz1]
   refine CallD.fixed (by simp [hres8]) (by simp) (by simp) rfl (Cmp_frac hX.toNX (k := 772411) k68.ok (pw2.keep inv6.k.ok k68) (pz2.keep inv6.k.ok k68) sw1 sw1 (szq _) (by omega)) ?_
   rintro _ H9 ⟨k9, rfl⟩
   rw [eq0]
   have hn8 := k8.next
   simp at hn8
   have hres9 : ∀ t, t < 45 → H9.get (H7.next + t) = none := fun t ht => (k9.get _ (by omega)).trans (hres8 t ht)
   have k69 := k68.trans k9
   have inv9 := inv6.keep k69
   have hn9 := k9.next
   simp [hres9]
   refine CallD.fixed (by simp [hres9]) (by simp) (by simp) rfl (Col_spec hX.toLX inv9.k.ok inv9.bas (by omega) hin) ?_
   rintro v10 H10 ⟨k10, c10, hp10, hc10⟩
   obtain ⟨cap10, ps10, rfl, hg10, hl10, _, _, hf10⟩ := hp10.parts
   have hres10 : ∀ t, t < 45 → H10.get (H7.next + t) = none := fun t ht => (k10.get _ (by omega)).trans (hres9 t ht)
   have k610 := k69.trans k10
   have inv10 := inv6.keep k610
   have hn10 := k10.next
   have up10 : ∀ {q : Nat} {z : Blk}, H6.get q = some z → H10.get q = some z := fun hq => k610.some inv6.k.ok hq
   simp [hres10, hin, hn0, up10 hgr, r1, up10 r3, r5 i hin]
   have ok10 := k610.ok
   refine CallD.of (vs := [.pointer (some ⟨b, 0, none⟩), .int .i64 (i : Int)]) (by simp [hres10]) (by simp) (by simp) rfl (Col_spec hX.toLX ok10.fresh inv10.bas (by omega) hin) ?_
   rintro v11 H11 ⟨k11, c11, hp11, hc11⟩
   have k11' : Keep ⟨plo, pok, none⟩ H10 H11 := k11.perm rfl ok10.lo
   obtain ⟨cap11, ps11, rfl, hg11, hl11, _, _, hf11⟩ := hp11.parts
   obtain ⟨p0, p01, p02⟩ := hf11 0 hn0
   have hn11 := k11'.next
   have hres11 : ∀ t, t < 45 → H11.get (H7.next + t) = none := fun t ht => (k11'.get _ (by omega)).trans (hres10 t ht)
   have k611 := k610.trans k11'
   have up11 : ∀ {q : Nat} {z : Blk}, H6.get q = some z → H11.get q = some z := fun hq => k611.some inv6.k.ok hq
   have bne : ∀ {q : Nat} {cs : List Value}, H6.get q = some (.cells cs (.n 1)) → ∀ m : Perm, disj (ptrs m [.pointer (some ⟨b, 0, none⟩), .int .i64 (i : Int)]) [q] = true := fun {q cs} hq m => disj_ptrs fun a ha => by
    rcases List.mem_cons.1 ha with e | ha
    · cases e
      rintro rfl
      rw [hgb] at hq
      cases hq
      exact absurd hrb.2 (by simp [typedB])
    · simp at ha
   have pne : ∀ {q : Nat} {cs : List Value}, H6.get q = some (.cells cs (.n 1)) → ∀ m : Perm, disj (ptrs m [p0]) [q] = true := fun {q cs} hq m => disj_ptrs fun a ha => by
    rcases List.mem_cons.1 ha with e | ha
    · exact p02.ne (up11 hq) (cells_no _) a e.symm
    · cases ha
   simp [hres11, hn0, hg11, p01]
   refine CallD.of (vs := [p0]) (by simp [hres11]) (by simp) (by simp) rfl (Text_frac hX.toLX (k := 3) k11'.ok.fresh (ht.keep ho (inv6.k.trans k611)) p02 (inv.sm i 0 hin hn0).1 (by omega) (by omega)) ?_
   rintro _ H12 ⟨k12, rfl⟩
   have k12' : Keep ⟨plo, pok, none⟩ H11 H12 := k12.perm rfl k11'.ok.lo
   have hres12 : ∀ t, t < 45 → H12.get (H7.next + t) = none := fun t ht => (k12'.get _ (by omega)).trans (hres11 t ht)
   have lt7 : ∀ {q : Nat} {z : Blk}, H6.get q = some z → q < H7.next := fun hq => k7.ok.lt (up hq)
   have la := lt7 hgu
   have lb := lt7 hgx
   have lc := lt7 hgw
   have ld := lt7 hgz
   have le := lt7 hgr
   have lf := lt7 r3
   have lg : H7.next + 45 ≤ c11 := by omega
   have d1 := bne hgr
   have d2 := bne r3
   have d3 := pne hgr
   have d4 := pne r3
   simp [hres12, confFine, madeB, disj_nil_r, la, lb, lc, ld, le, lf, lg, d1, d2, d3, d4, w1]
   exact .of (i + 1) (by show n - (i + 1) < n - i; omega) (by simp) ⟨k7.trans (((Keep.refl k7.ok).up 45).trans (k8.trans (k9.trans (k10.trans (k11'.trans k12'))))), by omega⟩
 · have : i = n := by omega
   subst this
   simp
   refine CallAt.of (by simp) (by simp) (Col_out hX.toLX inv7.bas) ?_
   rintro _ H8 ⟨rfl, rfl⟩
   simp [BPost]
   exact inv7.k
end Go.Dam.C
namespace Go.Dam.C
section
open Go Go.Dam
/-- A slice that came in. -/
structure ArgS (H : Heap) (v : Value) (m : Nat) (P : Nat → Value → Prop) : Prop where
 ex : ∃ base cap, v = .slice base m cap ∧ ∀ i, i < m → ∃ b off y row u, base = some ⟨b, off, none⟩ ∧ H.get b = some y ∧ rowOf y = some row ∧ row[off + i]? = some u ∧ P i u
variable {X : Cx} {pm : Perm} {H H' H'' : Heap}
theorem yApp (Fo : Foot) (hX : BX X) {H0 : Heap} (ho : @Ok Fo pm H0) (ht : Tab H) {v : Value} {i : Nat} {x : Nat → Rat} {o : Option Nat} (g : GRow Fo pm H0 H v i x o) (hi : i < 1000) {L : Sl} {t : List UInt8} (htl : t.length ≤ 20) (l14 : lk 14 L = some v) (l16 : lk 16 L = some (St t)) {ks : List Fr} {Q : Post}
  (hQ : ∀ H' v' o' q L', GRow Fo pm H0 H' v' (i + 1) (fun j => if j = i then q else x j) (some o') → Smol q → lk 14 L' = some v' → (∀ k u, k ≠ 14 → ¬ (93 ≤ k ∧ k ≤ 97) → lk k L = some u → lk k L' = some u) → wp X pm (.res .normal) L' H' ks Q) : wp X pm (.code l_BasisAll_k66) L H ks Q := by
 obtain ⟨plo, pok, pnum⟩ := pm
 obtain rfl : pnum = none := @Ok.num Fo _ _ ho
 have hpk : ∀ (H : Heap), Perm.pick ⟨plo, pok, none⟩ H = H.next := fun _ => rfl
 have hmk : ∀ (H : Heap) x, Perm.make ⟨plo, pok, none⟩ H x = H.new x := fun _ _ => rfl
 simp [l14, l16]
 refine CallAt.of (by simp) (by simp) (@LF2_spec X _ H (fl Fo o) hX.toLX g.ok ht t htl) ?_
 rintro p H2 ⟨k2, q, hp, hq⟩
 obtain ⟨a, rfl⟩ := @IsFrac.ptr (fl Fo o) _ _ _ hp
 obtain ⟨H3, e3, g3⟩ := g.grow ho k2 hp (by omega)
 simp [hpk, hmk, getCells, e3]
 refine hQ H3 _ _ q _ g3 hq (by simp) fun k u h1 h2 h => ?_
 simp [h1, show k ≠ 97 by omega, show k ≠ 96 by omega, show k ≠ 95 by omega, show k ≠ 94 by omega, show k ≠ 93 by omega, h]
structure YState where
 i : Nat
 v : Value
 o : Option Nat
 x : Nat → Rat
theorem A_y (Fo : Foot) (hX : BX X) (ho : @Ok Fo pm H) (ht : Tab H) {n m : Nat} {v1 v2 v3 v10 v11 : Value} (hn4 : n ≤ 4) (hn0 : 0 < n) (ha : ArgS H v3 m fun _ u => ∃ l, u = St l) {L : Sl} (l0 : lk 0 L = some (.int .i64 (n : Int))) (l1 : lk 1 L = some v1) (l2 : lk 2 L = some v2) (l3 : lk 3 L = some v3) (l10 : lk 10 L = some v10) (l11 : lk 11 L = some v11) {ks : List Fr} {Q : Post}
  (hQ : ∀ H' vy cy y L', @Keep Fo pm H H' → @PRow Fo H' vy cy n y → (∀ i, i < n → sz (y i) 3) → H.next ≤ cy → lk 0 L' = some (.int .i64 (n : Int)) → lk 1 L' = some v1 → lk 2 L' = some v2 → lk 3 L' = some v3 → lk 10 L' = some v10 → lk 11 L' = some v11 → lk 14 L' = some vy → wp X pm (.code l_BasisAll_k63) L' H' ks Q) :
  wp X pm (.code l_BasisAll_k75) L H ks Q := by
 obtain ⟨base, cap, rfl, hel⟩ := ha.ex
 simp [-l_BasisAll_b72, -l_BasisAll_k63]
 refine LoopAt.of (fun s : YState => [(0, .int .i64 (n : Int)), (1, v1), (2, v2), (3, .slice base m cap), (10, v10), (11, v11), (14, s.v), (15, .int .i64 (s.i : Int))])
  (fun s H1 => GRow Fo pm H H1 s.v s.i s.x s.o ∧ s.i ≤ n ∧ (s.o = none → s.i = 0) ∧ ∀ j, j < s.i → sz (s.x j) 3) (fun s => n - s.i) ⟨0, .slice none 0 0, none, fun _ => 0⟩ (by simp [l0, l1, l2, l3, l10, l11]) ⟨GRow.nil Fo ho, by simp, by simp, by simp⟩ ?_
 rintro ⟨i, v, o, x⟩ H1 ⟨g1, hi, hio, hsz⟩
 simp only at g1 hi hio hsz
 by_cases hin : i < n
 · have w1 : wr .i64 ((i : Int) + 1) = ((i + 1 : Nat) : Int) := by rw [wr_i64 (by omega) (by omega)]; simp
   have ht1 : Tab H1 := @Keep.some Fo _ _ _ g1.k ho _ _ ht
   by_cases him : i < m
   · obtain ⟨b, off, yb, row, u, rfl, h2, h3, h4, l, rfl⟩ := hel i him
     simp [hin, him, @Keep.some Fo _ _ _ g1.k ho _ _ h2, h3, h4, -l_BasisAll_k66]
     refine CallAt.of (by simp) (by simp) (LText_spec hX.toLX (l := l)) ?_
     rintro _ H1 ⟨rfl, rfl⟩
     simp [-l_BasisAll_k66]
     refine yApp Fo hX ho ht1 g1 (by omega) (t := l.take 20) (by simp; omega) (by simp) (by simp) ?_
     intro H2 v' o' q L' g2 hq l14 hk
     have e1 : ∀ {k : Nat} {u : Value}, k ≠ 14 → ¬ (93 ≤ k ∧ k ≤ 97) → lk k _ = some u → lk k L' = some u := fun a b c => hk _ _ a b c
     have e15 : lk 15 L' = some (.int .i64 (i : Int)) := hk 15 _ (by omega) (by omega) (by simp)
     simp [e15, w1]
     refine .of ⟨i + 1, v', some o', fun j => if j = i then q else x j⟩ (by show n - (i + 1) < n - i; omega) ?_ ⟨g2, by simp; omega, by simp, fun j hj => ?_⟩
     · simp [l14]
       exact ⟨hk 0 _ (by omega) (by omega) (by simp), hk 1 _ (by omega) (by omega) (by simp), hk 2 _ (by omega) (by omega) (by simp), hk 3 _ (by omega) (by omega) (by simp), hk 10 _ (by omega) (by omega) (by simp), hk 11 _ (by omega) (by omega) (by simp)⟩
     · simp only at hj ⊢
       split
       · exact hq.1
       · exact hsz j (by omega)
   · simp [hin, him, -l_BasisAll_k66]
     refine yApp Fo hX ho ht1 g1 (by omega) (t := [49]) (by simp) (by simp) (by simp) ?_
     intro H2 v' o' q L' g2 hq l14 hk
     have e15 : lk 15 L' = some (.int .i64 (i : Int)) := hk 15 _ (by omega) (by omega) (by simp)
     simp [e15, w1]
     refine .of ⟨i + 1, v', some o', fun j => if j = i then q else x j⟩ (by show n - (i + 1) < n - i; omega) ?_ ⟨g2, by simp; omega, by simp, fun j hj => ?_⟩
     · simp [l14]
       exact ⟨hk 0 _ (by omega) (by omega) (by simp), hk 1 _ (by omega) (by omega) (by simp), hk 2 _ (by omega) (by omega) (by simp), hk 3 _ (by omega) (by omega) (by simp), hk 10 _ (by omega) (by omega) (by simp), hk 11 _ (by omega) (by omega) (by simp)⟩
     · simp only at hj ⊢
       split
       · exact hq.1
       · exact hsz j (by omega)
 · have : i = n := by omega
   subst this
   simp [-l_BasisAll_k63]
   cases o with
   | none => have := hio rfl; omega
   | some cy =>
     refine hQ H1 v cy x _ g1.k g1.row hsz (g1.ge cy rfl) ?_ ?_ ?_ ?_ ?_ ?_ ?_ <;> simp
theorem cApp (Fo : Foot) (hX : BX X) {H0 : Heap} (ho : @Ok Fo pm H0) (ht : Tab H) {v : Value} {i : Nat} {x : Nat → Rat} {o : Option Nat} (g : GRow Fo pm H0 H v i x o) (hi : i < 1000) {L : Sl} {t : List UInt8} (htl : t.length ≤ 20) (l19 : lk 19 L = some v) (l21 : lk 21 L = some (St t)) {ks : List Fr} {Q : Post}
  (hQ : ∀ H' v' o' q L', GRow Fo pm H0 H' v' (i + 1) (fun j => if j = i then q else x j) (some o') → Smol q → lk 19 L' = some v' → (∀ k u, k ≠ 19 → ¬ (143 ≤ k ∧ k ≤ 147) → lk k L = some u → lk k L' = some u) → wp X pm (.res .normal) L' H' ks Q) : wp X pm (.code l_BasisAll_k47) L H ks Q := by
 obtain ⟨plo, pok, pnum⟩ := pm
 obtain rfl : pnum = none := @Ok.num Fo _ _ ho
 have hpk : ∀ (H : Heap), Perm.pick ⟨plo, pok, none⟩ H = H.next := fun _ => rfl
 have hmk : ∀ (H : Heap) x, Perm.make ⟨plo, pok, none⟩ H x = H.new x := fun _ _ => rfl
 simp [l19, l21]
 refine CallAt.of (by simp) (by simp) (@LF2_spec X _ H (fl Fo o) hX.toLX g.ok ht t htl) ?_
 rintro p H2 ⟨k2, q, hp, hq⟩
 obtain ⟨a, rfl⟩ := @IsFrac.ptr (fl Fo o) _ _ _ hp
 obtain ⟨H3, e3, g3⟩ := g.grow ho k2 hp (by omega)
 simp [hpk, hmk, getCells, e3]
 refine hQ H3 _ _ q _ g3 hq (by simp) fun k u h1 h2 h => ?_
 simp [h1, show k ≠ 147 by omega, show k ≠ 146 by omega, show k ≠ 145 by omega, show k ≠ 144 by omega, show k ≠ 143 by omega, h]
theorem A_col (Fo : Foot) (hX : BX X) (ho : @Ok Fo pm H) (ht : Tab H) {n m ii : Nat} {v1 v2 v10 v11 v14 v18 : Value} {P : Nat → Value → Prop} (hn4 : n ≤ 4) (hn0 : 0 < n) (ha : ArgS H v1 m P) (hii : ii < m) (hP : ∀ u, P ii u → ∃ mu, ArgS H u mu fun _ u => ∃ l, u = St l) {L : Sl} (l0 : lk 0 L = some (.int .i64 (n : Int))) (l1 : lk 1 L = some v1) (l2 : lk 2 L = some v2) (l10 : lk 10 L = some v10) (l11 : lk 11 L = some v11) (l14 : lk 14 L = some v14) (l17 : lk 17 L = some (.int .i64 (ii : Int))) (l18 : lk 18 L = some v18) {ks : List Fr} {Q : Post}
  (hQ : ∀ H' vc cc x L', @Keep Fo pm H H' → @PRow Fo H' vc cc n x → (∀ i, i < n → Smol (x i)) → H.next ≤ cc → lk 0 L' = some (.int .i64 (n : Int)) → lk 1 L' = some v1 → lk 2 L' = some v2 → lk 10 L' = some v10 → lk 11 L' = some v11 → lk 14 L' = some v14 → lk 17 L' = some (.int .i64 (ii : Int)) → lk 18 L' = some v18 → lk 19 L' = some vc → wp X pm (.code l_BasisAll_k44) L' H' ks Q) :
  wp X pm (.code l_BasisAll_k56) L H ks Q := by
 obtain ⟨base, cap, rfl, hel⟩ := ha.ex
 obtain ⟨b1, off1, y1, row1, u1, rfl, a2, a3, a4, a5⟩ := hel ii hii
 obtain ⟨mu, hu⟩ := hP u1 a5
 obtain ⟨base2, cap2, rfl, hel2⟩ := hu.ex
 simp [-l_BasisAll_b53, -l_BasisAll_k44]
 refine LoopAt.of (fun s : YState => [(0, .int .i64 (n : Int)), (1, .slice (some ⟨b1, off1, none⟩) m cap), (2, v2), (10, v10), (11, v11), (14, v14), (17, .int .i64 (ii : Int)), (18, v18), (19, s.v), (20, .int .i64 (s.i : Int))])
  (fun s H1 => GRow Fo pm H H1 s.v s.i s.x s.o ∧ s.i ≤ n ∧ (s.o = none → s.i = 0) ∧ ∀ j, j < s.i → Smol (s.x j)) (fun s => n - s.i) ⟨0, .slice none 0 0, none, fun _ => 0⟩ (by simp [l0, l1, l2, l10, l11, l14, l17, l18]) ⟨GRow.nil Fo ho, by simp, by simp, by simp⟩ ?_
 rintro ⟨i, v, o, x⟩ H1 ⟨g1, hi, hio, hsz⟩
 simp only at g1 hi hio hsz
 by_cases hin : i < n
 · have w1 : wr .i64 ((i : Int) + 1) = ((i + 1 : Nat) : Int) := by rw [wr_i64 (by omega) (by omega)]; simp
   have ht1 : Tab H1 := @Keep.some Fo _ _ _ g1.k ho _ _ ht
   have step : ∀ {L1 : Sl}, lk 0 L1 = some (.int .i64 (n : Int)) → lk 1 L1 = some (.slice (some ⟨b1, off1, none⟩) m cap) → lk 2 L1 = some v2 → lk 10 L1 = some v10 → lk 11 L1 = some v11 → lk 14 L1 = some v14 → lk 17 L1 = some (.int .i64 (ii : Int)) → lk 18 L1 = some v18 → lk 20 L1 = some (.int .i64 (i : Int)) → ∀ (H2 : Heap) (v' : Value) (o' : Nat) (q : Rat) (L' : Sl), GRow Fo pm H H2 v' (i + 1) (fun j => if j = i then q else x j) (some o') → Smol q → lk 19 L' = some v' → (∀ k u, k ≠ 19 → ¬ (143 ≤ k ∧ k ≤ 147) → lk k L1 = some u → lk k L' = some u) →
    lk 20 L' = some (.int .i64 (i : Int)) ∧ ∀ z, Again (fun s : YState => [(0, .int .i64 (n : Int)), (1, .slice (some ⟨b1, off1, none⟩) m cap), (2, v2), (10, v10), (11, v11), (14, v14), (17, .int .i64 (ii : Int)), (18, v18), (19, s.v), (20, .int .i64 (s.i : Int))])
     (fun s H1 => GRow Fo pm H H1 s.v s.i s.x s.o ∧ s.i ≤ n ∧ (s.o = none → s.i = 0) ∧ ∀ j, j < s.i → Smol (s.x j)) (fun s => n - s.i) ⟨i, v, o, x⟩ ((20, .int .i64 ((i : Int) + 1)) :: (127, .int .i64 ((i : Int) + 1)) :: (126, z) :: L') H2 := by
    intro L1 q0 q1 q2 q10 q11 q14 q17 q18 q20 H2 v' o' q L' g2 hq l19 hk
    refine ⟨hk 20 _ (by omega) (by omega) q20, fun z => .of ⟨i + 1, v', some o', fun j => if j = i then q else x j⟩ (by show n - (i + 1) < n - i; omega) ?_ ⟨g2, by simp; omega, by simp, fun j hj => ?_⟩⟩
    · simp [l19]
      exact ⟨hk 0 _ (by omega) (by omega) q0, hk 1 _ (by omega) (by omega) q1, hk 2 _ (by omega) (by omega) q2, hk 10 _ (by omega) (by omega) q10, hk 11 _ (by omega) (by omega) q11, hk 14 _ (by omega) (by omega) q14, hk 17 _ (by omega) (by omega) q17, hk 18 _ (by omega) (by omega) q18⟩
    · simp only at hj ⊢
      split
      · exact hq
      · exact hsz j (by omega)
   have ga2 := @Keep.some Fo _ _ _ g1.k ho _ _ a2
   by_cases him : i < mu
   · obtain ⟨b, off, yb, row, u, rfl, h2, h3, h4, l, rfl⟩ := hel2 i him
     simp [hin, him, hii, ga2, a3, a4, @Keep.some Fo _ _ _ g1.k ho _ _ h2, h3, h4, -l_BasisAll_k47]
     refine CallAt.of (by simp) (by simp) (LText_spec hX.toLX (l := l)) ?_
     rintro _ H1 ⟨rfl, rfl⟩
     simp [-l_BasisAll_k47]
     refine cApp Fo hX ho ht1 g1 (by omega) (t := l.take 20) (by simp; omega) (by simp) (by simp) ?_
     intro H2 v' o' q L' g2 hq l19 hk
     obtain ⟨e20, ag⟩ := step (by simp) (by simp) (by simp) (by simp) (by simp) (by simp) (by simp) (by simp) (by simp) H2 v' o' q L' g2 hq l19 hk
     simp [e20, w1]
     exact ag _
   · simp [hin, him, hii, ga2, a3, a4, -l_BasisAll_k47]
     refine cApp Fo hX ho ht1 g1 (by omega) (t := [48]) (by simp) (by simp) (by simp) ?_
     intro H2 v' o' q L' g2 hq l19 hk
     obtain ⟨e20, ag⟩ := step (by simp) (by simp) (by simp) (by simp) (by simp) (by simp) (by simp) (by simp) (by simp) H2 v' o' q L' g2 hq l19 hk
     simp [e20, w1]
     exact ag _
 · have : i = n := by omega
   subst this
   simp [-l_BasisAll_k44]
   cases o with
   | none => have := hio rfl; omega
   | some cy =>
     refine hQ H1 v cy x _ g1.k g1.row hsz (g1.ge cy rfl) ?_ ?_ ?_ ?_ ?_ ?_ ?_ ?_ ?_ <;> simp
end
end Go.Dam.C
namespace Go.Dam.C
open Go Go.Dam
variable [Foot]
variable {X : Cx} {pm : Perm} {H H' H'' : Heap}
structure NState where
 i : Nat
 rb : Nat → Nat
def NRows (H H1 : Heap) (c n : Nat) (t : Nat → Nat → List UInt8) (s : NState) : Prop := ∃ ss, H1.get c = some (.cells ss (.n 1)) ∧ ss.length = n ∧ ∀ j, j < s.i → ss[j]? = some (.slice (some ⟨s.rb j, 0, none⟩) n n) ∧ H.next ≤ s.rb j ∧ s.rb j ≠ c ∧ s.rb j < H1.next ∧ ∃ ts, H1.get (s.rb j) = some (.cells ts (.n 1)) ∧ ts.length = n ∧ ∀ k, k < n → ts[k]? = some (St (t j k))
end Go.Dam.C
namespace Go.Dam.C
open Go Go.Dam
variable {X : Cx} {pm : Perm} {H H' H'' : Heap}
theorem NRows.smat {H1 : Heap} {c n : Nat} {t : Nat → Nat → List UInt8} {s : NState} (h : NRows H H1 c n t s) (hs : s.i = n) : SMat H1 (.slice (some ⟨c, 0, none⟩) n n) c s.rb n t := by
 obtain ⟨ss, h1, h2, h3⟩ := h
 exact ⟨n, ss, rfl, h1, h2, Nat.le_refl _, fun i hi => by
  obtain ⟨r1, _, _, _, ts, r2, r3, r4⟩ := h3 i (by omega)
  exact ⟨n, ts, r1, Nat.le_refl _, r2, r3, r4⟩⟩
end Go.Dam.C
namespace Go.Dam.C
open Go Go.Dam
variable [Foot]
variable {X : Cx} {pm : Perm} {H H' H'' : Heap}
def nextT (a : Int) (x : Nat → Rat) (t : Nat → Nat → List UInt8) (i k : Nat) : List UInt8 := if (k : Int) = a then qtext (x i) else t i k
theorem A_next (hX : BX X) (ho : Ok pm H) (ht : Tab H) {n c cc : Nat} {rb : Nat → Nat} {t : Nat → Nat → List UInt8} {x : Nat → Rat} {a : Int} {v1 v2 v10 v11 v14 v17 v19 : Value} (hn4 : n ≤ 4) (hn0 : 0 < n) (hr : SMat H v11 c rb n t) (hx : PRow H v19 cc n x) (sx : ∀ i, i < n → Smol (x i)) {L : Sl} (l0 : lk 0 L = some (.int .i64 (n : Int))) (l1 : lk 1 L = some v1) (l2 : lk 2 L = some v2) (l10 : lk 10 L = some v10) (l11 : lk 11 L = some v11) (l14 : lk 14 L = some v14) (l17 : lk 17 L = some v17) (l18 : lk 18 L = some (.int .i64 a)) (l19 : lk 19 L = some v19) {ks : List Fr} {Q : Post}
  (hQ : ∀ H' vN cN rbN L', Keep pm H H' → SMat H' vN cN rbN n (nextT a x t) → lk 0 L' = some (.int .i64 (n : Int)) → lk 1 L' = some v1 → lk 2 L' = some v2 → lk 10 L' = some v10 → lk 11 L' = some v11 → lk 14 L' = some v14 → lk 17 L' = some v17 → lk 18 L' = some (.int .i64 a) → lk 19 L' = some v19 → lk 22 L' = some vN → wp X pm (.code l_BasisAll_k34) L' H' ks Q) :
  wp X pm (.code l_BasisAll_k44) L H ks Q := by
 obtain ⟨plo, pok, pnum⟩ := pm
 obtain rfl : pnum = none := ho.num
 have hpk : ∀ (H : Heap), Perm.pick ⟨plo, pok, none⟩ H = H.next := fun _ => rfl
 have hmk : ∀ (H : Heap) x, Perm.make ⟨plo, pok, none⟩ H x = H.new x := fun _ _ => rfl
 obtain ⟨capr, ssr, rfl, hgr, hlr, hcr, hrr⟩ := hr.ex
 obtain ⟨capx, psx, rfl, hgx, hlx, hcx, _, hfx⟩ := hx.parts
 simp [l0, -l_BasisAll_k43]
 rw [mk_run ho (by omega) (by omega)]
 obtain ⟨cN, hcN⟩ : ∃ cN, cN = H.next := ⟨_, rfl⟩
 obtain ⟨H1, hH1⟩ : ∃ H1, H1 = H.new (.cells (times [.slice none 0 0] n) (.n 1)) := ⟨_, rfl⟩
 have k1 : Keep ⟨plo, pok, none⟩ H H1 := by rw [hH1]; exact (Keep.refl ho).new _
 have hg1 : H1.get cN = some (.cells (times [.slice none 0 0] n) (.n 1)) := by rw [hH1, hcN]; exact get_new_next
 have hl1 : H1.next = cN + 1 := by rw [hH1, hcN]; rfl
 simp [← hH1, ← hcN, l11, -l_BasisAll_b41, -l_BasisAll_k34]
 refine LoopAt.of (fun s : NState => [(0, .int .i64 (n : Int)), (1, v1), (2, v2), (10, v10), (11, .slice (some ⟨c, 0, none⟩) n capr), (14, v14), (17, v17), (18, .int .i64 a), (19, .slice (some ⟨cc, 0, none⟩) n capx), (22, .slice (some ⟨cN, 0, none⟩) n n), (151, .int .i64 (n : Int)), (152, .int .i64 (s.i : Int))])
  (fun s H' => Keep ⟨plo, pok, none⟩ H H' ∧ s.i ≤ n ∧ NRows H H' cN n (nextT a x t) s) (fun s => n - s.i) ⟨0, fun _ => 0⟩ (by simp [l0, l1, l2, l10, l11, l14, l17, l18, l19]) ⟨k1, by simp, _, hg1, by rw [times_one]; simp, by simp⟩ ?_
 rintro ⟨i, rbN⟩ H2 ⟨k2, hi, ss, hg2, hl2, hrows⟩
 simp only at hi hrows
 have hmc : ∀ o, Perm.may ⟨plo, pok, o⟩ cN = true := fun o => ho.may (by omega)
 by_cases hin : i < n
 · have w1 : wr .i64 ((i : Int) + 1) = ((i + 1 : Nat) : Int) := by rw [wr_i64 (by omega) (by omega)]; simp
   obtain ⟨capi, ts, r1, r2, r3, r4, r5⟩ := hrr i hin
   obtain ⟨p, p1, p2⟩ := hfx i hin
   have hone : ts.all oneCellV = true := by
    rw [List.all_eq_true]
    intro v hv
    obtain ⟨j, hj⟩ := List.getElem?_of_mem hv
    have hl := (List.getElem?_eq_some_iff.1 hj).1
    rw [r5 j (by omega)] at hj
    cases hj
    rfl
   have hgt : getCells ts 0 n = some ts := by rw [← r4]; exact getCells_all ts
   obtain ⟨r, hr0⟩ : ∃ r, r = H2.next := ⟨_, rfl⟩
   obtain ⟨H3, hH3⟩ : ∃ H3, H3 = H2.new (.cells ts (.n 1)) := ⟨_, rfl⟩
   have k3 : Keep ⟨plo, pok, none⟩ H2 H3 := by rw [hH3]; exact (Keep.refl k2.ok).new _
   have hg3 : H3.get r = some (.cells ts (.n 1)) := by rw [hH3, hr0]; exact get_new_next
   have hn3 : H3.next = r + 1 := by rw [hH3, hr0]; rfl
   have hgc3 : H3.get cN = some (.cells ss (.n 1)) := k3.some k2.ok hg2
   have hn2 := k2.next
   have e1 : (effAppend 1 16 (.slice none 0 0) ts n).run ⟨plo, pok, none⟩ H2 = some (.slice (some ⟨r, 0, none⟩) n n, H3) := by
    unfold effAppend
    simp [hpk, hmk, show ¬ n = 0 by omega, show n * 16 ≤ 17179869184 by omega, show n ≤ 17179869184 by omega, hone, ← hH3, ← hr0]
   have hsc : setCells ss i [Value.slice (some ⟨r, 0, none⟩) n n] = some (ss.set i (.slice (some ⟨r, 0, none⟩) n n)) := setCells_one (by omega)
   obtain ⟨H4, hH4⟩ : ∃ H4, H4 = H3.put cN (.cells (ss.set i (.slice (some ⟨r, 0, none⟩) n n)) (.n 1)) := ⟨_, rfl⟩
   have k03 := k2.trans k3
   have k04 : Keep ⟨plo, pok, none⟩ H H4 := by rw [hH4]; exact k03.put (by omega) hgc3 _
   have lc2 : cN < H2.next := k2.ok.lt hg2
   have hg4c : H4.get cN = some (.cells (ss.set i (.slice (some ⟨r, 0, none⟩) n n)) (.n 1)) := by rw [hH4]; exact get_put_same
   have hg4 : H4.get r = some (.cells ts (.n 1)) := by rw [hH4]; exact (get_put_ne (by omega)).trans hg3
   have hn4' : H4.next = r + 1 := by rw [hH4]; exact hn3
   have oth : ∀ b, b < H2.next → b ≠ cN → H4.get b = H2.get b := fun b hb hbc => by rw [hH4, get_put_ne hbc]; exact k3.get b hb
   have sset : (ss.set i (.slice (some ⟨r, 0, none⟩) n n))[i]? = some (.slice (some ⟨r, 0, none⟩) n n) := List.getElem?_set_self (by omega)
   simp [hin, k2.some ho hgr, r1, k2.some ho r3, hgt, e1, hgc3, hsc, hmc, ← hH4, -setCells_one, -l_BasisAll_k36]
   -- the end of a round
   have fin : ∀ {H5 : Heap} {L' : Sl} {ts' : List Value}, Keep ⟨plo, pok, none⟩ H H5 → (∀ b, b < H4.next → b ≠ r → H5.get b = H4.get b) → H4.next ≤ H5.next → H5.get r = some (.cells ts' (.n 1)) → ts'.length = n → (∀ k, k < n → ts'[k]? = some (St (nextT a x t i k))) →
    lk 0 L' = some (.int .i64 (n : Int)) → lk 1 L' = some v1 → lk 2 L' = some v2 → lk 10 L' = some v10 → lk 11 L' = some (.slice (some ⟨c, 0, none⟩) n capr) → lk 14 L' = some v14 → lk 17 L' = some v17 → lk 18 L' = some (.int .i64 a) → lk 19 L' = some (.slice (some ⟨cc, 0, none⟩) n capx) → lk 22 L' = some (.slice (some ⟨cN, 0, none⟩) n n) → lk 151 L' = some (.int .i64 (n : Int)) → lk 152 L' = some (.int .i64 ((i + 1 : Nat) : Int)) →
    Again (fun s : NState => [(0, .int .i64 (n : Int)), (1, v1), (2, v2), (10, v10), (11, .slice (some ⟨c, 0, none⟩) n capr), (14, v14), (17, v17), (18, .int .i64 a), (19, .slice (some ⟨cc, 0, none⟩) n capx), (22, .slice (some ⟨cN, 0, none⟩) n n), (151, .int .i64 (n : Int)), (152, .int .i64 (s.i : Int))])
     (fun s H' => Keep ⟨plo, pok, none⟩ H H' ∧ s.i ≤ n ∧ NRows H H' cN n (nextT a x t) s) (fun s => n - s.i) ⟨i, rbN⟩ L' H5 := by
    intro H5 L' ts' k5 o5 n5 g5 t5 e5 q0 q1 q2 q10 q11 q14 q17 q18 q19 q22 q151 q152
    refine .of ⟨i + 1, fun j => if j = i then r else rbN j⟩ (by show n - (i + 1) < n - i; omega) (by simp [q0, q1, q2, q10, q11, q14, q17, q18, q19, q22, q151, q152]) ⟨k5, by simp; omega, _, (o5 cN (by omega) (by omega)).trans hg4c, by simp [hl2], fun j hj => ?_⟩
    simp only at hj ⊢
    by_cases hji : j = i
    · subst hji
      simp only [if_true]
      exact ⟨sset, by omega, by omega, by omega, ts', g5, t5, e5⟩
    · simp only [hji, if_false]
      obtain ⟨s1, s2, s3, s4, ts0, s5, s6, s7⟩ := hrows j (by omega)
      exact ⟨by rw [List.getElem?_set_ne (fun e => hji e.symm)]; exact s1, s2, s3, by omega, ts0, ((o5 _ (by omega) (by omega)).trans (oth _ s4 s3)).trans s5, s6, s7⟩
   by_cases ha : 0 ≤ a ∧ a < (n : Int)
   · obtain ⟨a', rfl⟩ : ∃ a' : Nat, a = (a' : Int) := ⟨a.toNat, by omega⟩
     have ha' : a' < n := by omega
     have hres : ∀ k, H4.get (H4.next + k) = none := fun k => k04.ok.wf _ (by omega)
     have hres0 : H4.get H4.next = none := k04.ok.wf _ (by omega)
     have p4 := p2.keep ho k04
     simp [ha', -l_BasisAll_k35]
     refine DrawAt.of k04.ok.lo rfl ?_
     simp [inOrd, hres, hres0, hin, hg4c, sset, k04.some ho hgx, p1, -l_BasisAll_k35]
     refine CallD.of (vs := [p]) (by simp [hres]) (by simp) (by simp) rfl (Text_frac hX.toLX (k := 3) (k04.ok.up 12).fresh (ht.keep ho (k04.up 12)) (p4.keep k04.ok ((Keep.refl k04.ok).up 12)) (sx i hin).1 (by omega) (by omega)) ?_
     rintro _ H5 ⟨k5, rfl⟩
     have k5' : Keep ⟨plo, pok, none⟩ (H4.up 12) H5 := k5.perm rfl (k04.ok.up 12).lo
     have hres5 : ∀ j, j < 12 → H5.get (H4.next + j) = none := fun j hj => (k5'.get _ (by simp; omega)).trans (hres j)
     have k45 : Keep ⟨plo, pok, none⟩ H4 H5 := ((Keep.refl k04.ok).up 12).trans k5'
     have hg5 : H5.get r = some (.cells ts (.n 1)) := k45.some k04.ok hg4
     have hD : ∀ m : Perm, disj (ptrs m [p]) [cN] = true := fun m => disj_ptrs fun z hz => by
      rcases List.mem_cons.1 hz with e | hz
      · exact p4.ne hg4c (cells_no _) z e.symm
      · cases hz
     have hsc2 : setCells ts a' [St (qtext (x i))] = some (ts.set a' (St (qtext (x i)))) := setCells_one (by omega)
     have hmr : ∀ o, Perm.may ⟨plo, pok, o⟩ r = true := fun o => ho.may (by omega)
     have lcx : cc < H4.next := k04.ok.lt (k04.some ho hgx)
     have lc4 : cN < H4.next := by omega
     have lr4 : r < H4.next := by omega
     simp [hres5, ha', hg5, hsc2, hmr, confFine, madeB, disj_nil_r, hD, lcx, lc4, lr4, w1, -setCells_one]
     have k05 := k04.trans k45
     have hn5 := k45.next
     refine fin (ts' := ts.set a' (St (qtext (x i)))) (k05.put (by omega) hg5 _) (fun b hb hbr => (get_put_ne hbr).trans (k45.get b hb)) hn5 get_put_same (by simp [r4]) (fun k hk => ?_) ?_ ?_ ?_ ?_ ?_ ?_ ?_ ?_ ?_ ?_ ?_ ?_
     · unfold nextT
       by_cases hka : k = a'
       · subst hka
         rw [List.getElem?_set_self (by omega), if_pos rfl]
       · rw [List.getElem?_set_ne (fun e => hka e.symm), if_neg (by omega)]
         exact r5 k hk
     all_goals simp
   · have fin2 : ∀ k, k < n → ts[k]? = some (St (nextT a x t i k)) := fun k hk => by
      unfold nextT
      rw [if_neg (by omega)]
      exact r5 k hk
     by_cases h0 : a < 0
     · simp [h0, w1]
       refine fin (ts' := ts) k04 (fun b _ _ => rfl) (Nat.le_refl _) hg4 r4 fin2 ?_ ?_ ?_ ?_ ?_ ?_ ?_ ?_ ?_ ?_ ?_ ?_
       all_goals simp
     · have h1 : ¬ a < (n : Int) := by omega
       simp [h0, h1, w1]
       refine fin (ts' := ts) k04 (fun b _ _ => rfl) (Nat.le_refl _) hg4 r4 fin2 ?_ ?_ ?_ ?_ ?_ ?_ ?_ ?_ ?_ ?_ ?_ ?_
       all_goals simp
 · have : i = n := by omega
   subst this
   simp [-l_BasisAll_k34]
   refine hQ H2 _ cN rbN _ k2 (NRows.smat (s := ⟨i, rbN⟩) ⟨ss, hg2, hl2, hrows⟩ rfl) ?_ ?_ ?_ ?_ ?_ ?_ ?_ ?_ ?_ ?_
   all_goals simp
end Go.Dam.C
namespace Go.Dam.C
section
open Go Go.Dam
variable [Foot]
variable {X : Cx} {pm : Perm} {H H' H'' : Heap}
theorem IsMat.mut {S : Nat → Prop} {v : Value} {s c n : Nat} {rb : Nat → Nat} {A : Nat → Nat → Rat} (h : IsMat H v s c rb n A) (ho : Ok pm H) (u : Upd pm S H H') (hc : ¬ S c) (hr : ∀ i, i < n → ¬ S (rb i)) : IsMat H' v s c rb n A := by
 obtain ⟨x, vl, h1, h2, h3, h4⟩ := h.ex
 exact ⟨x, vl, h1, typed_mut u.toMut ho h2 h3.2, h3, h4.mut ho u hc hr⟩
theorem A_put (hX : BX X) {H0 : Heap} (ho : Ok pm H0) (ht : Tab H0) {n b C V cy c cN cc : Nat} {vb rb cb rbN : Nat → Nat} {v1 v2 vy vr v17 vN vcol : Value} {y x : Nat → Rat} {A A2 B : Nat → Nat → Rat} {a : Int} (inv : AInv pm H0 H n b C V vb vy cy y vr c rb cb A B) (hn4 : n ≤ 4) (hn0 : 0 < n)
  (hC : H0.next ≤ C) (hvb : ∀ i, i < n → H0.next ≤ vb i) (hyC : cy ≠ C) (hyv : ∀ i, i < n → cy ≠ vb i) (hx : PRow H vcol cc n x) (sx : ∀ i, i < n → Smol (x i)) (hN : SMat H vN cN rbN n (fun i k => qtext (A2 k i))) (sm2 : ∀ k i, k < n → i < n → Smol (A2 k i))
  (hcase : (∃ a' : Nat, a = (a' : Int) ∧ a' < n ∧ A2 = setC A a' x) ∨ (a < 0 ∨ (n : Int) ≤ a))
  {L : Sl} (l0 : lk 0 L = some (.int .i64 (n : Int))) (l1 : lk 1 L = some v1) (l2 : lk 2 L = some v2) (l10 : lk 10 L = some (.pointer (some ⟨b, 0, none⟩))) (l11 : lk 11 L = some vr) (l14 : lk 14 L = some vy) (l17 : lk 17 L = some v17) (l18 : lk 18 L = some (.int .i64 a)) (l19 : lk 19 L = some vcol) (l22 : lk 22 L = some vN) {ks : List Fr} {Q : Post}
  (hQ : ∀ H' vr' c' rb' cb' A' B' L', AInv pm H0 H' n b C V vb vy cy y vr' c' rb' cb' A' B' → lk 0 L' = some (.int .i64 (n : Int)) → lk 1 L' = some v1 → lk 2 L' = some v2 → lk 10 L' = some (.pointer (some ⟨b, 0, none⟩)) → lk 11 L' = some vr' → lk 14 L' = some vy → lk 17 L' = some v17 → wp X pm (.res .normal) L' H' ks Q) :
  wp X pm (.code l_BasisAll_k34) L H ks Q := by
 obtain ⟨plo, pok, pnum⟩ := pm
 obtain rfl : pnum = none := ho.num
 have hg4 := gz34 hn4
 simp [l22, -l_BasisAll_k32]
 refine CallAt.of (by simp) (by simp) (MNew_spec hX.toMX inv.k.ok (ht.keep ho inv.k) hN (by omega) hn0 (A := colM A2) (fun i k hi hk => by have := (sm2 k i hk hi).2.2; omega) fun i k hi hk => (sm2 k i hk hi).2.1) ?_
 rintro _ H1 ⟨k1, pm1, s1, c1, rb1, rfl, hm1, hc1, hrb1⟩
 have inv1 := inv.keep k1
 have hN1 := hN.keep inv.k.ok k1
 have hx1 := hx.keep inv.k.ok k1
 have lC : C < H.next ∧ V < H.next ∧ (∀ j, j < n → cb j < H.next) ∧ ∀ j, j < n → vb j < H.next := by
  obtain ⟨⟨_, _, _, _, _, _, h1, h2⟩, _⟩ := inv.bas
  exact ⟨(h1.lt inv.k.ok).1, (h2.lt inv.k.ok).1, (h1.lt inv.k.ok).2, (h2.lt inv.k.ok).2⟩
 obtain ⟨lC, _, _, lvb⟩ := lC
 simp [-l_BasisAll_k30]
 rcases hcase with ⟨a', rfl, ha', rfl⟩ | hout
 · have sA2 : ∀ i j, i < n → j < n → sz (colM (setC A a' x) i j) 3 := fun i j hi hj => (sm2 j i hj hi).1
   have sB := inv.sB hn4
   have sx' : ∀ i, i < n → sz (x i) 12873 := fun i hi => sz_mono (sx i hi).1 (by omega)
   have hri := rank_iff (n := n) (c := x) (x := fun i => sumTo (fun t => B i t * x t) n) inv.l inv.r ha' fun _ => rfl
   simp [l0, l18, ha', -l_BasisAll_k26, -l_BasisAll_k27]
   refine CallAt.of (by simp) (by simp) (Rank_spec hX.toMX inv1.k.ok hm1 (by omega) hn0 sA2 hg4 (by omega)) ?_
   rintro _ H2 ⟨k2, rfl⟩
   have inv2 := inv1.keep k2
   have hm2 := hm1.keep inv1.k.ok k2
   have hN2 := hN1.keep inv1.k.ok k2
   have hx2 := hx1.keep inv1.k.ok k2
   have k12 := k1.trans k2
   simp [l0, l10, l18, l19, -l_BasisAll_k26, -l_BasisAll_k27]
   refine CallAt.of (by simp) (by simp) (Put_spec hX.toLX (K := 772411) (k := 12873) (x := fun i => sumTo (fun t => B i t * x t) n) inv2.k.ok inv2.bas hx2 (by omega) ha' (ho.may hC) (fun i hi => ho.may (hvb i hi)) sB sx' (fun i j hi hj => szs_sum hn4 (sB i · hi) sx' hj) (by omega) (by omega) fun _ => rfl) ?_
   rintro _ H3 (⟨hz, rfl, k3⟩ | ⟨hz, rfl, u3, o, ho3, hb3⟩)
   · have hrk : (red (colM (setC A a' x)) n 0 0 n).2 ≠ n := fun e => (hri.1 e) hz
     have hrk' : (((red (colM (setC A a' x)) n 0 0 n).2 : Int) == (n : Int)) = false := by
      rw [beq_eq_false_iff_ne]; omega
     have inv3 := inv2.keep k3
     simp [hrk', l0, l18, ha', -l_BasisAll_k24]
     refine CallAt.of (by simp) (by simp) (Rank_spec hX.toMX inv3.k.ok (hm2.keep inv2.k.ok k3) (by omega) hn0 sA2 hg4 (by omega)) ?_
     rintro _ H4 ⟨k4, rfl⟩
     simp [hrk', l0]
     refine hQ H4 vr c rb cb A B _ (inv3.keep k4) ?_ ?_ ?_ ?_ ?_ ?_ ?_ <;> simp [l0, l1, l2, l10, l11, l14, l17]
   · have hrk : (red (colM (setC A a' x)) n 0 0 n).2 = n := hri.2 hz
     have hrk' : (((red (colM (setC A a' x)) n 0 0 n).2 : Int) == (n : Int)) = true := by
      rw [beq_iff_eq]; omega
     have nS : ∀ q, H.next ≤ q → ¬ (q = C ∨ ∃ i, i < n ∧ q = vb i) := by
      rintro q hq (rfl | ⟨i, hi, rfl⟩)
      · omega
      · have := lvb i hi; omega
     have hm3 := hm2.mut inv2.k.ok u3 (nS _ hc1) fun i hi => nS _ (hrb1 i hi)
     have inv3 : AInv ⟨plo, pok, none⟩ H0 H3 n b C V vb vy cy y vN cN rbN (fun j => if j = a' then o else cb j) (setC A a' x) (elimM a' (fun i => sumTo (fun t => B i t * x t) n) (divM a' (sumTo (fun t => B a' t * x t) n) B)) := by
      refine ⟨Upd.keep inv2.k u3 ?_, hb3, hN2.upd inv2.k.ok hn0 inv2.bas u3, inv2.yrow.mut inv2.k.ok u3.toMut (u3.same _ (inv2.yrow.lt inv2.k.ok) ?_), fun k i hk hi => sm2 k i hk hi, Inv_left inv.l ha' (fun _ => rfl) hz, Inv_right inv.r ha' (fun _ => rfl) hz⟩
      · rintro q hq (rfl | ⟨i, hi, rfl⟩)
        · omega
        · have := hvb i hi; omega
      · rintro (e | ⟨i, hi, e⟩)
        · exact hyC e
        · exact hyv i hi e
     simp [hrk', l0, l18, ha', -l_BasisAll_k24]
     refine CallAt.of (by simp) (by simp) (Rank_spec hX.toMX inv3.k.ok hm3 (by omega) hn0 sA2 hg4 (by omega)) ?_
     rintro _ H4 ⟨k4, rfl⟩
     simp [hrk', l0, l22]
     refine hQ H4 vN cN rbN _ _ _ _ (inv3.keep k4) ?_ ?_ ?_ ?_ ?_ ?_ ?_ <;> simp [l0, l1, l2, l10, l14, l17]
 · have hcond : ¬ (0 ≤ a ∧ a < (n : Int)) := by omega
   by_cases h0 : a < 0
   · simp [l18, h0, -l_BasisAll_k26, -l_BasisAll_k27]
     refine CallAt.not (by simp) ?_
     simp [l10, l18, l19, -l_BasisAll_k26, -l_BasisAll_k27]
     refine CallAt.of (by simp) (by simp) (Put_out (vcol := vcol) hX.toLX inv1.bas hout) ?_
     rintro _ H2 ⟨rfl, rfl⟩
     simp [l18, h0, -l_BasisAll_k24]
     refine CallAt.not (by simp) ?_
     simp
     refine hQ _ vr c rb cb A B _ inv1 ?_ ?_ ?_ ?_ ?_ ?_ ?_ <;> simp [l0, l1, l2, l10, l11, l14, l17]
   · have h1 : ¬ a < (n : Int) := by omega
     simp [l0, l18, h0, h1, -l_BasisAll_k26, -l_BasisAll_k27]
     refine CallAt.not (by simp) ?_
     simp [l10, l18, l19, -l_BasisAll_k26, -l_BasisAll_k27]
     refine CallAt.of (by simp) (by simp) (Put_out (vcol := vcol) hX.toLX inv1.bas hout) ?_
     rintro _ H2 ⟨rfl, rfl⟩
     simp [l0, l18, h0, h1, -l_BasisAll_k24]
     refine CallAt.not (by simp) ?_
     simp
     refine hQ _ vr c rb cb A B _ inv1 ?_ ?_ ?_ ?_ ?_ ?_ ?_ <;> simp [l0, l1, l2, l10, l11, l14, l17]
end
section
open Go Go.Dam
variable [Fo : Foot]
variable {X : Cx} {pm : Perm} {H H' H'' : Heap}
theorem ArgS.keep {v : Value} {m : Nat} {P : Nat → Value → Prop} (h : ArgS H v m P) (ho : Ok pm H) (hk : Keep pm H H') : ArgS H' v m P := by
 obtain ⟨base, cap, h1, h2⟩ := h.ex
 exact ⟨base, cap, h1, fun i hi => by
  obtain ⟨b, off, y, row, u, e1, e2, e3, e4, e5⟩ := h2 i hi
  exact ⟨b, off, y, row, u, e1, hk.some ho e2, e3, e4, e5⟩⟩
def StrP (_ : Nat) (u : Value) : Prop := ∃ l, u = St l
def IntP (_ : Nat) (u : Value) : Prop := ∃ z : Int, u = .int .i64 z ∧ -9223372036854775808 ≤ z ∧ z ≤ 9223372036854775807
def ColP (H : Heap) (_ : Nat) (u : Value) : Prop := ∃ mu, ArgS H u mu StrP
structure BState where
 i : Nat
 vr : Value
 c : Nat
 rb : Nat → Nat
 cb : Nat → Nat
 A : Nat → Nat → Rat
 B : Nat → Nat → Rat
def BL (n b : Nat) (v1 v2 vy : Value) (s : BState) : Sl := [(0, .int .i64 (n : Int)), (1, v1), (2, v2), (10, .pointer (some ⟨b, 0, none⟩)), (11, s.vr), (14, vy), (17, .int .i64 (s.i : Int))]
def BI (pm : Perm) (H0 : Heap) (n b C V : Nat) (vb : Nat → Nat) (vy : Value) (cy : Nat) (y : Nat → Rat) (s : BState) (H' : Heap) : Prop := AInv pm H0 H' n b C V vb vy cy y s.vr s.c s.rb s.cb s.A s.B ∧ s.i ≤ 10
theorem A_loop (hX : BX X) {H0 : Heap} (ho : Ok pm H0) (ht : Tab H0) {n b C V cy c m1 m2 : Nat} {vb rb cb : Nat → Nat} {v1 v2 vy vr : Value} {y : Nat → Rat} {A B : Nat → Nat → Rat} (inv : AInv pm H0 H n b C V vb vy cy y vr c rb cb A B) (hn4 : n ≤ 4) (hn0 : 0 < n) (sy : ∀ i, i < n → sz (y i) 3)
  (hC : H0.next ≤ C) (hvb : ∀ i, i < n → H0.next ≤ vb i) (hyC : cy ≠ C) (hyv : ∀ i, i < n → cy ≠ vb i) (ha1 : ArgS H0 v1 m1 (ColP H0)) (ha2 : ArgS H0 v2 m2 IntP)
  {L : Sl} (l0 : lk 0 L = some (.int .i64 (n : Int))) (l1 : lk 1 L = some v1) (l2 : lk 2 L = some v2) (l10 : lk 10 L = some (.pointer (some ⟨b, 0, none⟩))) (l11 : lk 11 L = some vr) (l14 : lk 14 L = some vy) : wp X pm (.code l_BasisAll_k63) L H [] (BPost pm H0) := by
 obtain ⟨base1, cap1, e1, hel1⟩ := ha1.ex
 obtain ⟨base2, cap2, rfl, hel2⟩ := ha2.ex
 simp [-l_BasisAll_b61, -l_BasisAll_k22]
 refine LoopAt.of (BL n b v1 (.slice base2 m2 cap2) vy) (BI pm H0 n b C V vb vy cy y) (fun s => 10 - s.i) ⟨0, vr, c, rb, cb, A, B⟩ (by simp [BL, l0, l1, l2, l10, l11, l14]) ⟨inv, by simp⟩ ?_
 rintro ⟨i, vr1, c1, rb1, cb1, A1, B1⟩ H1 ⟨inv1, hi⟩
 simp only at inv1 hi
 have ext : ∀ {L1 : Sl}, lk 0 L1 = some (.int .i64 (n : Int)) → lk 10 L1 = some (.pointer (some ⟨b, 0, none⟩)) → lk 11 L1 = some vr1 → lk 14 L1 = some vy → wp X pm (.code l_BasisAll_k22) L1 H1 [] (BPost pm H0) := fun q0 q10 q11 q14 => A_fin hX ho ht inv1 hn4 hn0 sy q0 q10 q11 q14
 have ea1 := e1
 subst e1
 by_cases him1 : i < m1
 · by_cases hi10 : i < 10
   · by_cases him2 : i < m2
     · have w1 : wr .i64 ((i : Int) + 1) = ((i + 1 : Nat) : Int) := by rw [wr_i64 (by omega) (by omega)]; simp
       have wn : wr .i64 ((n : Int) + 1) = ((n + 1 : Nat) : Int) := by rw [wr_i64 (by omega) (by omega)]; simp
       obtain ⟨bb, off, yb, row, u, rfl, g2, g3, g4, z, rfl, z1, z2⟩ := hel2 i him2
       obtain ⟨r, hr⟩ : ∃ r, r = z.tmod ((n : Int) + 1) := ⟨_, rfl⟩
       have r1 : -((n + 1 : Nat) : Int) < r := by rw [hr]; exact Int.lt_tmod_of_pos z (by omega)
       have r2 : r < ((n + 1 : Nat) : Int) := by rw [hr]; exact Int.tmod_lt_of_pos z (by omega)
       have wz : wr .i64 r = r := wr_i64 (by omega) (by omega)
       have hn1 : (n : Int) + 1 ≠ 0 := by omega
       simp [BL, him1, hi10, him2, inv1.k.some ho g2, g3, g4, wn, hn1, ← hr, -l_BasisAll_k56]
       have inv1' := inv1
       have rest : ∀ (a : Int) (L1 : Sl), (a < 0 ∨ a ≤ (n : Int)) → lk 0 L1 = some (.int .i64 (n : Int)) → lk 1 L1 = some (.slice base1 m1 cap1) → lk 2 L1 = some (.slice (some ⟨bb, off, none⟩) m2 cap2) → lk 10 L1 = some (.pointer (some ⟨b, 0, none⟩)) → lk 11 L1 = some vr1 → lk 14 L1 = some vy → lk 17 L1 = some (.int .i64 (i : Int)) → lk 18 L1 = some (.int .i64 a) →
        wp X pm (.code l_BasisAll_k56) L1 H1 [.blk 7, .seq l_BasisAll_k23] (fun x l' H' => match x with
         | .normal => Again (BL n b (.slice base1 m1 cap1) (.slice (some ⟨bb, off, none⟩) m2 cap2) vy) (BI pm H0 n b C V vb vy cy y) (fun s => 10 - s.i) ⟨i, vr1, c1, rb1, cb1, A1, B1⟩ l' H'
         | x => wp X pm (.res x) l' H' [.blk 6, .seq l_BasisAll_k22] (BPost pm H0)) := by
        intro a L1 hab q0 q1 q2 q10 q11 q14 q17 q18
        refine A_col Fo hX inv1.k.ok (ht.keep ho inv1.k) hn4 hn0 (ha1.keep ho inv1.k) him1 (fun u hu => by obtain ⟨mu, h⟩ := hu; exact ⟨mu, h.keep ho inv1.k⟩) q0 q1 q2 q10 q11 q14 q17 q18 ?_
        intro H2 vc cc x L2 k2 hx sx _ p0 p1 p2 p10 p11 p14 p17 p18 p19
        have inv2 := inv1.keep k2
        refine A_next hX inv2.k.ok (ht.keep ho inv2.k) hn4 hn0 inv2.rows hx sx p0 p1 p2 p10 p11 p14 p17 p18 p19 ?_
        intro H3 vN cN rbN L3 k3 hN s0 s1 s2 s10 s11 s14 s17 s18 s19 s22
        have inv3 := inv2.keep k3
        have hx3 := hx.keep inv2.k.ok k3
        have fin : ∀ H' vr' c' rb' cb' A' B' L', AInv pm H0 H' n b C V vb vy cy y vr' c' rb' cb' A' B' → lk 0 L' = some (.int .i64 (n : Int)) → lk 1 L' = some (.slice base1 m1 cap1) → lk 2 L' = some (.slice (some ⟨bb, off, none⟩) m2 cap2) → lk 10 L' = some (.pointer (some ⟨b, 0, none⟩)) → lk 11 L' = some vr' → lk 14 L' = some vy → lk 17 L' = some (.int .i64 (i : Int)) → wp X pm (.res .normal) L' H' [.blk 7, .seq l_BasisAll_k23] (fun x l' H' => match x with
         | .normal => Again (BL n b (.slice base1 m1 cap1) (.slice (some ⟨bb, off, none⟩) m2 cap2) vy) (BI pm H0 n b C V vb vy cy y) (fun s => 10 - s.i) ⟨i, vr1, c1, rb1, cb1, A1, B1⟩ l' H'
         | x => wp X pm (.res x) l' H' [.blk 6, .seq l_BasisAll_k22] (BPost pm H0)) := by
         intro H' vr' c' rb' cb' A' B' L' inv' t0 t1 t2 t10 t11 t14 t17
         simp [t17, w1]
         exact .of ⟨i + 1, vr', c', rb', cb', A', B'⟩ (by show 10 - (i + 1) < 10 - i; omega) (by simp [BL, t0, t1, t2, t10, t11, t14]) ⟨inv', by simp; omega⟩
        by_cases hin : 0 ≤ a ∧ a < (n : Int)
        · obtain ⟨a', rfl⟩ : ∃ a' : Nat, a = (a' : Int) := ⟨a.toNat, by omega⟩
          have ha' : a' < n := by omega
          have hN' : SMat H3 vN cN rbN n (fun i k => qtext (setC A1 a' x k i)) := hN.congr fun i k _ _ => by
           unfold nextT setC
           by_cases hk : k = a'
           · simp [hk]
           · have : ¬ (k : Int) = (a' : Int) := by omega
             simp [hk, this]
          refine A_put hX ho ht inv3 hn4 hn0 hC hvb hyC hyv hx3 sx hN' (fun k i hk hi => ?_) (.inl ⟨a', rfl, ha', rfl⟩) s0 s1 s2 s10 s11 s14 s17 s18 s19 s22 fin
          unfold setC
          split
          · exact sx i hi
          · exact inv1.sm k i hk hi
        · have hN' : SMat H3 vN cN rbN n (fun i k => qtext (A1 k i)) := hN.congr fun i k _ hk => by
           unfold nextT
           rw [if_neg (by omega)]
          exact A_put hX ho ht inv3 hn4 hn0 hC hvb hyC hyv hx3 sx hN' inv1.sm (.inr (by omega)) s0 s1 s2 s10 s11 s14 s17 s18 s19 s22 fin
       refine ⟨fun h => ?_, fun h => ?_⟩
       · refine rest (-1) _ (by omega) ?_ ?_ ?_ ?_ ?_ ?_ ?_ ?_ <;> simp
       · refine rest r _ (by omega) ?_ ?_ ?_ ?_ ?_ ?_ ?_ ?_ <;> simp
     · simp [BL, him1, hi10, him2, -l_BasisAll_k22]
       refine ext ?_ ?_ ?_ ?_ <;> simp
   · simp [BL, him1, hi10, -l_BasisAll_k22]
     refine ext ?_ ?_ ?_ ?_ <;> simp
 · simp [BL, him1, -l_BasisAll_k22]
   refine ext ?_ ?_ ?_ ?_ <;> simp
end
section
open Go Go.Dam
variable [Fo : Foot]
variable {X : Cx} {pm : Perm} {H H' H'' : Heap}
theorem A_rows (_hX : BX X) (ho : Ok pm H) {n : Nat} {v1 v2 v3 v10 : Value} (hn4 : n ≤ 4) (hn0 : 0 < n) {L : Sl} (l0 : lk 0 L = some (.int .i64 (n : Int))) (l1 : lk 1 L = some v1) (l2 : lk 2 L = some v2) (l3 : lk 3 L = some v3) (l10 : lk 10 L = some v10) {ks : List Fr} {Q : Post}
  (hQ : ∀ H' vN cN rbN L', Keep pm H H' → SMat H' vN cN rbN n (fun i k => qtext (idM k i)) → lk 0 L' = some (.int .i64 (n : Int)) → lk 1 L' = some v1 → lk 2 L' = some v2 → lk 3 L' = some v3 → lk 10 L' = some v10 → lk 11 L' = some vN → wp X pm (.code l_BasisAll_k75) L' H' ks Q) :
  wp X pm (.code l_BasisAll_k91) L H ks Q := by
 obtain ⟨plo, pok, pnum⟩ := pm
 obtain rfl : pnum = none := ho.num
 simp [l0, -l_BasisAll_k90]
 rw [mk_run ho (by omega) (by omega)]
 obtain ⟨cN, hcN⟩ : ∃ cN, cN = H.next := ⟨_, rfl⟩
 obtain ⟨H1, hH1⟩ : ∃ H1, H1 = H.new (.cells (times [.slice none 0 0] n) (.n 1)) := ⟨_, rfl⟩
 have k1 : Keep ⟨plo, pok, none⟩ H H1 := by rw [hH1]; exact (Keep.refl ho).new _
 have hg1 : H1.get cN = some (.cells (times [.slice none 0 0] n) (.n 1)) := by rw [hH1, hcN]; exact get_new_next
 have hl1 : H1.next = cN + 1 := by rw [hH1, hcN]; rfl
 simp [← hH1, ← hcN, -l_BasisAll_b88, -l_BasisAll_k75]
 refine LoopAt.of (fun s : NState => [(0, .int .i64 (n : Int)), (1, v1), (2, v2), (3, v3), (10, v10), (11, .slice (some ⟨cN, 0, none⟩) n n), (48, .int .i64 (n : Int)), (49, .int .i64 (s.i : Int))])
  (fun s H' => Keep ⟨plo, pok, none⟩ H H' ∧ s.i ≤ n ∧ NRows H H' cN n (fun i k => qtext (idM k i)) s) (fun s => n - s.i) ⟨0, fun _ => 0⟩ (by simp [l0, l1, l2, l3, l10]) ⟨k1, by simp, _, hg1, by rw [times_one]; simp, by simp⟩ ?_
 rintro ⟨i, rbN⟩ H2 ⟨k2, hi, ss, hg2, hl2, hrows⟩
 simp only at hi hrows
 have hmc : Perm.may ⟨plo, pok, none⟩ cN = true := ho.may (by omega)
 by_cases hin : i < n
 · have w1 : wr .i64 ((i : Int) + 1) = ((i + 1 : Nat) : Int) := by rw [wr_i64 (by omega) (by omega)]; simp
   simp [hin, -l_BasisAll_k84]
   rw [mk_run k2.ok (by omega) (by omega)]
   obtain ⟨r, hr0⟩ : ∃ r, r = H2.next := ⟨_, rfl⟩
   obtain ⟨H3, hH3⟩ : ∃ H3, H3 = H2.new (.cells (times [.string ⟨#[]⟩] n) (.n 1)) := ⟨_, rfl⟩
   have k3 : Keep ⟨plo, pok, none⟩ H2 H3 := by rw [hH3]; exact (Keep.refl k2.ok).new _
   have hg3 : H3.get r = some (.cells (times [.string ⟨#[]⟩] n) (.n 1)) := by rw [hH3, hr0]; exact get_new_next
   have hn3 : H3.next = r + 1 := by rw [hH3, hr0]; rfl
   have hgc3 : H3.get cN = some (.cells ss (.n 1)) := k3.some k2.ok hg2
   have hn2 := k2.next
   have hsc : setCells ss i [Value.slice (some ⟨r, 0, none⟩) n n] = some (ss.set i (.slice (some ⟨r, 0, none⟩) n n)) := setCells_one (by omega)
   obtain ⟨H4, hH4⟩ : ∃ H4, H4 = H3.put cN (.cells (ss.set i (.slice (some ⟨r, 0, none⟩) n n)) (.n 1)) := ⟨_, rfl⟩
   have k03 := k2.trans k3
   have k04 : Keep ⟨plo, pok, none⟩ H H4 := by rw [hH4]; exact k03.put (by omega) hgc3 _
   have lc2 : cN < H2.next := k2.ok.lt hg2
   have hg4c : H4.get cN = some (.cells (ss.set i (.slice (some ⟨r, 0, none⟩) n n)) (.n 1)) := by rw [hH4]; exact get_put_same
   have hg4 : H4.get r = some (.cells (times [.string ⟨#[]⟩] n) (.n 1)) := by rw [hH4]; exact (get_put_ne (by omega)).trans hg3
   have hn4' : H4.next = r + 1 := by rw [hH4]; exact hn3
   have oth : ∀ b, b < H2.next → b ≠ cN → H4.get b = H2.get b := fun b hb hbc => by rw [hH4, get_put_ne hbc]; exact k3.get b hb
   have sset : (ss.set i (.slice (some ⟨r, 0, none⟩) n n))[i]? = some (.slice (some ⟨r, 0, none⟩) n n) := List.getElem?_set_self (by omega)
   have hmr : Perm.may ⟨plo, pok, none⟩ r = true := ho.may (by omega)
   simp [hin, ← hH3, ← hr0, hgc3, hsc, hmc, ← hH4, hg4c, sset, -setCells_one, -l_BasisAll_b82, -l_BasisAll_k77]
   refine LoopAt.of (fun d : Nat => [(0, .int .i64 (n : Int)), (1, v1), (2, v2), (3, v3), (10, v10), (11, .slice (some ⟨cN, 0, none⟩) n n), (12, .int .i64 (i : Int)), (48, .int .i64 (n : Int)), (49, .int .i64 (i : Int)), (61, .int .i64 (n : Int)), (62, .int .i64 (d : Int))])
    (fun d H' => Keep ⟨plo, pok, none⟩ H H' ∧ (∀ b, b < H4.next → b ≠ r → H'.get b = H4.get b) ∧ H4.next ≤ H'.next ∧ d ≤ n ∧ ∃ ts, H'.get r = some (.cells ts (.n 1)) ∧ ts.length = n ∧ ∀ k, k < d → ts[k]? = some (.string ⟨#[48]⟩)) (fun d => n - d) 0 (by simp) ⟨k04, fun _ _ _ => rfl, Nat.le_refl _, by simp, _, hg4, by rw [times_one]; simp, by simp⟩ ?_
   rintro d H5 ⟨k5, o5, n5, hd, ts, g5, t5, e5⟩
   have hg5c := (o5 cN (by omega) (by omega)).trans hg4c
   by_cases hdn : d < n
   · have w2 : wr .i64 ((d : Int) + 1) = ((d + 1 : Nat) : Int) := by rw [wr_i64 (by omega) (by omega)]; simp
     have hsd : setCells ts d [Value.string ⟨#[48]⟩] = some (ts.set d (.string ⟨#[48]⟩)) := setCells_one (by omega)
     simp [hdn, hin, hg5c, sset, g5, hsd, hmr, w2, -setCells_one, -l_BasisAll_k77]
     refine .of (d + 1) (by show n - (d + 1) < n - d; omega) (by simp) ⟨k5.put (by omega) g5 _, fun b hb hbr => (get_put_ne hbr).trans (o5 b hb hbr), n5, by omega, _, get_put_same, by simp [t5], fun k hk => ?_⟩
     by_cases hkd : k = d
     · subst hkd
       exact List.getElem?_set_self (by omega)
     · rw [List.getElem?_set_ne (fun e => hkd e.symm)]
       exact e5 k (by omega)
   · have : d = n := by omega
     subst this
     have hsi : setCells ts i [Value.string ⟨#[49]⟩] = some (ts.set i (.string ⟨#[49]⟩)) := setCells_one (by omega)
     simp [hin, hg5c, sset, g5, hsi, hmr, w1, -setCells_one]
     refine .of ⟨i + 1, fun j => if j = i then r else rbN j⟩ (by show d - (i + 1) < d - i; omega) (by simp) ⟨k5.put (by omega) g5 _, by simp; omega, ss.set i (.slice (some ⟨r, 0, none⟩) d d), (get_put_ne (by omega)).trans hg5c, by simp [hl2], fun j hj => ?_⟩
     simp only at hj ⊢
     by_cases hji : j = i
     · subst hji
       simp only [if_true]
       refine ⟨sset, by omega, by omega, by show r < H5.next; omega, _, get_put_same, by simp [t5], fun k hk => ?_⟩
       by_cases hkj : k = j
       · subst hkj
         rw [List.getElem?_set_self (by omega)]
         simp only [idM, if_true, qtext_one]
       · rw [List.getElem?_set_ne (fun e => hkj e.symm), e5 k hk]
         have : ¬ j = k := fun e => hkj e.symm
         simp only [idM, this, if_false, qtext_zero]
     · simp only [hji, if_false]
       obtain ⟨s1, s2, s3, s4, ts0, s5, s6, s7⟩ := hrows j (by omega)
       exact ⟨by rw [List.getElem?_set_ne (fun e => hji e.symm)]; exact s1, s2, s3, by show _ < H5.next; omega, ts0, ((get_put_ne (by omega)).trans ((o5 _ (by omega) (by omega)).trans (oth _ s4 s3))).trans s5, s6, s7⟩
 · have : i = n := by omega
   subst this
   simp [-l_BasisAll_k75]
   refine hQ H2 _ cN rbN _ k2 (NRows.smat (s := ⟨i, rbN⟩) ⟨ss, hg2, hl2, hrows⟩ rfl) ?_ ?_ ?_ ?_ ?_ ?_
   all_goals simp
theorem All_spec (hX : BX X) (ho : Ok pm H) (ht : Tab H) {nn : Int} (_h0 : -9223372036854775808 ≤ nn) (_h1 : nn ≤ 9223372036854775807) {v1 v2 v3 : Value} {m1 m2 m3 : Nat} (ha1 : ArgS H v1 m1 (ColP H)) (ha2 : ArgS H v2 m2 IntP) (ha3 : ArgS H v3 m3 StrP) :
  Call X pm F.l_BasisAll [.int .i64 nn, v1, v2, v3] H fun r H' => Keep pm H H' ∧ r = .bool true := by
 obtain ⟨r, hr⟩ : ∃ r, r = nn.tmod 4 := ⟨_, rfl⟩
 have r1 : -4 < r := by rw [hr]; have := Int.lt_tmod_of_pos nn (show (0 : Int) < 4 by omega); omega
 have r2 : r < 4 := by rw [hr]; exact Int.tmod_lt_of_pos nn (by omega)
 obtain ⟨m, hm⟩ : ∃ m : Nat, (m : Int) = (r + 4).tmod 4 := ⟨((r + 4).tmod 4).toNat, by
  rw [Int.toNat_of_nonneg]; rw [Int.tmod_eq_emod_of_nonneg (by omega)]; omega⟩
 have hm4 : m < 4 := by
  have := Int.tmod_lt_of_pos (r + 4) (show (0 : Int) < 4 by omega)
  omega
 have w1 : wr .i64 r = r := wr_i64 (by omega) (by omega)
 have w2 : wr .i64 (r + 4) = r + 4 := wr_i64 (by omega) (by omega)
 have w3 : wr .i64 (m : Int) = (m : Int) := wr_i64 (by omega) (by omega)
 have w4 : wr .i64 (1 + (m : Int)) = ((m + 1 : Nat) : Int) := by rw [wr_i64 (by omega) (by omega)]; omega
 refine Call.has hX.l_BasisAll rfl ?_
 refine wp_mono (Q := BPost pm H) (fun z l H' h => ?_) ?_
 · obtain ⟨h1, vs, h2, h3, h4⟩ := h
   exact ⟨h1, vs, h2, h3, h4⟩
 simp [-l_BasisAll_k96]
 refine CallAt.of (by simp) (by simp) (begun_spec hX ht) ?_
 rintro _ H ⟨rfl, rfl⟩
 simp [-l_BasisAll_k94]
 simp [← hr, w2, ← hm, w4, -l_BasisAll_k91]
 refine CallAt.of (by simp) (by simp) (New_basis hX.toLX (n := m + 1) ho (by omega)) ?_
 rintro v H1 ⟨k1, b, C, V, cb, vb, hb, hC, hV, hcb, hvb⟩
 obtain ⟨⟨x0, vc0, vi0, rfl, hq⟩, hsep⟩ := id hb
 have lC : C < H1.next ∧ V < H1.next ∧ (∀ j, j < m + 1 → cb j < H1.next) ∧ ∀ j, j < m + 1 → vb j < H1.next := by
  obtain ⟨⟨_, _, _, _, _, _, h1, h2⟩, _⟩ := hb
  exact ⟨(h1.lt k1.ok).1, (h2.lt k1.ok).1, (h1.lt k1.ok).2, (h2.lt k1.ok).2⟩
 obtain ⟨lC, _, _, lvb⟩ := lC
 simp [-l_BasisAll_k91]
 refine A_rows hX k1.ok (n := m + 1) (v1 := v1) (v2 := v2) (v3 := v3) (v10 := .pointer (some ⟨b, 0, none⟩)) (by omega) (by omega) (by simp) (by simp) (by simp) (by simp) (by simp) ?_
 intro H2 vr c rb L2 k2 hrows l0 l1 l2 l3 l10 l11
 have k02 := k1.trans k2
 have hl2 := k2.next
 refine A_y Fo hX k02.ok (ht.keep ho k02) (by omega) (by omega) ((ha3.keep ho k02)) l0 l1 l2 l3 l10 l11 ?_
 intro H3 vy cy y L3 k3 hy sy hcy p0 p1 p2 p3 p10 p11 p14
 have k03 := k02.trans k3
 refine A_loop hX ho ht (c := c) (rb := rb) (cb := cb) (A := idM) (B := idM) (C := C) (V := V) (vb := vb) (n := m + 1) ⟨k03, (hb.keep k1.ok k2).keep k02.ok k3, hrows.keep k02.ok k3, hy, fun a d _ _ => ?_, Inv_id, Inv_id'⟩ (by omega) (by omega) sy hC hvb (by omega) (fun i hi => by have := lvb i hi; omega) ha1 ha2 p0 p1 p2 p10 p11 p14
 unfold idM
 split
 · exact Smol.one
 · exact Smol.zero
end
end Go.Dam.C
