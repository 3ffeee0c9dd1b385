/- The fractions of the program reckon right; their texts. -/
import Derived.Test.YtedamoknpbihhaaGreatDoorNats
import Derived.Test.YtedamoknpbihhaaGreatDoorCode
import Derived.Lib.ItoaNum
import Derived.Lib.ParseIntB
import Derived.Lib.SlTrimSet
import Derived.Lib.Repeat
namespace Go.Dam.C
open Go Go.Dam
variable [Foot]
variable {X : Cx} {pm : Perm} {H H' : Heap}
/-! ## Naturals, as they are used -/
theorem add_nat (hX : NX X) (ho : Ok pm H) {v w : Value} {n m k : Nat} (hv : IsNat H v n) (hw : IsNat H w m) (hn : n < 4294967296 ^ k) (hm : m < 4294967296 ^ k) (hk : k < 268435456) : Call X pm F.n_Add [v, w] H fun r H' => Keep pm H H' ∧ IsNat H' r (n + m) := by
 obtain ⟨a, ha, hsa, hna⟩ := hv.out
 obtain ⟨b, hb, hsb, hnb⟩ := hw.out
 have la := natLen hsa hna hn
 have lb := natLen hsb hnb hm
 refine (Add_spec hX ho ha hb (by omega) (by omega)).mono ?_
 rintro r H' ⟨k1, ds, h1, _, h2⟩
 exact ⟨k1, by rw [← hna, ← hnb, ← h2]; exact h1.nat⟩
theorem mul_nat (hX : NX X) (ho : Ok pm H) {v w : Value} {n m k : Nat} (hv : IsNat H v n) (hw : IsNat H w m) (hn : n < 4294967296 ^ k) (hm : m < 4294967296 ^ k) (hk : k < 268435456) : Call X pm F.n_Mul [v, w] H fun r H' => Keep pm H H' ∧ IsNat H' r (n * m) := by
 obtain ⟨a, ha, hsa, hna⟩ := hv.out
 obtain ⟨b, hb, hsb, hnb⟩ := hw.out
 have la := natLen hsa hna hn
 have lb := natLen hsb hnb hm
 refine (Mul_spec hX ho ha hb (by omega) (by omega)).mono ?_
 rintro r H' ⟨k1, ds, h1, _, h2⟩
 exact ⟨k1, by rw [← hna, ← hnb, ← h2]; exact h1.nat⟩
theorem cmp_nat (hX : NX X) {v w : Value} {n m k : Nat} (hv : IsNat H v n) (hw : IsNat H w m) (hn : n < 4294967296 ^ k) (hm : m < 4294967296 ^ k) (hk : k < 268435456) : Call X pm F.n_Cmp [v, w] H fun r H' => H' = H ∧ r = .int .i64 (cmpI n m) := by
 obtain ⟨a, ha, hsa, hna⟩ := hv.out
 obtain ⟨b, hb, hsb, hnb⟩ := hw.out
 have la := natLen hsa hna hn
 have lb := natLen hsb hnb hm
 subst hna hnb
 exact Cmp_spec hX ha hb (by omega) (by omega)
theorem less_nat (hX : NX X) (ho : Ok pm H) {v w : Value} {n m k : Nat} (hv : IsNat H v n) (hw : IsNat H w m) (hn : n < 4294967296 ^ k) (hm : m < 4294967296 ^ k) (hk : k < 268435456) :
  Call X pm F.n_Less [v, w] H fun r H' => Keep pm H H' ∧ (n < m ∧ r = .tuple #[.pointer none, .bool false] ∨ m ≤ n ∧ ∃ p, r = .tuple #[p, .bool true] ∧ IsNat H' p (n - m)) := by
 obtain ⟨a, ha, hsa, hna⟩ := hv.out
 obtain ⟨b, hb, hsb, hnb⟩ := hw.out
 have la := natLen hsa hna hn
 have lb := natLen hsb hnb hm
 subst hna hnb
 refine (Less_spec hX ho ha hb (by omega) (by omega) hsb).mono ?_
 rintro r H' ⟨k1, h | ⟨h, p, ds, h1, h2, _, h3⟩⟩
 · exact ⟨k1, .inl h⟩
 · exact ⟨k1, .inr ⟨h, p, h1, by rw [← h3]; exact h2.nat⟩⟩
theorem div_nat (hX : NX X) (ho : Ok pm H) {v w : Value} {n m k : Nat} (hv : IsNat H v n) (hw : IsNat H w m) (hn : n < 4294967296 ^ k) (hm : m < 4294967296 ^ k) (hk : k < 268435456) (hm0 : m ≠ 0) :
  Call X pm F.n_Div [v, w] H fun r H' => Keep pm H H' ∧ ∃ q s, r = .tuple #[q, s, .bool true] ∧ IsNat H' q (n / m) ∧ IsNat H' s (n % m) := by
 obtain ⟨a, ha, hsa, hna⟩ := hv.out
 obtain ⟨b, hb, hsb, hnb⟩ := hw.out
 have la := natLen hsa hna hn
 have lb := natLen hsb hnb hm
 subst hna hnb
 refine (Div_spec hX ho ha hb hsa hsb (by omega) (by omega)).mono ?_
 rintro r H' ⟨k1, ⟨h, _⟩ | ⟨_, q, s, h1, h2, h3⟩⟩
 · exact absurd h hm0
 · exact ⟨k1, q, s, h1, h2, h3⟩
theorem of_nat (hX : NX X) (ho : Ok pm H) {x : Nat} (hx : x < 18446744073709551616) : Call X pm F.n_Of [.int .u64 (x : Int)] H fun r H' => Keep pm H H' ∧ IsNat H' r x := by
 refine (Of_spec hX ho hx).mono ?_
 rintro r H' ⟨k1, h1⟩
 have := h1.nat
 rw [← nv_strip, nv_Of] at this
 exact ⟨k1, this⟩
theorem of_nat0 (hX : NX X) (ho : Ok pm H) : Call X pm F.n_Of [.int .u64 0] H fun r H' => Keep pm H H' ∧ IsNat H' r 0 := of_nat hX ho (x := 0) (by omega)
theorem of_nat1 (hX : NX X) (ho : Ok pm H) : Call X pm F.n_Of [.int .u64 1] H fun r H' => Keep pm H H' ∧ IsNat H' r 1 := of_nat hX ho (x := 1) (by omega)
end Go.Dam.C
namespace Go.Dam.C
open Go Go.Dam
variable {X : Cx} {pm : Perm} {H H' : Heap}
theorem cast_beq0 (x : Nat) : ((x : Int) == 0) = decide (x = 0) := by
 cases x with
 | zero => rfl
 | succ x => simp; omega
end Go.Dam.C
namespace Go.Dam.C
open Go Go.Dam
variable [Foot]
variable {X : Cx} {pm : Perm} {H H' : Heap}
theorem zero_spec (hX : NX X) {v : Value} {n k : Nat} (hv : IsNat H v n) (hn : n < 4294967296 ^ k) (hk : k < 268435456) : Call X pm F.q_zero [v] H fun r H' => H' = H ∧ r = .bool (decide (n = 0)) := by
 obtain ⟨a, ha, hsa, hna⟩ := hv.out
 have la := natLen hsa hna hn
 subst hna
 refine Call.has hX.q_zero rfl ?_
 simp
 refine CallAt.of (by simp) (by simp) (Bits_spec hX ha hsa (by omega)) ?_
 rintro _ H ⟨rfl, rfl⟩
 have : bl (nv a) = 0 ↔ nv a = 0 := by
  unfold bl
  split
  · simp [*]
  · simp [*]
 simp
 rw [cast_beq0]
 exact decide_eq_decide.2 this
/-! ## Fractions -/
def mkq (neg : Bool) (n d : Nat) : Rat := mkRat (if neg then -(n : Int) else (n : Int)) d
structure IsFrac (H : Heap) (v : Value) (q : Rat) : Prop where
 ex : (v = .pointer none ∧ q = 0) ∨ ∃ b x pn pd, v = .pointer (some ⟨b, 0, none⟩) ∧ H.get b = some x ∧ RowT x [.bool (decide (q < 0)), pn, pd] ∧ IsNat H pn q.num.natAbs ∧ IsNat H pd q.den
theorem IsFrac.keep {v : Value} {q : Rat} (h : IsFrac H v q) (ho : Ok pm H) (hk : Keep pm H H') : IsFrac H' v q := by
 refine ⟨h.ex.imp id ?_⟩
 rintro ⟨b, x, pn, pd, h1, h2, h3, h4, h5⟩
 exact ⟨b, x, pn, pd, h1, hk.some ho h2, h3, h4.keep ho hk, h5.keep ho hk⟩
end Go.Dam.C
namespace Go.Dam.C
open Go Go.Dam
variable {X : Cx} {pm : Perm} {H H' : Heap}
theorem mkq_den {neg : Bool} {n d : Nat} (hd : d ≠ 0) : (mkq neg n d).den = d / Nat.gcd n d := by
 unfold mkq
 rw [Rat.den_mkRat, if_neg hd, Nat.gcd_comm]
 congr 2
 cases neg <;> simp
theorem mkq_num {neg : Bool} {n d : Nat} (hd : d ≠ 0) : (mkq neg n d).num.natAbs = n / Nat.gcd n d := by
 unfold mkq
 rw [Rat.num_mkRat, if_neg hd, Nat.gcd_comm]
 cases neg with
 | false => simp; rfl
 | true =>
   simp only [if_true, Int.natAbs_neg, Int.natAbs_natCast]
   rw [Int.neg_ediv_of_dvd (by exact_mod_cast Nat.gcd_dvd_left n d), Int.natAbs_neg]
   rfl
theorem neg_iff (q : Rat) : q < 0 ↔ q.num < 0 := by
 rw [← Rat.not_le, ← Rat.num_nonneg]; omega
end Go.Dam.C
namespace Go.Dam.C
open Go Go.Dam
variable [Foot]
variable {X : Cx} {pm : Perm} {H H' : Heap}
end Go.Dam.C
namespace Go.Dam.C
open Go Go.Dam
variable {X : Cx} {pm : Perm} {H H' : Heap}
theorem mkq_neg {neg : Bool} {n d : Nat} (hd : d ≠ 0) : decide (mkq neg n d < 0) = (neg && !decide (n = 0)) := by
 have hg : 0 < Nat.gcd n d := Nat.gcd_pos_of_pos_right _ (Nat.pos_of_ne_zero hd)
 have h : (mkq neg n d < 0) ↔ (neg = true ∧ n ≠ 0) := by
  rw [neg_iff]
  unfold mkq
  rw [Rat.num_mkRat, if_neg hd, Nat.gcd_comm]
  cases neg with
  | false =>
    simp only [Bool.false_eq_true, if_false, Int.natAbs_natCast, false_and, iff_false]
    have : (0 : Int) ≤ (n : Int) / (Nat.gcd n d : Nat) := Int.ediv_nonneg (by omega) (by omega)
    omega
  | true =>
    simp only [if_true, Int.natAbs_neg, Int.natAbs_natCast, true_and]
    have hdv : ((Nat.gcd n d : Nat) : Int) ∣ (n : Int) := by exact_mod_cast Nat.gcd_dvd_left n d
    rw [Int.neg_ediv_of_dvd hdv]
    have e : ((n : Int) / (Nat.gcd n d : Nat)) = ((n / Nat.gcd n d : Nat) : Int) := rfl
    rw [e]
    constructor
    · rintro h rfl
      simp at h
    · intro h0
      have : 0 < n / Nat.gcd n d := Nat.div_pos (Nat.le_of_dvd (Nat.pos_of_ne_zero h0) (Nat.gcd_dvd_left n d)) hg
      omega
 rw [Bool.eq_iff_iff]
 simp only [decide_eq_true_eq, Bool.and_eq_true, Bool.not_eq_true', decide_eq_false_iff_not]
 exact h
end Go.Dam.C
namespace Go.Dam.C
open Go Go.Dam
variable [Foot]
variable {X : Cx} {pm : Perm} {H H' : Heap}
theorem IsNat.ptr {v : Value} {n : Nat} (h : IsNat H v n) : (v = .pointer none ∧ n = 0) ∨ ∃ a, v = .pointer (some a) := by
 obtain ⟨ds, h1, _, h3⟩ := h.out
 rcases h1 with ⟨h, rfl⟩ | ⟨b, _, _, h, _⟩
 · exact .inl ⟨h, h3.symm⟩
 · exact .inr ⟨_, h⟩
def newPost (pm : Perm) (H : Heap) (neg : Bool) (n d : Nat) : Post := fun x l H' => (x = Ex.normal ∨ x = Ex.ret) ∧ ∃ vs, resL l H' [.slot 6, .slot 7] = some vs ∧ (Keep pm H H' ∧ (d = 0 ∧ tupOf vs = .tuple #[.pointer none, .bool false] ∨ d ≠ 0 ∧ ∃ p, tupOf vs = .tuple #[p, .bool true] ∧ IsFrac H' p (mkq neg n d)))
theorem New_spec (hX : NX X) (ho : Ok pm H) {neg : Bool} {v w : Value} {n d k : Nat} (hv : IsNat H v n) (hw : IsNat H w d) (hn : n < 4294967296 ^ k) (hd : d < 4294967296 ^ k) (hk : k < 268435456) :
  Call X pm F.q_New [.bool neg, v, w] H fun r H' => Keep pm H H' ∧ (d = 0 ∧ r = .tuple #[.pointer none, .bool false] ∨ d ≠ 0 ∧ ∃ p, r = .tuple #[p, .bool true] ∧ IsFrac H' p (mkq neg n d)) := by
 refine Call.has hX.q_New rfl ?_
 show wp X pm _ _ _ _ (newPost pm H neg n d)
 simp [-q_New_k4]
 refine CallAt.of (by simp) (by simp) (zero_spec hX hw hd hk) ?_
 rintro _ H ⟨rfl, rfl⟩
 by_cases hd0 : d = 0
 · simp [hd0, newPost]
   exact Keep.refl ho
 have hg0 : 0 < Nat.gcd n d := Nat.gcd_pos_of_pos_right _ (Nat.pos_of_ne_zero hd0)
 obtain ⟨G, hG⟩ : ∃ G, G = Nat.gcd n d := ⟨_, rfl⟩
 -- what is done at the end
 have key : ∀ (l : Sl) (H1 : Heap) (v1 w1 : Value), Keep pm H H1 → IsNat H1 v1 (n / G) → IsNat H1 w1 (d / G) → lk 0 l = some (.bool neg) → lk 1 l = some v1 → lk 2 l = some w1 →
   wp X pm (.code q_New_k4) l H1 [] (newPost pm H neg n d) := by
  intro l H1 v1 w1 k1 hv1 hw1 l0 l1 l2
  have hnz : n / G = 0 ↔ n = 0 := by
   rw [hG]
   constructor
   · intro h
     rcases Nat.eq_zero_or_pos n with h0 | h0
     · exact h0
     · have : 0 < n / Nat.gcd n d := Nat.div_pos (Nat.le_of_dvd h0 (Nat.gcd_dvd_left n d)) hg0
       omega
   · rintro rfl; simp
  have hfin : ∀ (H2 : Heap) (v2 : Value), Keep pm H1 H2 → IsNat H2 v2 (n / G) → Keep pm H (H2.new (.cells [.bool (neg && !decide (n = 0)), v2, w1] (.t T.q_New_0))) ∧ IsFrac (H2.new (.cells [.bool (neg && !decide (n = 0)), v2, w1] (.t T.q_New_0))) (ptr H2.next) (mkq neg n d) := by
   intro H2 v2 k2 hv2
   have k3 : Keep pm H2 (H2.new (.cells [.bool (neg && !decide (n = 0)), v2, w1] (.t T.q_New_0))) := (Keep.refl k2.ok).new _
   refine ⟨(k1.trans k2).trans k3, ⟨.inr ⟨H2.next, _, v2, w1, rfl, get_new_next, ?_, ?_, ?_⟩⟩⟩
   · rw [mkq_neg hd0]; exact ⟨rfl, rfl⟩
   · rw [mkq_num hd0, ← hG]; exact hv2.keep k2.ok k3
   · rw [mkq_den hd0, ← hG]; exact (hw1.keep k1.ok k2).keep k2.ok k3
  have hnl : n / G < 4294967296 ^ k := Nat.lt_of_le_of_lt (Nat.div_le_self _ _) hn
  have hz2 : decide (n / G = 0) = decide (n = 0) := decide_eq_decide.2 hnz
  rcases hv1.ptr with ⟨rfl, h0⟩ | ⟨a1, rfl⟩
  · simp [l1]
    refine CallAt.of (by simp) (by simp) (of_nat0 hX k1.ok) ?_
    rintro r H2 ⟨k2, hr⟩
    rw [← h0] at hr
    cases neg with
    | true =>
      simp [l0]
      refine CallAt.of (by simp) (by simp) (zero_spec hX hr hnl hk) ?_
      rintro _ H2 ⟨rfl, rfl⟩
      have := hfin H2 r k2 hr
      rw [hz2]
      rcases hr.ptr with ⟨rfl, _⟩ | ⟨a2, rfl⟩ <;> rcases hw1.ptr with ⟨rfl, _⟩ | ⟨a3, rfl⟩ <;> simp [newPost, l2, hd0, ho.make, ho.pick] <;> simpa using this
    | false =>
      simp [l0]
      refine CallAt.not (by simp) ?_
      have := hfin H2 r k2 hr
      rcases hr.ptr with ⟨rfl, _⟩ | ⟨a2, rfl⟩ <;> rcases hw1.ptr with ⟨rfl, _⟩ | ⟨a3, rfl⟩ <;> simp [newPost, l2, hd0, ho.make, ho.pick] <;> simpa using this
  · simp [l1]
    cases neg with
    | true =>
      simp [l0]
      refine CallAt.of (by simp) (by simp) (zero_spec hX hv1 hnl hk) ?_
      rintro _ H1 ⟨rfl, rfl⟩
      have := hfin H1 _ (Keep.refl k1.ok) hv1
      rw [hz2]
      rcases hw1.ptr with ⟨rfl, _⟩ | ⟨a3, rfl⟩ <;> simp [newPost, l1, l2, hd0, ho.make, ho.pick] <;> simpa using this
    | false =>
      simp [l0]
      refine CallAt.not (by simp) ?_
      have := hfin H1 _ (Keep.refl k1.ok) hv1
      rcases hw1.ptr with ⟨rfl, _⟩ | ⟨a3, rfl⟩ <;> simp [newPost, l1, l2, hd0, ho.make, ho.pick] <;> simpa using this
 simp [-q_New_k4, hd0]
 refine CallAt.of (by simp) (by simp) (Gcd_spec hX ho hv hw hn hd hk) ?_
 rintro g H1 ⟨k1, hg⟩
 rw [← hG] at hg
 have hGl : G < 4294967296 ^ k := by
  rw [hG]
  exact Nat.lt_of_le_of_lt (Nat.gcd_le_right _ (Nat.pos_of_ne_zero hd0)) hd
 simp [-q_New_k4]
 refine CallAt.of (by simp) (by simp) (of_nat1 hX k1.ok) ?_
 rintro o1 H2 ⟨k2, ho1⟩
 have h1l : 1 < 4294967296 ^ k := by omega
 simp [-q_New_k4]
 refine CallAt.of (by simp) (by simp) (cmp_nat hX (hg.keep k1.ok k2) ho1 hGl h1l hk) ?_
 rintro _ H2 ⟨rfl, rfl⟩
 have k12 := k1.trans k2
 by_cases hG1 : G = 1
 · have hc : cmpI G 1 = 0 := by simp [cmpI, hG1]
   simp [-q_New_k4, hc]
   refine key _ H2 v w k12 (by rw [hG1, Nat.div_one]; exact hv.keep ho k12) (by rw [hG1, Nat.div_one]; exact hw.keep ho k12) ?_ ?_ ?_ <;> simp
 · have hc : cmpI G 1 = 1 := by unfold cmpI; rw [if_neg (by omega), if_neg hG1]
   simp [-q_New_k4, hc]
   refine CallAt.of (by simp) (by simp) (div_nat hX k12.ok (hv.keep ho k12) (hg.keep k1.ok k2) hn hGl hk (by omega)) ?_
   rintro _ H3 ⟨k3, q1, s1, rfl, hq1, _⟩
   simp [-q_New_k4]
   have k13 := k12.trans k3
   refine CallAt.of (by simp) (by simp) (div_nat hX k3.ok (hw.keep ho k13) ((hg.keep k1.ok k2).keep k12.ok k3) hd hGl hk (by omega)) ?_
   rintro _ H4 ⟨k4, q2, s2, rfl, hq2, _⟩
   simp [-q_New_k4]
   refine key _ H4 q1 q2 (k13.trans k4) (hq1.keep k3.ok k4) hq2 ?_ ?_ ?_ <;> simp
end Go.Dam.C
namespace Go.Dam.C
open Go Go.Dam
variable [Foot]
variable {X : Cx} {pm : Perm} {H H' : Heap}
def sgn (neg : Bool) (n : Nat) : Int := if neg then -(n : Int) else (n : Int)
end Go.Dam.C
namespace Go.Dam.C
open Go Go.Dam
variable {X : Cx} {pm : Perm} {H H' : Heap}
theorem mkq_eq (neg : Bool) (n d : Nat) : mkq neg n d = mkRat (sgn neg n) d := rfl
end Go.Dam.C
namespace Go.Dam.C
open Go Go.Dam
variable [Foot]
variable {X : Cx} {pm : Perm} {H H' : Heap}
end Go.Dam.C
namespace Go.Dam.C
open Go Go.Dam
variable {X : Cx} {pm : Perm} {H H' : Heap}
theorem num_sgn (q : Rat) : q.num = sgn (decide (q < 0)) q.num.natAbs := by
 unfold sgn
 by_cases h : q < 0
 · have := (neg_iff q).1 h
   simp [h]; omega
 · have : ¬ q.num < 0 := fun h2 => h ((neg_iff q).2 h2)
   simp [h]; omega
end Go.Dam.C
namespace Go.Dam.C
open Go Go.Dam
variable [Foot]
variable {X : Cx} {pm : Perm} {H H' : Heap}
end Go.Dam.C
namespace Go.Dam.C
open Go Go.Dam
variable {X : Cx} {pm : Perm} {H H' : Heap}
theorem mkq_self (q : Rat) : mkq (decide (q < 0)) q.num.natAbs q.den = q := by
 rw [mkq_eq, ← num_sgn]
 exact Rat.mkRat_self q
end Go.Dam.C
namespace Go.Dam.C
open Go Go.Dam
variable [Foot]
variable {X : Cx} {pm : Perm} {H H' : Heap}
/-- So big, at most. -/
def sz (q : Rat) (k : Nat) : Prop := q.num.natAbs < 4294967296 ^ k ∧ q.den < 4294967296 ^ k
end Go.Dam.C
namespace Go.Dam.C
open Go Go.Dam
variable {X : Cx} {pm : Perm} {H H' : Heap}
theorem pow_two_mul {n m k : Nat} (hn : n < 4294967296 ^ k) (hm : m < 4294967296 ^ k) : n * m < 4294967296 ^ (2 * k) := by
 rw [show 2 * k = k + k by omega, Nat.pow_add]
 exact Nat.mul_lt_mul_of_lt_of_lt hn hm
theorem pow_le_of {n j k : Nat} (h : n < 4294967296 ^ j) (hj : j ≤ k) : n < 4294967296 ^ k := Nat.lt_of_lt_of_le h (Nat.pow_le_pow_right (by decide) hj)
theorem pow_sum {n m k : Nat} (hn : n < 4294967296 ^ k) (hm : m < 4294967296 ^ k) : n + m < 4294967296 ^ (k + 1) := by
 rw [Nat.pow_succ]
 generalize 4294967296 ^ k = p at *
 omega
end Go.Dam.C
namespace Go.Dam.C
open Go Go.Dam
variable [Foot]
variable {X : Cx} {pm : Perm} {H H' : Heap}
theorem Parts_spec (hX : NX X) (ho : Ok pm H) {v : Value} {q : Rat} (h : IsFrac H v q) :
  Call X pm F.q_Parts [v] H fun r H' => Keep pm H H' ∧ ∃ pn pd, r = .tuple #[.bool (decide (q < 0)), pn, pd] ∧ IsNat H' pn q.num.natAbs ∧ IsNat H' pd q.den := by
 refine Call.has hX.q_Parts rfl ?_
 rcases h.ex with ⟨rfl, rfl⟩ | ⟨b, x, pn, pd, rfl, h1, h2, h3, h4⟩
 · simp
   refine CallAt.of (by simp) (by simp) (of_nat0 hX ho) ?_
   rintro r0 H1 ⟨k1, hr0⟩
   simp
   refine CallAt.of (by simp) (by simp) (of_nat1 hX k1.ok) ?_
   rintro r1 H2 ⟨k2, hr1⟩
   simp
   exact ⟨k1.trans k2, r0, r1, ⟨rfl, rfl⟩, hr0.keep k1.ok k2, hr1⟩
 · have hpd : ∃ a, pd = .pointer (some a) := by
    rcases h4.ptr with ⟨_, h⟩ | h
    · exact absurd h q.den_nz
    · exact h
   obtain ⟨a, rfl⟩ := hpd
   simp [h1, h2]
   refine DrawAt.calmI ho rfl rfl rfl ?_
   simp [h1, h2]
   have k1 := (Keep.refl ho).up 15
   exact ⟨k1, pn, _, ⟨rfl, rfl⟩, h3.keep ho k1, h4.keep ho k1⟩
theorem sure_spec (hX : NX X) (ho : Ok pm H) {neg : Bool} {v w : Value} {n d k : Nat} (hv : IsNat H v n) (hw : IsNat H w d) (hn : n < 4294967296 ^ k) (hd : d < 4294967296 ^ k) (hk : k < 268435456) (hd0 : d ≠ 0) :
  Call X pm F.q_sure [.bool neg, v, w] H fun r H' => Keep pm H H' ∧ IsFrac H' r (mkq neg n d) := by
 refine Call.has hX.q_sure rfl ?_
 simp
 refine CallAt.of (by simp) (by simp) (New_spec hX ho (neg := neg) hv hw hn hd hk) ?_
 rintro _ H1 ⟨k1, ⟨h, _⟩ | ⟨_, p, rfl, hp⟩⟩
 · exact absurd h hd0
 · simp
   exact ⟨k1, hp⟩
theorem Sign_spec (hX : NX X) (ho : Ok pm H) {v : Value} {q : Rat} {k : Nat} (h : IsFrac H v q) (hs : sz q k) (hk : k < 268435456) :
  Call X pm F.q_Sign [v] H fun r H' => Keep pm H H' ∧ r = .int .i64 (if q < 0 then -1 else if q = 0 then 0 else 1) := by
 refine Call.has hX.q_Sign rfl ?_
 simp
 refine CallAt.of (by simp) (by simp) (Parts_spec hX ho h) ?_
 rintro _ H1 ⟨k1, pn, pd, rfl, hn, hd⟩
 by_cases hq : q < 0
 · simp [hq]
   exact k1
 · simp [hq]
   refine CallAt.of (by simp) (by simp) (zero_spec hX hn hs.1 hk) ?_
   rintro _ H1 ⟨rfl, rfl⟩
   by_cases h0 : q = 0
   · subst h0
     simp
     exact k1
   · have : ¬ q.num.natAbs = 0 := by
      intro h
      exact h0 (Rat.num_eq_zero.1 (by omega))
     simp [this, h0]
     exact k1
end Go.Dam.C
namespace Go.Dam.C
open Go Go.Dam
variable {X : Cx} {pm : Perm} {H H' : Heap}
theorem mkq_neg_frac (q : Rat) : (-q).num.natAbs = q.num.natAbs ∧ (-q).den = q.den ∧ decide (-q < 0) = (!decide (q < 0) && !decide (q.num.natAbs = 0)) := by
 refine ⟨by rw [Rat.neg_num]; simp, Rat.neg_den q, ?_⟩
 rw [Bool.eq_iff_iff]
 simp only [decide_eq_true_eq, Bool.and_eq_true, Bool.not_eq_true', decide_eq_false_iff_not]
 rw [neg_iff, neg_iff, Rat.neg_num]
 omega
end Go.Dam.C
namespace Go.Dam.C
open Go Go.Dam
variable [Foot]
variable {X : Cx} {pm : Perm} {H H' : Heap}
theorem Neg_spec (hX : NX X) (ho : Ok pm H) {v : Value} {q : Rat} {k : Nat} (h : IsFrac H v q) (hs : sz q k) (hk : k < 268435456) :
  Call X pm F.q_Neg [v] H fun r H' => Keep pm H H' ∧ IsFrac H' r (-q) := by
 refine Call.has hX.q_Neg rfl ?_
 simp
 refine CallAt.of (by simp) (by simp) (Parts_spec hX ho h) ?_
 rintro _ H1 ⟨k1, pn, pd, rfl, hn, hd⟩
 obtain ⟨e1, e2, e3⟩ := mkq_neg_frac q
 have hfin : Keep pm H (H1.new (.cells [.bool (decide (-q < 0)), pn, pd] (.t T.q_Neg_0))) ∧ IsFrac (H1.new (.cells [.bool (decide (-q < 0)), pn, pd] (.t T.q_Neg_0))) (ptr H1.next) (-q) := by
  have k3 : Keep pm H1 (H1.new (.cells [.bool (decide (-q < 0)), pn, pd] (.t T.q_Neg_0))) := (Keep.refl k1.ok).new _
  exact ⟨k1.trans k3, ⟨.inr ⟨H1.next, _, pn, pd, rfl, get_new_next, ⟨rfl, rfl⟩, by rw [e1]; exact hn.keep k1.ok k3, by rw [e2]; exact hd.keep k1.ok k3⟩⟩⟩
 by_cases hq : q < 0
 · simp [hq]
   refine CallAt.not (by simp) ?_
   rw [e3] at hfin
   rcases hn.ptr with ⟨rfl, _⟩ | ⟨a2, rfl⟩ <;> rcases hd.ptr with ⟨rfl, _⟩ | ⟨a3, rfl⟩ <;> simp [ho.make, ho.pick] <;> simpa [hq] using hfin
 · simp [hq]
   refine CallAt.of (by simp) (by simp) (zero_spec hX hn hs.1 hk) ?_
   rintro _ H1 ⟨rfl, rfl⟩
   rw [e3] at hfin
   rcases hn.ptr with ⟨rfl, _⟩ | ⟨a2, rfl⟩ <;> rcases hd.ptr with ⟨rfl, _⟩ | ⟨a3, rfl⟩ <;> simp [ho.make, ho.pick] <;> simpa [hq] using hfin
theorem Mul_frac (hX : NX X) (ho : Ok pm H) {v w : Value} {p q : Rat} {k : Nat} (h1 : IsFrac H v p) (h2 : IsFrac H w q) (s1 : sz p k) (s2 : sz q k) (hk : k < 67108864) :
  Call X pm F.q_Mul [v, w] H fun r H' => Keep pm H H' ∧ IsFrac H' r (p * q) := by
 refine Call.has hX.q_Mul rfl ?_
 simp
 refine CallAt.of (by simp) (by simp) (Parts_spec hX ho h1) ?_
 rintro _ H1 ⟨k1, pn, pd, rfl, hpn, hpd⟩
 simp
 refine CallAt.of (by simp) (by simp) (Parts_spec hX k1.ok (h2.keep ho k1)) ?_
 rintro _ H2 ⟨k2, qn, qd, rfl, hqn, hqd⟩
 simp
 refine CallAt.of (by simp) (by simp) (mul_nat hX k2.ok (hpn.keep k1.ok k2) hqn s1.1 s2.1 (by omega)) ?_
 rintro r3 H3 ⟨k3, hr3⟩
 simp
 refine CallAt.of (by simp) (by simp) (mul_nat hX k3.ok ((hpd.keep k1.ok k2).keep k2.ok k3) (hqd.keep k2.ok k3) s1.2 s2.2 (by omega)) ?_
 rintro r4 H4 ⟨k4, hr4⟩
 simp
 refine CallAt.of (by simp) (by simp) (sure_spec hX k4.ok (neg := !(decide (p < 0) == decide (q < 0))) (hr3.keep k3.ok k4) hr4 (pow_two_mul s1.1 s2.1) (pow_two_mul s1.2 s2.2) (by omega) (Nat.mul_ne_zero p.den_nz q.den_nz)) ?_
 rintro r5 H5 ⟨k5, hr5⟩
 simp
 refine ⟨k1.trans (k2.trans (k3.trans (k4.trans k5))), ?_⟩
 have : p * q = mkq (!(decide (p < 0) == decide (q < 0))) (p.num.natAbs * q.num.natAbs) (p.den * q.den) := by
  rw [Rat.mul_def', mkq_eq]
  congr 1
  rw [num_sgn p, num_sgn q]
  unfold sgn
  cases decide (p < 0) <;> cases decide (q < 0) <;> simp [Int.mul_neg, Int.neg_mul]
 rw [this]
 exact hr5
end Go.Dam.C
namespace Go.Dam.C
open Go Go.Dam
variable {X : Cx} {pm : Perm} {H H' : Heap}
theorem inv_parts {q : Rat} (hq : q ≠ 0) (p : Rat) : p / q = mkq (!(decide (p < 0) == decide (q < 0))) (p.num.natAbs * q.den) (p.den * q.num.natAbs) := by
 have hn : q.num.natAbs ≠ 0 := by
  intro h
  exact hq (Rat.num_eq_zero.1 (by omega))
 have hm : mkq (!(decide (p < 0) == decide (q < 0))) (p.num.natAbs * q.den) (p.den * q.num.natAbs) * q = p := by
  have e1 : q = mkRat (sgn (decide (q < 0)) q.num.natAbs) q.den := by rw [← num_sgn]; exact (Rat.mkRat_self q).symm
  have e2 : p = mkRat (sgn (decide (p < 0)) p.num.natAbs) p.den := by rw [← num_sgn]; exact (Rat.mkRat_self p).symm
  generalize hP : p.num.natAbs = P at *
  generalize hQ : q.num.natAbs = Q at *
  have h1 := p.den_nz
  have h2 := q.den_nz
  generalize hpd : p.den = d at *
  generalize hqd : q.den = e at *
  generalize hs : decide (p < 0) = s at *
  generalize ht : decide (q < 0) = t at *
  rw [e1, e2, mkq_eq, Rat.mkRat_mul_mkRat, Rat.mkRat_eq_iff (Nat.mul_ne_zero (Nat.mul_ne_zero h1 hn) h2) h1]
  unfold sgn
  simp only [Int.natCast_mul]
  cases s <;> cases t <;> simp <;> grind
 generalize mkq (!(decide (p < 0) == decide (q < 0))) (p.num.natAbs * q.den) (p.den * q.num.natAbs) = x at *
 grind
end Go.Dam.C
namespace Go.Dam.C
open Go Go.Dam
variable [Foot]
variable {X : Cx} {pm : Perm} {H H' : Heap}
theorem Div_frac (hX : NX X) (ho : Ok pm H) {v w : Value} {p q : Rat} {k : Nat} (h1 : IsFrac H v p) (h2 : IsFrac H w q) (s1 : sz p k) (s2 : sz q k) (hk : k < 67108864) :
  Call X pm F.q_Div [v, w] H fun r H' => Keep pm H H' ∧ (q = 0 ∧ r = .tuple #[.pointer none, .bool false] ∨ q ≠ 0 ∧ ∃ x, r = .tuple #[x, .bool true] ∧ IsFrac H' x (p / q)) := by
 refine Call.has hX.q_Div rfl ?_
 simp
 refine CallAt.of (by simp) (by simp) (Parts_spec hX ho h1) ?_
 rintro _ H1 ⟨k1, pn, pd, rfl, hpn, hpd⟩
 simp
 refine CallAt.of (by simp) (by simp) (Parts_spec hX k1.ok (h2.keep ho k1)) ?_
 rintro _ H2 ⟨k2, qn, qd, rfl, hqn, hqd⟩
 simp
 refine CallAt.of (by simp) (by simp) (mul_nat hX k2.ok (hpn.keep k1.ok k2) hqd s1.1 s2.2 (by omega)) ?_
 rintro r3 H3 ⟨k3, hr3⟩
 simp
 refine CallAt.of (by simp) (by simp) (mul_nat hX k3.ok ((hpd.keep k1.ok k2).keep k2.ok k3) (hqn.keep k2.ok k3) s1.2 s2.1 (by omega)) ?_
 rintro r4 H4 ⟨k4, hr4⟩
 simp
 refine CallAt.of (by simp) (by simp) (New_spec hX k4.ok (neg := !(decide (p < 0) == decide (q < 0))) (hr3.keep k3.ok k4) hr4 (pow_two_mul s1.1 s2.2) (pow_two_mul s1.2 s2.1) (by omega)) ?_
 have kk := k1.trans (k2.trans (k3.trans k4))
 rintro _ H5 ⟨k5, ⟨h, rfl⟩ | ⟨h, x, rfl, hx⟩⟩
 · have : q = 0 := by
    rcases Nat.mul_eq_zero.1 h with h | h
    · exact absurd h p.den_nz
    · exact Rat.num_eq_zero.1 (by omega)
   simp
   exact ⟨kk.trans k5, this⟩
 · have : q ≠ 0 := by
    rintro rfl
    simp at h
   simp
   exact ⟨kk.trans k5, this, by rw [inv_parts this]; exact hx⟩
/-- A number with a sign. -/
def SgnRes (H : Heap) (r : Value) (t : Int) (b : Nat) : Prop := ∃ s x j, r = .tuple #[.bool s, x] ∧ IsNat H x j ∧ sgn s j = t ∧ j ≤ b
theorem signed_spec (hX : NX X) (ho : Ok pm H) {p q : Bool} {v w : Value} {n m k : Nat} (hv : IsNat H v n) (hw : IsNat H w m) (hn : n < 4294967296 ^ k) (hm : m < 4294967296 ^ k) (hk : k < 268435456) :
  Call X pm F.q_signed [.bool p, v, .bool q, w] H fun r H' => Keep pm H H' ∧ SgnRes H' r (sgn p n + sgn q m) (n + m) := by
 refine Call.has hX.q_signed rfl ?_
 by_cases hpq : p = q
 · subst hpq
   simp
   refine CallAt.of (by simp) (by simp) (add_nat hX ho hv hw hn hm hk) ?_
   rintro r H1 ⟨k1, hr⟩
   simp
   exact ⟨k1, p, r, n + m, rfl, hr, by unfold sgn; cases p <;> simp <;> omega, Nat.le_refl _⟩
 · have hpq' : (p == q) = false := by simpa using hpq
   simp [hpq']
   refine CallAt.of (by simp) (by simp) (less_nat hX ho hv hw hn hm hk) ?_
   rintro _ H1 ⟨k1, ⟨hlt, rfl⟩ | ⟨hle, x, rfl, hx⟩⟩
   · simp
     refine CallAt.of (by simp) (by simp) (less_nat hX k1.ok (hw.keep ho k1) (hv.keep ho k1) hm hn hk) ?_
     rintro _ H2 ⟨k2, ⟨hlt2, rfl⟩ | ⟨hle, x, rfl, hx⟩⟩
     · omega
     · simp
       refine ⟨k1.trans k2, q, x, m - n, rfl, hx, ?_, by omega⟩
       unfold sgn
       cases p <;> cases q <;> simp at hpq ⊢ <;> omega
   · simp
     refine ⟨k1, p, x, n - m, rfl, hx, ?_, by omega⟩
     unfold sgn
     cases p <;> cases q <;> simp at hpq ⊢ <;> omega
theorem Add_frac (hX : NX X) (ho : Ok pm H) {v w : Value} {p q : Rat} {k : Nat} (h1 : IsFrac H v p) (h2 : IsFrac H w q) (s1 : sz p k) (s2 : sz q k) (hk : k < 67108864) :
  Call X pm F.q_Add [v, w] H fun r H' => Keep pm H H' ∧ IsFrac H' r (p + q) := by
 refine Call.has hX.q_Add rfl ?_
 simp
 refine CallAt.of (by simp) (by simp) (Parts_spec hX ho h1) ?_
 rintro _ H1 ⟨k1, pn, pd, rfl, hpn, hpd⟩
 simp
 refine CallAt.of (by simp) (by simp) (Parts_spec hX k1.ok (h2.keep ho k1)) ?_
 rintro _ H2 ⟨k2, qn, qd, rfl, hqn, hqd⟩
 have hpn2 := hpn.keep k1.ok k2
 have hpd2 := hpd.keep k1.ok k2
 simp
 refine CallAt.of (by simp) (by simp) (zero_spec hX hpn2 s1.1 (by omega)) ?_
 rintro _ H2 ⟨rfl, rfl⟩
 have k12 := k1.trans k2
 by_cases hp0 : p.num = 0
 · have hp : p = 0 := Rat.num_eq_zero.1 hp0
   simp [hp0]
   refine CallAt.of (by simp) (by simp) (sure_spec hX k2.ok (neg := decide (q < 0)) hqn hqd s2.1 s2.2 (by omega) q.den_nz) ?_
   rintro r H3 ⟨k3, hr⟩
   rw [mkq_self] at hr
   simp
   rw [hp, Rat.zero_add]
   exact ⟨k12.trans k3, hr⟩
 simp [hp0]
 refine CallAt.of (by simp) (by simp) (cmp_nat hX hpd2 hqd s1.2 s2.2 (by omega)) ?_
 rintro _ H2 ⟨rfl, rfl⟩
 have hpe : p = mkRat (sgn (decide (p < 0)) p.num.natAbs) p.den := by rw [← num_sgn]; exact (Rat.mkRat_self p).symm
 have hqe : q = mkRat (sgn (decide (q < 0)) q.num.natAbs) q.den := by rw [← num_sgn]; exact (Rat.mkRat_self q).symm
 by_cases hd : p.den = q.den
 · have hc : cmpI p.den q.den = 0 := by simp [cmpI, hd]
   simp [hc]
   refine CallAt.of (by simp) (by simp) (signed_spec hX k2.ok (p := decide (p < 0)) (q := decide (q < 0)) hpn2 hqn s1.1 s2.1 (by omega)) ?_
   rintro _ H3 ⟨k3, s, x, j, rfl, hx, hs, hj⟩
   simp
   refine CallAt.of (by simp) (by simp) (sure_spec hX k3.ok (neg := s) hx (hpd2.keep k2.ok k3) (Nat.lt_of_le_of_lt hj (pow_sum s1.1 s2.1)) (pow_le_of s1.2 (by omega)) (by omega) p.den_nz) ?_
   rintro r H4 ⟨k4, hr⟩
   simp
   refine ⟨k12.trans (k3.trans k4), ?_⟩
   have : p + q = mkq s j p.den := by
    rw [mkq_eq, hs, hd, Rat.add_def', ← num_sgn, ← num_sgn, hd, ← Int.add_mul]
    exact Rat.mkRat_mul_right q.den_nz
   rw [this]; exact hr
 · have hc : cmpI p.den q.den ≠ 0 := by unfold cmpI; split <;> simp
   simp [hc]
   refine CallAt.of (by simp) (by simp) (mul_nat hX k2.ok hpn2 hqd s1.1 s2.2 (by omega)) ?_
   rintro r3 H3 ⟨k3, hr3⟩
   simp
   refine CallAt.of (by simp) (by simp) (mul_nat hX k3.ok (hqn.keep k2.ok k3) (hpd2.keep k2.ok k3) s2.1 s1.2 (by omega)) ?_
   rintro r4 H4 ⟨k4, hr4⟩
   simp
   refine CallAt.of (by simp) (by simp) (signed_spec hX k4.ok (p := decide (p < 0)) (q := decide (q < 0)) (hr3.keep k3.ok k4) hr4 (pow_two_mul s1.1 s2.2) (pow_two_mul s2.1 s1.2) (by omega)) ?_
   rintro _ H5 ⟨k5, s, x, j, rfl, hx, hs, hj⟩
   have k25 := k3.trans (k4.trans k5)
   simp
   refine CallAt.of (by simp) (by simp) (mul_nat hX k5.ok (hpd2.keep k2.ok k25) (hqd.keep k2.ok k25) s1.2 s2.2 (by omega)) ?_
   rintro r6 H6 ⟨k6, hr6⟩
   simp
   refine CallAt.of (by simp) (by simp) (sure_spec hX k6.ok (neg := s) (hx.keep k5.ok k6) hr6 (Nat.lt_of_le_of_lt hj (pow_sum (pow_two_mul s1.1 s2.2) (pow_two_mul s2.1 s1.2))) (pow_le_of (pow_two_mul s1.2 s2.2) (by omega)) (by omega) (Nat.mul_ne_zero p.den_nz q.den_nz)) ?_
   rintro r H7 ⟨k7, hr⟩
   simp
   refine ⟨k12.trans (k25.trans (k6.trans k7)), ?_⟩
   have : p + q = mkq s j (p.den * q.den) := by
    rw [mkq_eq, hs, Rat.add_def']
    congr 1
    rw [num_sgn p, num_sgn q]
    unfold sgn
    cases decide (p < 0) <;> cases decide (q < 0) <;> simp [Int.neg_mul]
   rw [this]; exact hr
end Go.Dam.C
namespace Go.Dam.C
open Go Go.Dam
variable {X : Cx} {pm : Perm} {H H' : Heap}
theorem sz_neg {q : Rat} {k : Nat} (h : sz q k) : sz (-q) k := by
 obtain ⟨e1, e2, _⟩ := mkq_neg_frac q
 exact ⟨by rw [e1]; exact h.1, by rw [e2]; exact h.2⟩
end Go.Dam.C
namespace Go.Dam.C
open Go Go.Dam
variable [Foot]
variable {X : Cx} {pm : Perm} {H H' : Heap}
theorem Sub_frac (hX : NX X) (ho : Ok pm H) {v w : Value} {p q : Rat} {k : Nat} (h1 : IsFrac H v p) (h2 : IsFrac H w q) (s1 : sz p k) (s2 : sz q k) (hk : k < 67108864) :
  Call X pm F.q_Sub [v, w] H fun r H' => Keep pm H H' ∧ IsFrac H' r (p - q) := by
 refine Call.has hX.q_Sub rfl ?_
 simp
 refine CallAt.of (by simp) (by simp) (Neg_spec hX ho h2 s2 (by omega)) ?_
 rintro r1 H1 ⟨k1, hr1⟩
 simp
 refine CallAt.of (by simp) (by simp) (Add_frac hX k1.ok (h1.keep ho k1) hr1 s1 (sz_neg s2) hk) ?_
 rintro r2 H2 ⟨k2, hr2⟩
 simp
 exact ⟨k1.trans k2, by rw [Rat.sub_eq_add_neg]; exact hr2⟩
theorem Cmp_frac (hX : NX X) (ho : Ok pm H) {v w : Value} {p q : Rat} {k : Nat} (h1 : IsFrac H v p) (h2 : IsFrac H w q) (s1 : sz p k) (s2 : sz q k) (s3 : sz (p - q) (2 * k + 1)) (hk : k < 67108864) :
  Call X pm F.q_Cmp [v, w] H fun r H' => Keep pm H H' ∧ r = .int .i64 (if p < q then -1 else if p = q then 0 else 1) := by
 refine Call.has hX.q_Cmp rfl ?_
 simp
 refine CallAt.of (by simp) (by simp) (Sub_frac hX ho h1 h2 s1 s2 hk) ?_
 rintro r1 H1 ⟨k1, hr1⟩
 simp
 refine CallAt.of (by simp) (by simp) (Sign_spec hX k1.ok hr1 s3 (by omega)) ?_
 rintro _ H2 ⟨k2, rfl⟩
 have e1 : (p - q < 0) ↔ (p < q) := by constructor <;> intro h <;> grind
 have e2 : (p - q = 0) ↔ (p = q) := by constructor <;> intro h <;> grind
 simp [e1, e2]
 exact k1.trans k2
end Go.Dam.C
namespace Go.Dam
section
open Go
/-! ## Strings by lists of bytes -/
abbrev St (l : List UInt8) : Value := .string ⟨l.toArray⟩
@[simp] theorem mk_size (l : List UInt8) : (ByteArray.mk l.toArray).size = l.length := rfl
@[simp] theorem mk_data (l : List UInt8) : (ByteArray.mk l.toArray).data = l.toArray := rfl
theorem ba_ext {a b : ByteArray} (h : a.data.toList = b.data.toList) : a = b := by
 obtain ⟨⟨a⟩⟩ := a
 obtain ⟨⟨b⟩⟩ := b
 exact congrArg (fun l : List UInt8 => ByteArray.mk ⟨l⟩) h
theorem loop_eq (bs : ByteArray) : ∀ (n i : Nat) (r : List UInt8), bs.size - i = n → ByteArray.toList.loop bs i r = r.reverse ++ bs.data.toList.drop i := by
 intro n
 induction n with
 | zero =>
   intro i r h
   rw [ByteArray.toList.loop]
   have h1 : ¬ i < bs.size := by omega
   rw [if_neg h1, List.drop_eq_nil_of_le (by have : bs.data.toList.length = bs.size := Array.length_toList
                                             omega)]
   simp
 | succ n ih =>
   intro i r h
   rw [ByteArray.toList.loop]
   have h1 : i < bs.size := by omega
   have h2 : i < bs.data.toList.length := by rw [Array.length_toList]; exact h1
   rw [if_pos h1, ih (i + 1) _ (by omega), List.drop_eq_getElem_cons h2]
   have h3 : bs.get! i = bs.data.toList[i] := by
    show bs.data[i]! = _
    rw [getElem!_pos bs.data i (by simpa using h2)]
    simp
   rw [h3]
   simp
@[simp] theorem mk_toList (l : List UInt8) : (ByteArray.mk l.toArray).toList = l := by
  unfold ByteArray.toList
  rw [loop_eq _ _ 0 [] rfl]
  simp
@[simp] theorem mk_extract (l : List UInt8) (i j : Nat) : (ByteArray.mk l.toArray).extract i j = ⟨((l.drop i).take (j - i)).toArray⟩ := by
  apply ba_ext
  simp [ByteArray.data_extract, List.extract_eq_take_drop]
@[simp] theorem mk_append (a b : List UInt8) : (ByteArray.mk a.toArray ++ ByteArray.mk b.toArray) = ⟨(a ++ b).toArray⟩ := by
  apply ba_ext
  simp [ByteArray.data_append]
end
end Go.Dam
namespace Go.Dam.C
open Go Go.Dam
variable [Foot]
/-! ## Decimal texts -/
end Go.Dam.C
namespace Go.Dam.C
open Go Go.Dam
theorem rep48 (c : Nat) : Lib.repeatL [48] c = List.replicate c 48 := by
 induction c with
 | zero => rfl
 | succ c ih => rw [Lib.repeatL, ih]; rfl
theorem nDigits_le {u k : Nat} (h : u < 10 ^ k) (hk : 1 ≤ k) : Lib.nDigits u ≤ k := by
 induction k generalizing u with
 | zero => omega
 | succ k ih =>
   by_cases h9 : u < 10
   · rw [Lib.nDigits_small h9]; omega
   · rw [Lib.nDigits_big h9]
     rw [Nat.pow_succ] at h
     have hk1 : 1 ≤ k := by
      cases k with
      | zero => simp at h; omega
      | succ k => omega
     have := ih (u := u / 10) (by omega) hk1
     omega
end Go.Dam.C
namespace Go.Dam.C
open Go Go.Dam
variable [Foot]
def padk : Nat → Nat → List UInt8
 | 0, _ => []
 | k + 1, r => padk k (r / 10) ++ [UInt8.ofNat (48 + r % 10)]
end Go.Dam.C
namespace Go.Dam.C
open Go Go.Dam
theorem dec_split {q : Nat} (hq : 0 < q) : ∀ {k r : Nat}, r < 10 ^ k → Lib.decDigits (q * 10 ^ k + r) = Lib.decDigits q ++ padk k r
 | 0, r, h => by
   have : r = 0 := by simpa using h
   subst this
   simp [padk]
 | k + 1, r, h => by
   rw [Nat.pow_succ] at h
   have hp : 1 ≤ 10 ^ k := Nat.one_le_pow _ _ (by decide)
   have hqp : 1 ≤ q * 10 ^ k := Nat.mul_pos hq hp
   have e : q * 10 ^ (k + 1) + r = 10 * (q * 10 ^ k) + r := by rw [Nat.pow_succ]; grind
   rw [e, Lib.decDigits, dif_neg (by omega)]
   have e1 : (10 * (q * 10 ^ k) + r) / 10 = q * 10 ^ k + r / 10 := by omega
   have e2 : (10 * (q * 10 ^ k) + r) % 10 = r % 10 := by omega
   rw [e1, e2, dec_split hq (k := k) (r := r / 10) (by omega), padk, List.append_assoc]
theorem padk_eq : ∀ {k r : Nat}, 1 ≤ k → r < 10 ^ k → padk k r = List.replicate (k - Lib.nDigits r) 48 ++ Lib.decDigits r
 | 0, r, h, _ => by omega
 | 1, r, _, h => by
   have h : r < 10 := by simpa using h
   rw [Lib.nDigits_small h, Lib.decDigits_one h]
   simp [padk, Nat.mod_eq_of_lt h]
 | k + 2, r, _, h => by
   rw [padk, padk_eq (k := k + 1) (r := r / 10) (by omega) (by rw [Nat.pow_succ] at h; omega)]
   by_cases h9 : r < 10
   · have e : r / 10 = 0 := by omega
     rw [e, Lib.nDigits_small h9, Lib.nDigits_small (by omega), Lib.decDigits_one (by omega : 0 < 10), Lib.decDigits_one h9, Nat.mod_eq_of_lt h9]
     rw [show k + 2 - 1 = (k + 1 - 1) + 1 by omega, List.replicate_succ', List.append_assoc, List.append_assoc]
     rfl
   · rw [Lib.nDigits_big h9, List.append_assoc, show k + 2 - (Lib.nDigits (r / 10) + 1) = k + 1 - Lib.nDigits (r / 10) by omega]
     congr 1
     conv => rhs; rw [Lib.decDigits, dif_neg h9]
end Go.Dam.C
namespace Go.Dam.C
open Go Go.Dam
variable [Foot]
/-- The digits; none of 0. -/
def dec0 (n : Nat) : List UInt8 := if n = 0 then [] else Lib.decDigits n
end Go.Dam.C
namespace Go.Dam.C
open Go Go.Dam
theorem dec0_step (m : Nat) (hm : m ≠ 0) : dec0 (m / 1000000000) ++ (if m / 1000000000 = 0 then Lib.decDigits (m % 1000000000) else Lib.repeatL [48] (9 - (Lib.decDigits (m % 1000000000)).length) ++ Lib.decDigits (m % 1000000000)) = dec0 m := by
 have h1 : dec0 m = Lib.decDigits m := by simp [dec0, hm]
 by_cases h : m / 1000000000 = 0
 · rw [h1, h]
   have : m % 1000000000 = m := by omega
   simp [dec0, this]
 · rw [h1, if_neg h, rep48, Lib.decDigits_length, ← padk_eq (k := 9) (by omega) (by show m % 1000000000 < 1000000000; omega)]
   rw [dec0, if_neg h, ← dec_split (by omega) (by show m % 1000000000 < 1000000000; omega)]
   congr 1
   show m / 1000000000 * 1000000000 + m % 1000000000 = m
   omega
theorem dec_len {n k : Nat} (h : n < 4294967296 ^ k) (hk : 1 ≤ k) : (Lib.decDigits n).length ≤ 10 * k := by
 rw [Lib.decDigits_length]
 refine nDigits_le ?_ (by omega)
 rw [Nat.pow_mul]
 exact Nat.lt_of_lt_of_le h (Nat.pow_le_pow_left (by decide) k)
end Go.Dam.C
namespace Go.Dam.C
open Go Go.Dam
theorem dec_ne (n : Nat) : Lib.decDigits n ≠ [] := by
 intro h
 have := Lib.decDigits_length n
 rw [h] at this
 have := Lib.nDigits_pos n
 simp at *
 omega
/-! ## What stands for some functions of the library -/
end Go.Dam.C
namespace Go.Dam.C
open Go Go.Dam
variable [Foot]
def tabB : Blk := .opq (.nat 0)
def hasTab (H : Heap) : Bool := match H.get 1 with
 | some (.opq (.nat 0)) => true
 | _ => false
def gFmt (_ : Perm) (args : List Value) (H : Heap) : Option (Value × Heap) := match args with
 | [.int .u64 (.ofNat u), .int .i64 b] => bif eqI b 10 && (Nat.blt u 18446744073709551616 && hasTab H) then some (St (Lib.decDigits u), H) else none
 | _ => none
def gRep (_ : Perm) (args : List Value) (H : Heap) : Option (Value × Heap) := match args with
 | [.string s, .int .i64 (.ofNat c)] => bif Nat.ble c 1000 && Nat.ble s.size 1000 then some (St (Lib.repeatL s.data.toList c), H) else none
 | _ => none
def gTrim (_ : Perm) (args : List Value) (H : Heap) : Option (Value × Heap) := match args with
 | [.string s, .string c] => bif Nat.ble s.size 1000000 && (Nat.ble c.size 1000 && c.data.toList.all fun b => Nat.blt b.toNat 128) then some (St (Lib.trimS s.data.toList c.data.toList), H) else none
 | _ => none
def gParse (_ : Perm) (args : List Value) (H : Heap) : Option (Value × Heap) := match args with
 | [.string s, .int .i64 b, .int .i64 c] => bif eqI b 10 && (eqI c 32 && Nat.ble s.size 1000000) then (match Lib.parseUintB 32 s.data.toList with
   | .ok u => some (.tuple #[.int .u64 (u : Int), .nilIface], H)
   | _ => none) else none
 | _ => none
def gIdx (_ : Perm) (args : List Value) (H : Heap) : Option (Value × Heap) := match args with
 | [.string s, .int .u8 (.ofNat c)] => bif Nat.blt c 256 then some (.int .i64 (idxQ c s.data.toList 0), H) else none
 | _ => none
structure LX (X : Cx) : Prop extends NX X where
 idx : X.ov F.ba_IndexByteString = some gIdx
 ss_Cut : Has X F.ss_Cut C.ss_Cut
 ss_CutPrefix : Has X F.ss_CutPrefix C.ss_CutPrefix
 sl_Cut : Has X F.sl_Cut C.sl_Cut
 sl_CutPrefix : Has X F.sl_CutPrefix C.sl_CutPrefix
 sl_HasPrefix : Has X F.sl_HasPrefix C.sl_HasPrefix
 sl_Index : Has X F.sl_Index C.sl_Index
 sl_IndexByte : Has X F.sl_IndexByte C.sl_IndexByte
 l_Text : Has X F.l_Text C.l_Text
 l_F : Has X F.l_F C.l_F
 a_New : Has X F.a_New C.a_New
 a_units : Has X F.a_units C.a_units
 a_dot : Has X F.a_dot C.a_dot
 a_Put : Has X F.a_Put C.a_Put
 a_Col : Has X F.a_Col C.a_Col
 a_Solve : Has X F.a_Solve C.a_Solve
 a_Size : Has X F.a_Size C.a_Size
 s_CloneF : Has X F.s_CloneF C.s_CloneF
 fmt : X.ov F.sc_FormatUint = some gFmt
 rep : X.ov F.ss_Repeat = some gRep
 trim : X.ov F.ss_Trim = some gTrim
 parse : X.ov F.sc_ParseUint = some gParse
variable {X : Cx} {pm : Perm} {H H' : Heap}
def Tab (H : Heap) : Prop := H.get 1 = some tabB
theorem Tab.keep (h : Tab H) (ho : Ok pm H) (hk : Keep pm H H') : Tab H' := hk.some ho h
end Go.Dam.C
namespace Go.Dam.C
open Go Go.Dam
variable {X : Cx} {pm : Perm} {H H' : Heap}
theorem fmt_spec (hX : LX X) (ht : Tab H) {u : Nat} (hu : u < 18446744073709551616) : Call X pm F.sc_FormatUint [.int .u64 (u : Int), .int .i64 10] H fun r H' => H' = H ∧ r = St (Lib.decDigits u) := by
 refine Call.over hX.fmt (v := St (Lib.decDigits u)) (H' := H) ?_ ⟨rfl, rfl⟩
 show gFmt pm [.int .u64 (.ofNat u), .int .i64 10] H = _
 have h1 : hasTab H = true := by unfold hasTab; rw [ht]; rfl
 simp only [gFmt, h1, nblt, hu, decide_true]
 rfl
theorem rep_spec (hX : LX X) {l : List UInt8} {c : Nat} (hc : c ≤ 1000) (hl : l.length ≤ 1000) : Call X pm F.ss_Repeat [St l, .int .i64 (c : Int)] H fun r H' => H' = H ∧ r = St (Lib.repeatL l c) := by
 refine Call.over hX.rep (v := St (Lib.repeatL l c)) (H' := H) ?_ ⟨rfl, rfl⟩
 show gRep pm [St l, .int .i64 (.ofNat c)] H = _
 simp [gRep, nble, hc, hl]
end Go.Dam.C
namespace Go.Dam.C
section
open Go Go.Dam
variable [Foot]
attribute [simp] strOp
variable {X : Cx} {pm : Perm} {H H' : Heap}
/-- A copy of digits. -/
theorem copyNil (ho : Ok pm H) {r : Value} {a : List Nat} (hd : Dig H r a) (la : a.length ≤ 1073741824) :
  ∃ s1 H2, Eff.run pm (withCells 1 r fun new n => effAppend 1 4 (.slice none 0 0) new n) H = some (s1, H2) ∧ Keep pm H H2 ∧ Dig H2 s1 a := by
 by_cases h0 : a = []
 · subst h0
   refine ⟨.slice none 0 0, H, ?_, .refl ho, .nil⟩
   obtain ⟨_, ⟨rfl, _⟩ | ⟨c, off, cap, y, row, rfl, h1, h2, h3, h4, _⟩⟩ := id hd
   · simp [effAppend]
   · simp [h1, h2.row, getCells, effAppend, nble, show off ≤ row.length by simpa using h4]
 · obtain ⟨c, off, cap, y, row, rfl, h1, h2, h3⟩ := hd.parts h0
   have hl : 0 < a.length := List.length_pos_iff.2 h0
   have hone : (u32s a).all oneCellV = true := by
    rw [List.all_eq_true]
    intro x hx
    obtain ⟨d, _, rfl⟩ := List.mem_map.1 hx
    rfl
   refine ⟨.slice (some ⟨H.next, 0, none⟩) a.length a.length, H.new (.cells (u32s a) (.n 1)), ?_, (Keep.refl ho).new _, hd.1, .inr ⟨H.next, 0, a.length, _, u32s a, rfl, get_new_next, .inl rfl, ?_, ?_, Nat.le_refl _, ho.new _ (Nat.le_refl _)⟩⟩
   · simp [h1, h2, h3, effAppend, nble, hone, show ¬ a.length = 0 by omega, show a.length * 4 ≤ 17179869184 by omega, show a.length ≤ 17179869184 by omega, ho.make, ho.pick]
   · rw [List.drop_zero, List.take_of_length_le (by simp [u32s])]
   · simp [u32s]
theorem Text_spec (hX : LX X) (ho : Ok pm H) (ht : Tab H) {v : Value} {n k : Nat} (hv : IsNat H v n) (hn : n < 4294967296 ^ k) (hk1 : 1 ≤ k) (hk : k < 100000000) :
  Call X pm F.n_Text [v] H fun r H' => Keep pm H H' ∧ r = St (Lib.decDigits n) := by
 obtain ⟨a, ha, hsa, hna⟩ := hv.out
 have la := natLen hsa hna hn
 refine Call.has hX.n_Text rfl ?_
 simp
 refine CallAt.of (by simp) (by simp) (digits_spec hX.n_digits ha) ?_
 rintro r0 _ ⟨rfl, hd⟩
 obtain ⟨s1, H2, hap, k2, hd2⟩ := copyNil ho hd (by omega)
 simp [-withCells, hap]
 refine LoopAt.of (fun s : Value × List Nat × List UInt8 => [(3, s.1), (4, St s.2.2)]) (fun s H' => Keep pm H2 H' ∧ Dig H' s.1 s.2.1 ∧ strip s.2.1 = s.2.1 ∧ s.2.1.length ≤ k ∧ dec0 (nv s.2.1) ++ s.2.2 = dec0 n) (fun s => nv s.2.1) (s1, a, []) (by simp) ⟨.refl k2.ok, hd2, hsa, la, by simp [hna]⟩ ?_
 rintro ⟨v3, ds, s⟩ H3 ⟨k3, hd3, hst, hlen, hinv⟩
 simp only at hd3 hst hlen hinv
 obtain ⟨base, cap, rfl⟩ := hd3.form
 have hlim : (dec0 n).length ≤ 10 * k := by
  unfold dec0
  split
  · simp
  · exact dec_len hn hk1
 by_cases h0 : ds = []
 · subst h0
   have hs : s = dec0 n := by simpa [nv, dec0] using hinv
   simp [hs]
   by_cases hn0 : n = 0
   · subst hn0
     simp [dec0]
     exact ⟨k2.trans k3, by rw [Lib.decDigits_one (by omega)]; rfl⟩
   · have : dec0 n = Lib.decDigits n := by simp [dec0, hn0]
     rw [this]
     simp [dec_ne n]
     exact k2.trans k3
 · have hl0 : 0 < ds.length := List.length_pos_iff.2 h0
   have hnv : nv ds ≠ 0 := by
    have := nv_high hst h0
    have := Nat.pow_pos (n := ds.length - 1) (show 0 < 4294967296 by decide)
    omega
   simp [hl0]
   refine CallAt.of (by simp) (by simp) (short_spec hX.toNX k3.ok hd3 (by omega) (y := 1000000000) (by omega) (by omega)) ?_
   rintro _ H4 ⟨k4, sv, qs, rfl, hqs, hqn, hql⟩
   simp
   refine CallAt.of (by simp) (by simp) (of_specP hX.n_of k4.ok hqs (by omega)) ?_
   rintro _ H5 ⟨k5, b, x, s5, rfl, hgb, hrx, hds5⟩
   have k25 := k2.trans (k3.trans (k4.trans k5))
   simp [hgb, hrx]
   refine CallAt.of (by simp) (by simp) (fmt_spec hX (ht.keep ho k25) (u := nv ds % 1000000000) (by omega)) ?_
   rintro _ H5 ⟨rfl, rfl⟩
   obtain ⟨b5, c5, rfl⟩ := hds5.form
   have hql5 : (strip qs).length ≤ k := by
    have := natLen (k := k) (strip_strip qs) (nv_strip qs) (by rw [hqn]; exact Nat.lt_of_le_of_lt (Nat.div_le_self _ _) (Nat.lt_of_lt_of_le (nv_lt hd3.1) (Nat.pow_le_pow_right (by decide) hlen)))
    exact this
   have hrl := Lib.decDigits_length (nv ds % 1000000000)
   have hr9 : Lib.nDigits (nv ds % 1000000000) ≤ 9 := nDigits_le (by show _ < 1000000000; omega) (by omega)
   have hstep := dec0_step (nv ds) hnv
   have hsl : s.length ≤ 10 * k := by
    have := congrArg List.length hinv
    simp at this
    omega
   have hdv : nv ds / 1000000000 < nv ds := by omega
   by_cases hq0 : strip qs = []
   · have hq : nv ds / 1000000000 = 0 := by rw [← hqn, ← nv_strip, hq0]; rfl
     rw [if_pos hq] at hstep
     simp [hq0, nble, hrl, show Lib.nDigits (nv ds % 1000000000) + s.length ≤ 4294967296 by omega]
     refine .of (.slice b5 0 c5, [], Lib.decDigits (nv ds % 1000000000) ++ s) (by show nv [] < nv ds; simp [nv]; omega) (by simp) ⟨k3.trans (k4.trans k5), by rw [hq0] at hds5; exact hds5, by simp [strip], by simp, ?_⟩
     show dec0 (nv []) ++ (_ ++ s) = dec0 n
     rw [← hinv, ← hstep, hq]
     simp [nv]
   · have hq : nv ds / 1000000000 ≠ 0 := by
      rw [← hqn, ← nv_strip]
      have := nv_high (strip_strip qs) hq0
      have := Nat.pow_pos (n := (strip qs).length - 1) (show 0 < 4294967296 by decide)
      omega
     rw [if_neg hq] at hstep
     have hw : wr .i64 ((9 : Int) - ((Lib.nDigits (nv ds % 1000000000) : Nat) : Int)) = ((9 - Lib.nDigits (nv ds % 1000000000) : Nat) : Int) := by rw [wr_i64 (by omega) (by omega)]; omega
     have hpos : 0 < (strip qs).length := List.length_pos_iff.2 hq0
     simp [hpos, nble, hrl, hw]
     refine CallAt.of (by simp) (by simp) (rep_spec hX (l := [48]) (c := 9 - Lib.nDigits (nv ds % 1000000000)) (by omega) (by simp)) ?_
     rintro _ H5 ⟨rfl, rfl⟩
     have hrp : (Lib.repeatL [48] (9 - Lib.nDigits (nv ds % 1000000000))).length = 9 - Lib.nDigits (nv ds % 1000000000) := by rw [rep48]; simp
     simp [nble, hrl, hrp, show 9 - Lib.nDigits (nv ds % 1000000000) + Lib.nDigits (nv ds % 1000000000) ≤ 4294967296 by omega, show 9 - Lib.nDigits (nv ds % 1000000000) + Lib.nDigits (nv ds % 1000000000) + s.length ≤ 4294967296 by omega]
     refine .of (.slice b5 (strip qs).length c5, strip qs, Lib.repeatL [48] (9 - Lib.nDigits (nv ds % 1000000000)) ++ Lib.decDigits (nv ds % 1000000000) ++ s) (by show nv (strip qs) < nv ds; rw [nv_strip, hqn]; exact hdv) (by simp) ⟨k3.trans (k4.trans k5), hds5, strip_strip qs, hql5, ?_⟩
     show dec0 (nv (strip qs)) ++ (_ ++ s) = dec0 n
     rw [nv_strip, hqn, ← hinv, ← hstep, hrl]
     simp
end
end Go.Dam.C
namespace Go.Dam.C
open Go Go.Dam
variable [Foot]
variable {X : Cx} {pm : Perm} {H H' : Heap}
/-! ## Reading decimal texts -/
def digB (c : UInt8) : Bool := Nat.ble 48 c.toNat && Nat.ble c.toNat 57
def decFrom (acc : Nat) (l : List UInt8) : Nat := l.foldl (fun a c => a * 10 + (c.toNat - 48)) acc
def decVal (l : List UInt8) : Nat := decFrom 0 l
end Go.Dam.C
namespace Go.Dam.C
open Go Go.Dam
variable {X : Cx} {pm : Perm} {H H' : Heap}
theorem decFrom_eq (l : List UInt8) : ∀ acc, decFrom acc l = acc * 10 ^ l.length + decVal l := by
 induction l with
 | nil => intro acc; simp [decFrom, decVal]
 | cons c l ih =>
   intro acc
   have h1 := ih (acc * 10 + (c.toNat - 48))
   have h2 := ih (0 * 10 + (c.toNat - 48))
   simp only [decVal, decFrom, List.foldl_cons] at h1 h2 ⊢
   rw [h1, h2, List.length_cons, Nat.pow_succ]
   grind
end Go.Dam.C
namespace Go.Dam.C
open Go Go.Dam
variable [Foot]
variable {X : Cx} {pm : Perm} {H H' : Heap}
end Go.Dam.C
namespace Go.Dam.C
open Go Go.Dam
variable {X : Cx} {pm : Perm} {H H' : Heap}
theorem decVal_append (a b : List UInt8) : decVal (a ++ b) = decVal a * 10 ^ b.length + decVal b := by
 rw [decVal, decFrom, List.foldl_append]
 exact decFrom_eq b _
end Go.Dam.C
namespace Go.Dam.C
open Go Go.Dam
variable [Foot]
variable {X : Cx} {pm : Perm} {H H' : Heap}
end Go.Dam.C
namespace Go.Dam.C
open Go Go.Dam
variable {X : Cx} {pm : Perm} {H H' : Heap}
theorem decVal_lt {l : List UInt8} (h : l.all digB = true) : decVal l < 10 ^ l.length := by
 induction l with
 | nil => simp [decVal, decFrom]
 | cons c l ih =>
   simp only [List.all_cons, Bool.and_eq_true] at h
   have h1 := ih h.2
   have h2 : decVal (c :: l) = (c.toNat - 48) * 10 ^ l.length + decVal l := by
    have := decVal_append [c] l
    simpa [decVal, decFrom] using this
   have h3 : c.toNat - 48 ≤ 9 := by
    have := h.1
    simp [digB, nble] at this
    omega
   rw [h2, List.length_cons, Nat.pow_succ]
   have := Nat.mul_le_mul_right (10 ^ l.length) h3
   omega
end Go.Dam.C
namespace Go.Dam.C
open Go Go.Dam
variable {X : Cx} {pm : Perm} {H H' : Heap}
theorem parse_ok : ∀ (l : List UInt8) (acc : Nat), l.all digB = true → (acc + 1) * 10 ^ l.length ≤ 1000000000 → Lib.parseUintM (2 ^ 32 - 1) acc l = .ok (decFrom acc l)
 | [], acc, _, _ => rfl
 | c :: l, acc, h, hb => by
   simp only [List.all_cons, Bool.and_eq_true] at h
   have hc := h.1
   simp [digB, nble] at hc
   rw [List.length_cons, Nat.pow_succ] at hb
   have hp : 1 ≤ 10 ^ l.length := Nat.one_le_pow _ _ (by decide)
   have hb2 : (acc * 10 + (c.toNat - 48) + 1) * 10 ^ l.length ≤ 1000000000 := by
    refine Nat.le_trans (Nat.mul_le_mul_right _ (show acc * 10 + (c.toNat - 48) + 1 ≤ (acc + 1) * 10 by omega)) ?_
    rw [Nat.mul_assoc, Nat.mul_comm 10]; exact hb
   have hb3 : acc * 10 + (c.toNat - 48) + 1 ≤ 1000000000 := Nat.le_trans (Nat.le_mul_of_pos_right _ hp) hb2
   rw [Lib.parseUintM, if_pos ⟨hc.1, hc.2⟩, if_neg (by omega), if_neg (by omega)]
   exact parse_ok l _ h.2 hb2
end Go.Dam.C
namespace Go.Dam.C
open Go Go.Dam
variable [Foot]
variable {X : Cx} {pm : Perm} {H H' : Heap}
abbrev ten : List UInt8 := [48, 49, 50, 51, 52, 53, 54, 55, 56, 57]
end Go.Dam.C
namespace Go.Dam.C
open Go Go.Dam
variable {X : Cx} {pm : Perm} {H H' : Heap}
theorem ten_has (c : UInt8) : ten.contains c = digB c := by
 have : ∀ n : _root_.Fin 256, ten.contains (UInt8.ofNat n.val) = digB (UInt8.ofNat n.val) := by decide +kernel
 have h := this ⟨c.toNat, c.toNat_lt⟩
 simpa using h
theorem dropWhile_nil {p : UInt8 → Bool} : ∀ {l : List UInt8}, l.dropWhile p = [] → l.all p = true
 | [], _ => rfl
 | c :: l, h => by
   rw [List.dropWhile_cons] at h
   split at h
   · rename_i hc
     simp [hc]
     have := dropWhile_nil h
     simpa using this
   · cases h
end Go.Dam.C
namespace Go.Dam.C
open Go Go.Dam
variable [Foot]
variable {X : Cx} {pm : Perm} {H H' : Heap}
end Go.Dam.C
namespace Go.Dam.C
open Go Go.Dam
variable {X : Cx} {pm : Perm} {H H' : Heap}
theorem trim_nil {l : List UInt8} : (Lib.trimS l ten = []) ↔ l.all digB = true := by
 have e : (fun c => ten.contains c) = digB := funext ten_has
 constructor
 · intro h
   unfold Lib.trimS Lib.trimLeftS Lib.trimRightS at h
   rw [e] at h
   have h1 := dropWhile_nil h
   rw [List.all_reverse] at h1
   have h2 : (l.reverse.takeWhile digB).all digB = true := by
    exact List.all_takeWhile
   have h3 : l.reverse.all digB = true := by
    rw [← List.takeWhile_append_dropWhile (p := digB) (l := l.reverse), List.all_append, h2, h1]; rfl
   rwa [List.all_reverse] at h3
 · intro h
   unfold Lib.trimS Lib.trimLeftS Lib.trimRightS
   rw [e]
   have h1 : l.reverse.dropWhile digB = [] := by
    have : l.reverse.all digB = true := by rw [List.all_reverse]; exact h
    generalize l.reverse = m at *
    induction m with
    | nil => rfl
    | cons c m ih =>
      simp only [List.all_cons, Bool.and_eq_true] at this
      rw [List.dropWhile_cons, if_pos this.1]
      exact ih this.2
   rw [h1]; rfl
end Go.Dam.C
namespace Go.Dam.C
open Go Go.Dam
variable {X : Cx} {pm : Perm} {H H' : Heap}
theorem trim_spec (hX : LX X) {l : List UInt8} (hl : l.length ≤ 1000000) : Call X pm F.ss_Trim [St l, St ten] H fun r H' => H' = H ∧ r = St (Lib.trimS l ten) := by
 refine Call.over hX.trim (v := St (Lib.trimS l ten)) (H' := H) ?_ ⟨rfl, rfl⟩
 simp only [gTrim, nble, mk_size, hl, decide_true, Bool.true_and]
 rfl
end Go.Dam.C
namespace Go.Dam.C
open Go Go.Dam
variable [Foot]
variable {X : Cx} {pm : Perm} {H H' : Heap}
end Go.Dam.C
namespace Go.Dam.C
open Go Go.Dam
variable {X : Cx} {pm : Perm} {H H' : Heap}
theorem parse_spec (hX : LX X) {l : List UInt8} (h : l.all digB = true) (h0 : l ≠ []) (h9 : l.length ≤ 9) : Call X pm F.sc_ParseUint [St l, .int .i64 10, .int .i64 32] H fun r H' => H' = H ∧ r = .tuple #[.int .u64 ((decVal l : Nat) : Int), .nilIface] := by
 refine Call.over hX.parse (v := .tuple #[.int .u64 ((decVal l : Nat) : Int), .nilIface]) (H' := H) ?_ ⟨rfl, rfl⟩
 have hp : Lib.parseUintB 32 l = .ok (decVal l) := by
  unfold Lib.parseUintB
  rw [if_neg h0]
  refine parse_ok l 0 h ?_
  have : 10 ^ l.length ≤ 10 ^ 9 := Nat.pow_le_pow_right (by decide) h9
  omega
 simp only [gParse, nble, mk_size, show l.length ≤ 1000000 by omega, decide_true]
 simp [hp]
end Go.Dam.C
namespace Go.Dam.C
open Go Go.Dam
variable [Foot]
variable {X : Cx} {pm : Perm} {H H' : Heap}
def good (l : List UInt8) : Bool := !l.isEmpty && (Nat.ble l.length 2000 && (!(Nat.blt 1 l.length && l.head? == some 48) && l.all digB))
end Go.Dam.C
namespace Go.Dam.C
open Go Go.Dam
variable {X : Cx} {pm : Perm} {H H' : Heap}
theorem pow10_le (n : Nat) : 10 ^ n ≤ 4294967296 ^ n := Nat.pow_le_pow_left (by decide) n
theorem all_take {p : UInt8 → Bool} {l : List UInt8} (h : l.all p = true) (k : Nat) : (l.take k).all p = true ∧ (l.drop k).all p = true := by
 have := h
 rw [← List.take_append_drop k l, List.all_append, Bool.and_eq_true] at this
 exact this
end Go.Dam.C
namespace Go.Dam.C
open Go Go.Dam
variable [Foot]
variable {X : Cx} {pm : Perm} {H H' : Heap}
def GetPost (pm : Perm) (H : Heap) (l : List UInt8) : Post := fun x l' H' => (x = Ex.normal ∨ x = Ex.ret) ∧ ∃ vs, resL l' H' [.slot 2, .slot 3] = some vs ∧ (Keep pm H H' ∧ (good l = false ∧ tupOf vs = .tuple #[.pointer none, .bool false] ∨ good l = true ∧ ∃ p, tupOf vs = .tuple #[p, .bool true] ∧ IsNat H' p (decVal l)))
theorem Get_tail (hX : LX X) (ho : Ok pm H) {l : List UInt8} (hg : good l = true) (hd : l.all digB = true) (hlen : l.length ≤ 2000) (h1 : 1 ≤ l.length) {L : Sl} (l0 : lk 0 L = some (St l)) :
  wp X pm (.code n_Get_k16) L H [] (GetPost pm H l) := by
 simp
 refine CallAt.of (by simp) (by simp) (of_specP hX.n_of ho Dig.nil (by simp)) ?_
 rintro p1 H1 ⟨k1, hp1⟩
 have hp1 : IsNat H1 p1 0 := (show IsN H1 p1 (strip []) from .inr hp1).nat
 have hw : wr .i64 ((l.length % 9 : Nat) : Int) = ((l.length % 9 : Nat) : Int) := wr_i64 (by omega) (by omega)
 have hw2 : wr .i64 ((l.length : Int) % 9) = ((l.length % 9 : Nat) : Int) := by rw [← hw]; simp
 simp [l0]
 refine LoopAt.of (fun s : List UInt8 × Nat × Value × Nat => [(0, St s.1), (5, .int .i64 (s.2.1 : Int)), (4, s.2.2.1)])
  (fun s H' => Keep pm H1 H' ∧ IsNat H' s.2.2.1 s.2.2.2 ∧ s.1.all digB = true ∧ s.1.length ≤ l.length ∧ decVal l = s.2.2.2 * 10 ^ s.1.length + decVal s.1 ∧ (s.2.1 = 9 → s.1.length % 9 = 0) ∧ (s.2.1 ≠ 9 → s.2.1 = s.1.length % 9 ∧ s.2.2.2 = 0))
  (fun s => 2 * s.1.length + (if s.2.1 = 9 then 0 else 1)) (l, l.length % 9, p1, 0) (by simp [l0]) ⟨.refl k1.ok, hp1, hd, Nat.le_refl _, by simp, by simp; omega, by simp⟩ ?_
 rintro ⟨r, kk, out, m⟩ H2 ⟨k2, hm, hrd, hrl, hval, hk9, hkn⟩
 simp only at hm hrd hrl hval hk9 hkn
 by_cases hr0 : r = []
 · subst hr0
   have : m = decVal l := by rw [hval]; simp [decVal, decFrom]
   simp [GetPost, hg]
   exact ⟨k1.trans k2, by rw [← this]; exact hm⟩
 · have hrp : 0 < r.length := List.length_pos_iff.2 hr0
   by_cases hk0 : kk = 0
   · subst hk0
     have := hkn (by omega)
     simp [hr0]
     exact .of (r, 9, out, m) (by simp) (by simp) ⟨k2, hm, List.all_eq_true.1 hrd, hrl, hval, fun _ => this.1.symm, fun h => absurd rfl h⟩
   · have hkp : 0 < kk := by omega
     have hkl : kk ≤ r.length ∧ kk ≤ 9 := by
      by_cases h : kk = 9
      · have := hk9 h; omega
      · have := hkn h; omega
     have hch := all_take hrd kk
     have hcl : (r.take kk).length = kk := by simp; omega
     have hdl : (r.drop kk).length = r.length - kk := by simp
     simp [hr0, hkp, hkl]
     refine CallAt.of (by simp) (by simp) (parse_spec hX hch.1 (by intro h; rw [h] at hcl; simp at hcl; omega) (by omega)) ?_
     rintro _ H2 ⟨rfl, rfl⟩
     have htk : List.take (r.length - kk) (r.drop kk) = r.drop kk := List.take_of_length_le (by rw [hdl]; exact Nat.le_refl _)
     have hcv := decVal_lt hch.1
     rw [hcl] at hcv
     have hcv9 : decVal (r.take kk) < 1000000000 := Nat.lt_of_lt_of_le hcv (Nat.pow_le_pow_right (n := 10) (by decide) hkl.2)
     have hsplit : decVal r = decVal (r.take kk) * 10 ^ (r.length - kk) + decVal (r.drop kk) := by
      conv => lhs; rw [← List.take_append_drop kk r]
      rw [decVal_append, hdl]
     have hnew : decVal l = (m * 1000000000 + decVal (r.take kk)) * 10 ^ (r.length - kk) + decVal (r.drop kk) := by
      rw [hval, hsplit]
      by_cases h : kk = 9
      · have : 10 ^ r.length = 1000000000 * 10 ^ (r.length - kk) := by
         rw [h, show (1000000000 : Nat) = 10 ^ 9 from rfl, ← Nat.pow_add]
         congr 1
         omega
        rw [this]
        grind
      · rw [(hkn h).2]; simp
     have hlt := decVal_lt hd
     have hP : 1 ≤ 10 ^ (r.length - kk) := Nat.one_le_pow _ _ (by decide)
     have hm' : m * 1000000000 + decVal (r.take kk) < 4294967296 ^ l.length := by
      refine Nat.lt_of_le_of_lt ?_ (Nat.lt_of_lt_of_le hlt (pow10_le _))
      rw [hnew]
      exact Nat.le_trans (Nat.le_mul_of_pos_right _ hP) (Nat.le_add_right _ _)
     have hu : 1000000000 < 4294967296 ^ l.length := by
      have : 4294967296 ^ 1 ≤ 4294967296 ^ l.length := Nat.pow_le_pow_right (by decide) h1
      omega
     simp
     refine CallAt.of (by simp) (by simp) (of_nat hX.toNX k2.ok (x := 1000000000) (by omega)) ?_
     rintro p3 H3 ⟨k3, hp3⟩
     simp
     refine CallAt.of (by simp) (by simp) (mul_nat hX.toNX k3.ok (hm.keep k2.ok k3) hp3 (k := l.length) (Nat.lt_of_le_of_lt (by omega) hm') hu (by omega)) ?_
     rintro p4 H4 ⟨k4, hp4⟩
     simp
     refine CallAt.of (by simp) (by simp) (of_nat hX.toNX k4.ok (x := decVal (r.take kk)) (by omega)) ?_
     rintro p5 H5 ⟨k5, hp5⟩
     simp
     refine CallAt.of (by simp) (by simp) (add_nat hX.toNX k5.ok (hp4.keep k4.ok k5) hp5 (k := l.length) (Nat.lt_of_le_of_lt (Nat.le_add_right _ _) hm') (Nat.lt_of_le_of_lt (Nat.le_add_left _ _) hm') (by omega)) ?_
     rintro p6 H6 ⟨k6, hp6⟩
     simp [hkl]
     refine .of (r.drop kk, 9, p6, m * 1000000000 + decVal (r.take kk)) (by show 2 * (r.drop kk).length + 0 < 2 * r.length + _; rw [hdl]; omega) (by simp; exact htk.symm ▸ rfl) ⟨k2.trans (k3.trans (k4.trans (k5.trans k6))), hp6, List.all_eq_true.1 hch.2, by simp; omega, by show decVal l = _; simp only; rw [hdl]; exact hnew, fun _ => ?_, fun h => absurd rfl h⟩
     show (r.drop kk).length % 9 = 0
     rw [hdl]
     by_cases h : kk = 9
     · have := hk9 h; omega
     · have := (hkn h).1; omega
theorem Get_nat (hX : LX X) (ho : Ok pm H) {l : List UInt8} :
  Call X pm F.n_Get [St l] H fun r H' => Keep pm H H' ∧ (good l = false ∧ r = .tuple #[.pointer none, .bool false] ∨ good l = true ∧ ∃ p, r = .tuple #[p, .bool true] ∧ IsNat H' p (decVal l)) := by
 refine Call.has hX.n_Get rfl ?_
 show wp X pm (.code n_Get.body) _ H [] (GetPost pm H l)
 cases hl : l with
 | nil =>
   simp
   refine CallAt.not (by simp) ?_
   simp [good, GetPost]
   exact .refl ho
 | cons c t =>
   rw [← hl]
   have h1 : l.isEmpty = false := by rw [hl]; rfl
   have h0 : l[0]? = some c := by rw [hl]; rfl
   have hne : l ≠ [] := by rw [hl]; simp
   have hh : l.head? = some c := by rw [hl]; rfl
   have hg : good l = (Nat.ble l.length 2000 && (!(Nat.blt 1 l.length && c == 48) && l.all digB)) := by unfold good; rw [h1, hh]; simp
   by_cases h2 : 2000 < l.length
   · simp [h1, h2]
     refine CallAt.not (by simp) ?_
     simp [GetPost, hg, nble, show ¬ l.length ≤ 2000 by omega]
     exact .refl ho
   · simp [h1, h2]
     by_cases h3 : 1 < l.length ∧ c.toNat = 48
     · simp [h3.1, h3.2, h0]
       refine CallAt.not (by simp) ?_
       have hc : c = 48 := UInt8.toNat_inj.1 (by rw [h3.2]; rfl)
       simp [GetPost, hg, nblt, h3.1, hc]
       exact .refl ho
     · have fin : ∀ {L : Sl}, lk 0 L = some (St l) → lk 25 L = some (.bool false) → CallAt X pm ⟨some 27, some (25, false), .call F.ss_Trim [.t 26, .c (.string ⟨#[48, 49, 50, 51, 52, 53, 54, 55, 56, 57]⟩)]⟩ F.ss_Trim [.t 26, .c (.string ⟨#[48, 49, 50, 51, 52, 53, 54, 55, 56, 57]⟩)] n_Get_o18 ((26, St l) :: L) H [.seq n_Get_k17, .seq n_Get_k16] (GetPost pm H l) := by
        intro L l0 l25
        refine CallAt.of (by simp [l25]) (by simp) (trim_spec hX (l := l) (by omega)) ?_
        rintro _ H ⟨rfl, rfl⟩
        have hgl : good l = l.all digB := by
         rw [hg]
         have e1 : Nat.ble l.length 2000 = true := by simp [nble]; omega
         have e2 : (Nat.blt 1 l.length && c == 48) = false := by
          by_cases q1 : 1 < l.length
          · by_cases q2 : c = 48
            · exact absurd ⟨q1, by rw [q2]; rfl⟩ h3
            · simp [q2]
          · simp [nblt]; omega
         rw [e1, e2]; simp
        by_cases hd : l.all digB = true
        · have ht := trim_nil.2 hd
          simp [l25, ht, -n_Get_k16]
          exact Get_tail hX ho (by rw [hgl]; exact hd) hd (by omega) (by rw [hl]; simp) (by simp [l0])
        · have ht : Lib.trimS l ten ≠ [] := fun h => hd (trim_nil.1 h)
          simp [l25, ht, -n_Get_k16, GetPost, hgl, hd]
          exact .refl ho
       by_cases q1 : 1 < l.length
       · have q2 : ((c.toNat : Int) == 48) = false := by
          have : ¬ c.toNat = 48 := fun h => h3 ⟨q1, h⟩
          simp; omega
         simp [q1, q2, h0, -n_Get_k16, -n_Get_k17, -n_Get_o18]
         refine fin ?_ ?_ <;> simp [*]
       · simp [q1, -n_Get_k16, -n_Get_k17, -n_Get_o18]
         refine fin ?_ ?_ <;> simp [*]
end Go.Dam.C
namespace Go.Dam.C
open Go Go.Dam
variable [Foot]
variable {X : Cx} {pm : Perm} {H H' : Heap}
end Go.Dam.C
namespace Go.Dam.C
open Go Go.Dam
variable {X : Cx} {pm : Perm} {H H' : Heap}
theorem HasPrefix_yes (hX : LX X) (c : UInt8) (t : List UInt8) : Call X pm F.sl_HasPrefix [St (c :: t), St [c]] H fun r H' => H' = H ∧ r = .bool true := by
 refine Call.has hX.sl_HasPrefix rfl ?_
 simp [show ¬ ((t.length : Int) + 1 < 1) by omega]
theorem HasPrefix_no (hX : LX X) (c : UInt8) {l : List UInt8} (h : l.head? ≠ some c) : Call X pm F.sl_HasPrefix [St l, St [c]] H fun r H' => H' = H ∧ r = .bool false := by
 refine Call.has hX.sl_HasPrefix rfl ?_
 cases l with
 | nil => simp
 | cons d t =>
   have : d ≠ c := fun e => h (by rw [e]; rfl)
   simp [this, show ¬ ((t.length : Int) + 1 < 1) by omega]
end Go.Dam.C
namespace Go.Dam.C
open Go Go.Dam
variable [Foot]
variable {X : Cx} {pm : Perm} {H H' : Heap}
end Go.Dam.C
namespace Go.Dam.C
open Go Go.Dam
variable {X : Cx} {pm : Perm} {H H' : Heap}
theorem CutPrefix_yes (hX : LX X) (c : UInt8) (t : List UInt8) : Call X pm F.ss_CutPrefix [St (c :: t), St [c]] H fun r H' => H' = H ∧ r = .tuple #[St t, .bool true] := by
 refine Call.has hX.ss_CutPrefix rfl ?_
 simp
 have h : Call X pm F.sl_CutPrefix [St (c :: t), St [c]] H fun r H' => H' = H ∧ r = .tuple #[St t, .bool true] := by
  refine Call.has hX.sl_CutPrefix rfl ?_
  simp
  refine CallAt.of (by simp) (by simp) (HasPrefix_yes hX c t) ?_
  rintro _ _ ⟨rfl, rfl⟩
  simp
 refine CallAt.of (by simp) (by simp) h ?_
 rintro _ _ ⟨rfl, rfl⟩
 simp
theorem CutPrefix_no (hX : LX X) (c : UInt8) {l : List UInt8} (h : l.head? ≠ some c) : Call X pm F.ss_CutPrefix [St l, St [c]] H fun r H' => H' = H ∧ r = .tuple #[St l, .bool false] := by
 refine Call.has hX.ss_CutPrefix rfl ?_
 simp
 have h : Call X pm F.sl_CutPrefix [St l, St [c]] H fun r H' => H' = H ∧ r = .tuple #[St l, .bool false] := by
  refine Call.has hX.sl_CutPrefix rfl ?_
  simp
  refine CallAt.of (by simp) (by simp) (HasPrefix_no hX c h) ?_
  rintro _ _ ⟨rfl, rfl⟩
  simp
 refine CallAt.of (by simp) (by simp) h ?_
 rintro _ _ ⟨rfl, rfl⟩
 simp
end Go.Dam.C
namespace Go.Dam.C
open Go Go.Dam
variable {X : Cx} {pm : Perm} {H H' : Heap}
theorem idxQ_none : ∀ {l : List UInt8} {n : Nat}, 47 ∉ l → idxQ 47 l n = -1
 | [], _, _ => rfl
 | c :: l, n, h => by
   have hc : ¬ c.toNat = 47 := fun e => h (by rw [show c = 47 from UInt8.toNat_inj.1 (by rw [e]; rfl)]; exact .head _)
   simp only [idxQ, nbeq, hc, decide_false, cond_false]
   exact idxQ_none fun hm => h (.tail _ hm)
theorem idxQ_some : ∀ {a : List UInt8} {b : List UInt8} {n : Nat}, 47 ∉ a → idxQ 47 (a ++ 47 :: b) n = ((n + a.length : Nat) : Int)
 | [], b, n, _ => by
   simp only [List.nil_append, idxQ, nbeq]
   rfl
 | c :: a, b, n, h => by
   have hc : ¬ c.toNat = 47 := fun e => h (by rw [show c = 47 from UInt8.toNat_inj.1 (by rw [e]; rfl)]; exact .head _)
   simp only [List.cons_append, idxQ, nbeq, hc, decide_false, cond_false]
   rw [idxQ_some fun hm => h (.tail _ hm)]
   simp only [List.length_cons]
   congr 1
   omega
theorem idxS_spec (hX : LX X) (l : List UInt8) : Call X pm F.ba_IndexByteString [St l, .int .u8 47] H fun r H' => H' = H ∧ r = .int .i64 (idxQ 47 l 0) :=
 Call.over hX.idx (v := .int .i64 (idxQ 47 l 0)) (H' := H) rfl ⟨rfl, rfl⟩
end Go.Dam.C
namespace Go.Dam.C
open Go Go.Dam
variable [Foot]
variable {X : Cx} {pm : Perm} {H H' : Heap}
end Go.Dam.C
namespace Go.Dam.C
open Go Go.Dam
variable {X : Cx} {pm : Perm} {H H' : Heap}
theorem Index_spec (hX : LX X) (l : List UInt8) : Call X pm F.sl_Index [St l, St [47]] H fun r H' => H' = H ∧ r = .int .i64 (idxQ 47 l 0) := by
 refine Call.has hX.sl_Index rfl ?_
 have h : Call X pm F.sl_IndexByte [St l, .int .u8 47] H fun r H' => H' = H ∧ r = .int .i64 (idxQ 47 l 0) := by
  refine Call.has hX.sl_IndexByte rfl ?_
  simp
  refine CallAt.of (by simp) (by simp) (idxS_spec hX l) ?_
  rintro _ _ ⟨rfl, rfl⟩
  simp
 by_cases hl : [47] = l
 · subst hl
   simp
   rfl
 simp [hl]
 refine CallAt.of (by simp) (by simp) h ?_
 rintro _ _ ⟨rfl, rfl⟩
 simp
end Go.Dam.C
namespace Go.Dam.C
open Go Go.Dam
variable [Foot]
variable {X : Cx} {pm : Perm} {H H' : Heap}
end Go.Dam.C
namespace Go.Dam.C
open Go Go.Dam
variable {X : Cx} {pm : Perm} {H H' : Heap}
theorem Cut_none (hX : LX X) {l : List UInt8} (hl : 47 ∉ l) : Call X pm F.ss_Cut [St l, St [47]] H fun r H' => H' = H ∧ r = .tuple #[St l, St [], .bool false] := by
 refine Call.has hX.ss_Cut rfl ?_
 simp
 have h : Call X pm F.sl_Cut [St l, St [47]] H fun r H' => H' = H ∧ r = .tuple #[St l, St [], .bool false] := by
  refine Call.has hX.sl_Cut rfl ?_
  simp
  refine CallAt.of (by simp) (by simp) (Index_spec hX l) ?_
  rintro _ _ ⟨rfl, rfl⟩
  rw [idxQ_none hl]
  simp
 refine CallAt.of (by simp) (by simp) h ?_
 rintro _ _ ⟨rfl, rfl⟩
 simp
end Go.Dam.C
namespace Go.Dam.C
open Go Go.Dam
variable [Foot]
variable {X : Cx} {pm : Perm} {H H' : Heap}
theorem Cut_some (hX : LX X) (ho : Ok pm H) {a b : List UInt8} (ha : 47 ∉ a) (hl : a.length < 1000000) : Call X pm F.ss_Cut [St (a ++ 47 :: b), St [47]] H fun r H' => Keep pm H H' ∧ r = .tuple #[St a, St b, .bool true] := by
 refine Call.has hX.ss_Cut rfl ?_
 simp
 have h : Call X pm F.sl_Cut [St (a ++ 47 :: b), St [47]] H fun r H' => Keep pm H H' ∧ r = .tuple #[St a, St b, .bool true] := by
  refine Call.has hX.sl_Cut rfl ?_
  simp
  refine CallAt.of (by simp) (by simp) (Index_spec hX (a ++ 47 :: b)) ?_
  rintro _ _ ⟨rfl, rfl⟩
  rw [idxQ_some ha]
  have hw : wr .i64 ((a.length : Int) + 1) = ((a.length + 1 : Nat) : Int) := by rw [wr_i64 (by omega) (by omega)]; simp
  simp
  refine DrawAt.calmI ho rfl rfl rfl ?_
  simp [hw]
  exact ⟨(Keep.refl ho).up _, by rw [List.take_of_length_le (by omega)]⟩
 refine CallAt.of (by simp) (by simp) h ?_
 rintro _ _ ⟨k1, rfl⟩
 simp
 exact k1
end Go.Dam.C
namespace Go.Dam.C
open Go Go.Dam
variable [Foot]
variable {X : Cx} {pm : Perm} {H H' : Heap}
end Go.Dam.C
namespace Go.Dam.C
open Go Go.Dam
variable {X : Cx} {pm : Perm} {H H' : Heap}
theorem sz_mkq {neg : Bool} {n d k : Nat} (hn : n < 4294967296 ^ k) (hd : d < 4294967296 ^ k) (hd0 : d ≠ 0) : sz (mkq neg n d) k := by
 have h : (if neg then -(n : Int) else (n : Int)).natAbs = n := by cases neg <;> simp
 unfold mkq
 rw [← Rat.normalize_eq_mkRat hd0, Rat.normalize_eq]
 refine ⟨Nat.lt_of_le_of_lt ?_ hn, Nat.lt_of_le_of_lt (Nat.div_le_self _ _) hd⟩
 conv => rhs; rw [← h]
 exact Int.natAbs_ediv_le_natAbs _ _
theorem wr_u64m {n : Int} : wr .u64 n = n % 18446744073709551616 := by
 rw [wr_eq]
 simp [IntKind.wrap, IntKind.bits, IntKind.signed]
end Go.Dam.C
namespace Go.Dam.C
open Go Go.Dam
variable [Foot]
variable {X : Cx} {pm : Perm} {H H' : Heap}
end Go.Dam.C
namespace Go.Dam.C
open Go Go.Dam
variable {X : Cx} {pm : Perm} {H H' : Heap}
theorem Abs_spec (hX : LX X) {n : Int} (h0 : -9223372036854775808 ≤ n) (h1 : n ≤ 9223372036854775807) : Call X pm F.b_Abs [.int .i64 n] H fun r H' => H' = H ∧ r = .int .u64 ((n.natAbs : Nat) : Int) := by
 refine Call.has hX.b_Abs rfl ?_
 by_cases hn : n < 0
 · have e : wr .u64 (0 - wr .u64 n) = ((n.natAbs : Nat) : Int) := by rw [wr_u64m, wr_u64m]; omega
   have e' : wr .u64 (-wr .u64 n) = ((n.natAbs : Nat) : Int) := by rw [wr_u64m, wr_u64m]; omega
   simp [hn, e']
 · have e : wr .u64 n = ((n.natAbs : Nat) : Int) := by rw [wr_u64m]; omega
   simp [hn, e]
end Go.Dam.C
namespace Go.Dam.C
open Go Go.Dam
variable [Foot]
variable {X : Cx} {pm : Perm} {H H' : Heap}
theorem Of_frac (hX : LX X) (ho : Ok pm H) {n : Int} (h0 : -9223372036854775808 ≤ n) (h1 : n ≤ 9223372036854775807) : Call X pm F.q_Of [.int .i64 n] H fun r H' => Keep pm H H' ∧ IsFrac H' r (n : Rat) := by
 refine Call.has hX.q_Of rfl ?_
 simp
 refine CallAt.of (by simp) (by simp) (Abs_spec hX h0 h1) ?_
 rintro _ _ ⟨rfl, rfl⟩
 simp
 refine CallAt.of (by simp) (by simp) (of_nat hX.toNX ho (x := n.natAbs) (by omega)) ?_
 rintro p1 H1 ⟨k1, hp1⟩
 simp
 refine CallAt.of (by simp) (by simp) (of_nat1 hX.toNX k1.ok) ?_
 rintro p2 H2 ⟨k2, hp2⟩
 have e1 : ∃ a, p1 = .pointer a := by
  rcases hp1.ptr with ⟨h, _⟩ | ⟨a, h⟩
  · exact ⟨_, h⟩
  · exact ⟨_, h⟩
 have e2 : ∃ a, p2 = .pointer a := by
  rcases hp2.ptr with ⟨h, _⟩ | ⟨a, h⟩
  · exact ⟨_, h⟩
  · exact ⟨_, h⟩
 obtain ⟨a1, rfl⟩ := e1
 obtain ⟨a2, rfl⟩ := e2
 simp [k2.ok.make, k2.ok.pick]
 have k3 := (Keep.refl k2.ok).new (Blk.cells [.bool (decide (n < 0)), .pointer a1, .pointer a2] (.t T.q_Of_0))
 refine ⟨k1.trans (k2.trans k3), ⟨.inr ⟨_, _, .pointer a1, .pointer a2, rfl, get_new_next, ?_, ?_, ?_⟩⟩⟩
 · exact ⟨by simp [Rat.intCast_neg_iff], rfl⟩
 · rw [Rat.num_intCast]; exact (hp1.keep k1.ok k2).keep k2.ok k3
 · rw [Rat.den_intCast]; exact hp2.keep k2.ok k3
/-- A fraction's text. -/
def qtext (q : Rat) : List UInt8 := (if q < 0 then [45] else []) ++ (Lib.decDigits q.num.natAbs ++ (if q.den = 1 then [] else 47 :: Lib.decDigits q.den))
end Go.Dam.C
namespace Go.Dam.C
open Go Go.Dam
variable {X : Cx} {pm : Perm} {H H' : Heap}
theorem decVal_dec (n : Nat) : decVal (Lib.decDigits n) = n := by
 induction n using Nat.strongRecOn with
 | _ n ih =>
   by_cases h : n < 10
   · rw [Lib.decDigits_one h]
     have : (48 + n) % 256 = 48 + n := by omega
     simp [decVal, decFrom, this]
   · rw [Lib.decDigits, dif_neg h, decVal_append, ih (n / 10) (by omega)]
     have : (48 + n % 10) % 256 = 48 + n % 10 := by omega
     simp [decVal, decFrom, this]
     omega
end Go.Dam.C
namespace Go.Dam.C
open Go Go.Dam
variable [Foot]
variable {X : Cx} {pm : Perm} {H H' : Heap}
end Go.Dam.C
namespace Go.Dam.C
open Go Go.Dam
variable {X : Cx} {pm : Perm} {H H' : Heap}
theorem dec_inj {n m : Nat} (h : Lib.decDigits n = Lib.decDigits m) : n = m := by rw [← decVal_dec n, h, decVal_dec]
end Go.Dam.C
namespace Go.Dam.C
open Go Go.Dam
variable [Foot]
variable {X : Cx} {pm : Perm} {H H' : Heap}
end Go.Dam.C
namespace Go.Dam.C
open Go Go.Dam
variable {X : Cx} {pm : Perm} {H H' : Heap}
theorem dec_one_iff {n : Nat} : Lib.decDigits n = [49] ↔ n = 1 := by
 have h1 : Lib.decDigits 1 = [49] := by rw [Lib.decDigits_one (by omega)]; rfl
 constructor
 · intro h; rw [← h1] at h; exact dec_inj h
 · rintro rfl; exact h1
end Go.Dam.C
namespace Go.Dam.C
open Go Go.Dam
variable [Foot]
variable {X : Cx} {pm : Perm} {H H' : Heap}
theorem Text_frac (hX : LX X) (ho : Ok pm H) (ht : Tab H) {v : Value} {q : Rat} {k : Nat} (h : IsFrac H v q) (hs : sz q k) (hk1 : 1 ≤ k) (hk : k < 100000000) :
  Call X pm F.q_Text [v] H fun r H' => Keep pm H H' ∧ r = St (qtext q) := by
 refine Call.has hX.q_Text rfl ?_
 simp
 refine CallAt.of (by simp) (by simp) (Parts_spec hX.toNX ho h) ?_
 rintro _ H1 ⟨k1, pn, pd, rfl, hn, hd⟩
 simp
 refine CallAt.of (by simp) (by simp) (Text_spec hX k1.ok (ht.keep ho k1) hn hs.1 hk1 hk) ?_
 rintro _ H2 ⟨k2, rfl⟩
 have ln := dec_len hs.1 hk1
 have ld := dec_len hs.2 hk1
 have k12 := k1.trans k2
 have t2 := ht.keep ho k12
 have hd2 := hd.keep k1.ok k2
 by_cases hq : q < 0
 · simp [hq, nble, show 1 + (Lib.decDigits q.num.natAbs).length ≤ 4294967296 by omega]
   refine CallAt.of (by simp) (by simp) (Text_spec hX k2.ok t2 hd2 hs.2 hk1 hk) ?_
   rintro _ H3 ⟨k3, rfl⟩
   by_cases h1 : q.den = 1
   · have e : Lib.decDigits 1 = [49] := dec_one_iff.2 rfl
     simp [h1, e, qtext, hq]
     exact k12.trans k3
   · have e : Lib.decDigits q.den ≠ [49] := fun h => h1 (dec_one_iff.1 h)
     simp [e, qtext, hq, h1, nble, show 1 + (Lib.decDigits q.den).length ≤ 4294967296 by omega, show (Lib.decDigits q.num.natAbs).length + 1 + ((Lib.decDigits q.den).length + 1) ≤ 4294967296 by omega]
     exact k12.trans k3
 · simp [hq]
   refine CallAt.of (by simp) (by simp) (Text_spec hX k2.ok t2 hd2 hs.2 hk1 hk) ?_
   rintro _ H3 ⟨k3, rfl⟩
   by_cases h1 : q.den = 1
   · have e : Lib.decDigits 1 = [49] := dec_one_iff.2 rfl
     simp [h1, e, qtext, hq]
     exact k12.trans k3
   · have e : Lib.decDigits q.den ≠ [49] := fun h => h1 (dec_one_iff.1 h)
     simp [e, qtext, hq, h1, nble, show 1 + (Lib.decDigits q.den).length ≤ 4294967296 by omega, show (Lib.decDigits q.num.natAbs).length + ((Lib.decDigits q.den).length + 1) ≤ 4294967296 by omega]
     exact k12.trans k3
end Go.Dam.C
namespace Go.Dam.C
open Go Go.Dam
variable [Foot]
variable {X : Cx} {pm : Perm} {H H' : Heap}
def finQ (l : List UInt8) (neg : Bool) (a b : List UInt8) : Option Rat :=
 if good a = true ∧ good b = true ∧ decVal b ≠ 0 ∧ qtext (mkq neg (decVal a) (decVal b)) = l then some (mkq neg (decVal a) (decVal b)) else none
def negT (l : List UInt8) : Bool × List UInt8 := if l.head? = some 45 then (true, l.tail) else (false, l)
def cutT (t : List UInt8) : List UInt8 × List UInt8 := if 47 ∈ t then (t.takeWhile (· != 47), (t.dropWhile (· != 47)).tail) else (t, [49])
def getQ (l : List UInt8) : Option Rat := finQ l (negT l).1 (cutT (negT l).2).1 (cutT (negT l).2).2
def FPost (pm : Perm) (H : Heap) (o : Option Rat) : Post := fun x l' H' => (x = Ex.normal ∨ x = Ex.ret) ∧ ∃ vs, resL l' H' [.slot 2, .slot 3] = some vs ∧ (Keep pm H H' ∧ (o = none ∧ tupOf vs = .tuple #[.pointer none, .bool false] ∨ ∃ q p, o = some q ∧ tupOf vs = .tuple #[p, .bool true] ∧ IsFrac H' p q))
end Go.Dam.C
namespace Go.Dam.C
open Go Go.Dam
variable {X : Cx} {pm : Perm} {H H' : Heap}
theorem good_lt {l : List UInt8} (h : good l = true) : decVal l < 4294967296 ^ l.length ∧ l.length ≤ 2000 ∧ 1 ≤ l.length := by
 unfold good at h
 simp [nble] at h
 refine ⟨Nat.lt_of_lt_of_le (decVal_lt (by rw [List.all_eq_true]; exact h.2.2.2)) (pow10_le _), h.2.1, ?_⟩
 cases l with
 | nil => exact absurd rfl h.1
 | cons => simp
end Go.Dam.C
namespace Go.Dam.C
open Go Go.Dam
variable [Foot]
variable {X : Cx} {pm : Perm} {H H' : Heap}
theorem fin_rest (hX : LX X) {H0 : Heap} (k0 : Keep pm H0 H) (ht : Tab H) {l a b : List UInt8} {neg : Bool} {L : Sl} (l0 : lk 0 L = some (St l)) (l5 : lk 5 L = some (.bool neg)) (l6 : lk 6 L = some (St a)) (l7 : lk 7 L = some (St b)) :
  wp X pm (.code q_Get_k12) L H [] (FPost pm H0 (finQ l neg a b)) := by
 have ho := k0.ok
 simp [l6, -q_Get_k5]
 refine CallAt.of (by simp) (by simp) (Get_nat hX ho (l := a)) ?_
 rintro _ H1 ⟨k1, h1⟩
 rcases h1 with ⟨g1, rfl⟩ | ⟨g1, p1, rfl, hp1⟩
 · simp [l7, -q_Get_k5]
   refine CallAt.of (by simp) (by simp) (Get_nat hX k1.ok (l := b)) ?_
   rintro _ H2 ⟨k2, h2⟩
   rcases h2 with ⟨g2, rfl⟩ | ⟨g2, p2, rfl, hp2⟩ <;>
   · simp [-q_Get_k5]
     refine CallAt.not (by simp) ?_
     simp [FPost, finQ, g1, -q_Get_k5]
     exact k0.trans (k1.trans k2)
 · simp [l7, -q_Get_k5]
   refine CallAt.of (by simp) (by simp) (Get_nat hX k1.ok (l := b)) ?_
   rintro _ H2 ⟨k2, h2⟩
   rcases h2 with ⟨g2, rfl⟩ | ⟨g2, p2, rfl, hp2⟩
   · simp [-q_Get_k5]
     refine CallAt.not (by simp) ?_
     simp [FPost, finQ, g2, -q_Get_k5]
     exact k0.trans (k1.trans k2)
   · have k12 := k1.trans k2
     have hp1' := hp1.keep k1.ok k2
     obtain ⟨ga, la, la1⟩ := good_lt g1
     obtain ⟨gb, lb, lb1⟩ := good_lt g2
     have ga' := pow_le_of ga (Nat.le_add_right a.length b.length)
     have gb' := pow_le_of gb (Nat.le_add_left b.length a.length)
     simp [-q_Get_k5]
     refine CallAt.of (by simp) (by simp) (zero_spec hX.toNX hp2 gb (by omega)) ?_
     rintro _ _ ⟨rfl, rfl⟩
     by_cases h0 : decVal b = 0
     · simp [h0, FPost, finQ, -q_Get_k5]
       exact k0.trans k12
     · simp [h0, l5]
       refine CallAt.of (by simp) (by simp) (sure_spec hX.toNX k2.ok (neg := neg) hp1' hp2 ga' gb' (by omega) h0) ?_
       rintro p3 H3 ⟨k3, hp3⟩
       have k13 := k12.trans k3
       simp
       refine CallAt.of (by simp) (by simp) (Text_frac hX k3.ok (ht.keep ho k13) hp3 (sz_mkq ga' gb' h0) (by omega) (by omega)) ?_
       rintro _ H4 ⟨k4, rfl⟩
       have k14 := k13.trans k4
       by_cases hq : qtext (mkq neg (decVal a) (decVal b)) = l
       · simp [l0, hq, FPost]
         refine ⟨k0.trans k14, _, ?_, hp3.keep k3.ok k4⟩
         simp [finQ, g1, g2, h0, hq]
       · simp [l0, hq, FPost, finQ]
         exact k0.trans k14
theorem Get_frac (hX : LX X) (ho : Ok pm H) (ht : Tab H) {l : List UInt8} (hl : l.length < 1000000) :
  Call X pm F.q_Get [St l] H fun r H' => Keep pm H H' ∧ (getQ l = none ∧ r = .tuple #[.pointer none, .bool false] ∨ ∃ q p, getQ l = some q ∧ r = .tuple #[p, .bool true] ∧ IsFrac H' p q) := by
 refine Call.has hX.q_Get rfl ?_
 show wp X pm (.code q_Get.body) _ H [] (FPost pm H (getQ l))
 have rest : ∀ {L : Sl}, (negT l).2.length ≤ l.length → lk 0 L = some (St l) → lk 4 L = some (St (negT l).2) → lk 5 L = some (.bool (negT l).1) → wp X pm (.code q_Get_k16) L H [] (FPost pm H (getQ l)) := by
  intro L hll l0 l4 l5
  unfold getQ
  generalize hn : negT l = nt at *
  obtain ⟨neg, t⟩ := nt
  simp only at l4 l5 hll
  simp only
  by_cases hm : 47 ∈ t
  · obtain ⟨a, b, rfl, ha⟩ := List.eq_append_cons_of_mem hm
    have hc : cutT (a ++ 47 :: b) = (a, b) := by
     have e1 : ∀ x ∈ a, (x != (47 : UInt8)) = true := fun x hx => by
      simp
      rintro rfl
      exact ha hx
     unfold cutT
     rw [if_pos hm, List.takeWhile_append_of_pos e1, List.dropWhile_append_of_pos e1]
     simp
    rw [hc]
    simp [l4, -q_Get_k12]
    refine CallAt.of (by simp) (by simp) (Cut_some hX ho (a := a) (b := b) ha (by simp at hll; omega)) ?_
    rintro _ H1 ⟨k1, rfl⟩
    simp [-q_Get_k12]
    refine fin_rest hX k1 (ht.keep ho k1) ?_ ?_ ?_ ?_ <;> simp [l0, l5]
  · have hc : cutT t = (t, [49]) := by unfold cutT; rw [if_neg hm]
    rw [hc]
    simp [l4, -q_Get_k12]
    refine CallAt.of (by simp) (by simp) (Cut_none hX (l := t) hm) ?_
    rintro _ H1 ⟨rfl, rfl⟩
    simp [-q_Get_k12]
    refine fin_rest hX (.refl ho) ht ?_ ?_ ?_ ?_ <;> simp [l0, l5]
 simp [-q_Get_k16]
 by_cases hh : l.head? = some 45
 · have hl2 : l = 45 :: l.tail := by
    cases l with
    | nil => cases hh
    | cons c t => simp at hh; subst hh; rfl
   have hn : negT l = (true, l.tail) := by unfold negT; rw [if_pos hh]
   have hc := CutPrefix_yes (X := X) (pm := pm) (H := H) hX 45 l.tail
   rw [← hl2] at hc
   refine CallAt.of (by simp) (by simp) hc ?_
   rintro _ _ ⟨rfl, rfl⟩
   simp [-q_Get_k16]
   refine rest ?_ ?_ ?_ ?_ <;> simp [hn]
 · have hn : negT l = (false, l) := by unfold negT; rw [if_neg hh]
   refine CallAt.of (by simp) (by simp) (CutPrefix_no hX 45 hh) ?_
   rintro _ _ ⟨rfl, rfl⟩
   simp [-q_Get_k16]
   refine rest ?_ ?_ ?_ ?_ <;> simp [hn]
end Go.Dam.C
