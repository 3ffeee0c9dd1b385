/- BasisAll returns true, for every input: the tied card. -/
import Derived.Test.YtedamoknpbihhaaGreatDoorOwn
import Derived.Test.YtedamoknpbihhaaGreatDoorKFacts
import Derived.Test.YtedamoknpbihhaaGreatDoorCards
import Derived.Test.YtedamoknpbihhaaGreatDoorTie
import Derived.ProofKit
import Derived.OpenShut
import Derived.Lay
import Derived.Stop.LaidErr
import Derived.Lib.LaidTab
import Derived.LaidOnce
import Derived.SevenTiedAt
import Derived.Carry
namespace Go.Proofs.YtedamoknpbihhaaGreatDoor
open Go Go.RowKit Go.ChangeShapes Go.WideShapes Go.ChangeAt Go.Dam.C
open Go.ChangeMaps (open_string shut_string)
theorem fname : Tryz.prog.funcNamed "victualler/victuallerlaw14.BasisAll" = some 3 := by kernel_rfl
theorem own : ownKnob Tryz.prog.godebug = none := by kernel_rfl
theorem laidOut : laidOutB Tryz.prog = true := j1
section
variable {H : Type} {enc : TypeId × Value → H} {W : World} {base : Nat} {held : Bool}
theorem strs_in {fuel : Nat} {v : Value} {x : DataW H × List MemPlace} (h : DataW.trod enc Tryz.prog W base (fun _ => true) held fuel 24 [v] = some x) : StrsIn W v := by
 rcases open_strings Tryz.underlying24 Tryz.underlying9 (by kernel_rfl) h with ⟨hcs, _⟩ | ⟨a, len, cap, ss, hcs, _, hl, _, hz, _, hcell, _⟩
 · exact .inl (by simpa using hcs)
 · have hz : ss.length = cap := by simpa using hz
   exact .inr ⟨a, len, cap, fun j => ss.getD j ByteArray.empty, by simpa using hcs, hl, fun j hj => hcell j (by omega)⟩
theorem ints_in {fuel : Nat} {v : Value} {x : DataW H × List MemPlace} (h : DataW.trod enc Tryz.prog W base (fun _ => true) held fuel 23 [v] = some x) : IntsIn W v := by
 rcases open_ints Tryz.underlying23 Tryz.underlying3 (by kernel_rfl) h with ⟨hcs, _⟩ | ⟨a, len, cap, zs, hcs, _, hl, _, hz, _, hcell, hw⟩
 · exact .inl (by simpa using hcs)
 · have hz : zs.length = cap := by simpa using hz
   refine .inr ⟨a, len, cap, fun j => zs.getD j 0, by simpa using hcs, hl, fun j hj => hcell j (by omega), fun j hj => ?_⟩
   have e : zs.getD j 0 = zs[j]'(by omega) := by simp [List.getD, show j < zs.length by omega]
   have h2 := hw _ (List.getElem_mem (show j < zs.length by omega))
   simp only [e]
   simp [Lit.wf, IntKind.min, IntKind.max, IntKind.signed, IntKind.bits] at h2
   omega
theorem cols_in {fuel : Nat} {v : Value} {x : DataW H × List MemPlace} (h : DataW.trod enc Tryz.prog W base (fun _ => true) held fuel 22 [v] = some x) : ColsIn W v := by
 rcases Deep.open_slice1 Tryz.underlying22 (by kernel_rfl) h with ⟨hcs, _⟩ | ⟨a, len, cap, m, n, V, D, Pl, hcs, _, hl, _, hm, _, hx⟩
 · exact .inl (by simpa using hcs)
 · have hm : m = cap := by simpa using hm
   subst hm
   exact .inr ⟨a, len, m, V, by simpa using hcs, hl, fun j hj => (hx j hj).1, fun j hj => strs_in (hx j hj).2⟩
end
set_option maxRecDepth 100000 in
theorem lifted (os : Os) (started : os.Started) (H : Type) (enc : TypeId × Value → H) :
  ReturnsInHanded {} Tryz.checked os 3 .any (fun w args => (Rows.basisAllSpec.pre enc Tryz.prog Tryz.f3 Rows.basisAllRow.domain false w args ∧ laidMetH Tryz.prog Rows.basisAllRow.laid w) ∧ sizedMet enc Tryz.prog Tryz.f3 (OpenSpec.ofChange Rows.basisAllSpec) false w args)
   (Rows.basisAllSpec.post enc Tryz.prog Tryz.f3 false true false false) := by
 refine returnsInHanded_of_change_and (C := Tryz.checked) (X := fun w _ => laidMetH Tryz.prog Rows.basisAllRow.laid w) (fun _ _ _ hh h => h.of_heap hh) own started (by kernel_rfl) Tryz.func3
  (ChangeSpec.witness_shaped (enc := enc) (C := Tryz.checked) (os := os) (X := fun w _ => laidMetH Tryz.prog Rows.basisAllRow.laid w) false (World.laidAll Tryz.prog os Rows.basisAllRow.laid) #[.int .i64 0, .slice none 0 0, .slice none 0 0, .slice none 0 0] 8 (World.laidAll_os _ _ _)
   (World.shaped_of_ZipB (by kernel_rfl) (by kernel_rfl)) (by kernel_rfl) (by kernel_rfl) (by kernel_rfl)
   (by rw [MakeChecks.laidMetH_plain _ _ _ (by kernel_rfl)]; exact laidMet_laidAll _ (by kernel_rfl) (by kernel_rfl))) ?_
 intro W base args ds gs before hval0 hW _ _ hL _
 have hval : ∀ (j : Nat) t v, Tryz.f3.params[j]? = some t → args[j]? = some v → Value.okWide Tryz.prog W .any base t v := hval0
 have hW' := hW
 obtain ⟨p, q, hA0, hV, rfl, _, _⟩ := hW
 have hA : DataW.TrodAll enc Tryz.prog W 0 (fun _ => true) true Tryz.f3.params.toList args.toList ds p := hA0
 rw [Tryz.params3] at hA hval
 obtain ⟨v, v1, v2, v3, d, d1, d2, d3, p0, p1, p2, p3, rfl, rfl, rfl, h0, h1, h2, h3⟩ := trodAll_four hA
 obtain ⟨n, rfl, rfl, rfl, wf⟩ := open_int Tryz.underlying3 (hval 0 3 v rfl rfl) h0
 obtain ⟨rfl, rfl⟩ := trodVars_none hV
 have k1 := h1
 have k2 := h2
 have k3 := h3
 obtain ⟨a1, m1, c1, rfl⟩ := okWide_slice Tryz.underlying22 (hval 1 22 v1 rfl rfl)
 obtain ⟨a2, m2, c2, rfl⟩ := okWide_slice Tryz.underlying23 (hval 2 23 v2 rfl rfl)
 obtain ⟨a3, m3, c3, rfl⟩ := okWide_slice Tryz.underlying24 (hval 3 24 v3 rfl rfl)
 obtain ⟨_, h1⟩ := h1
 obtain ⟨_, h2⟩ := h2
 obtain ⟨_, h3⟩ := h3
 rw [MakeChecks.laidMetH_plain _ _ _ (by kernel_rfl)] at hL
 have hT : Lib.TabIs Tryz.prog W "internal/strconv.uint64pow10" .u64 Dam.Tab.zs10 :=
  Lib.tabIs_of_head (n := 20) Dam.Tab.gname (t := 370) (e := 115) (by kernel_rfl) Tryz.underlying370 Tryz.underlying115 (by kernel_rfl) (by kernel_rfl) (laidMet.tail (laidMet.tail hL))
 have wf' := wf
 simp [Lit.wf, IntKind.min, IntKind.max, IntKind.signed, IntKind.bits] at wf'
 refine (Dam.C.calls_all hT (n := n) (by omega) (by omega) (cols_in h1) (ints_in h2) (strs_in h3)).mono fun e W' ⟨he, hb⟩ => ?_
 subst he
 have hlt : ∀ x, x ∈ p1 ∨ x ∈ p2 ∨ x ∈ p3 → x.block < W.heap.size := fun x hx => hW'.lt x (by simp only [List.mem_append]; rcases hx with h | h | h <;> simp [h])
 exact ⟨_, rfl, _, _, _, [], _, [], hW', trodAll_mk1 (shut_bool Tryz.underlying4 _), trodAll_mk4 (shut_int Tryz.underlying3 wf)
  (Below.trod laidOut (by kernel_rfl) (of_decide_eq_true (by kernel_rfl)) k1 hb fun x hx => hlt x (.inl hx))
  (Below.trod laidOut (by kernel_rfl) (of_decide_eq_true (by kernel_rfl)) k2 hb fun x hx => hlt x (.inr (.inl hx)))
  (Below.trod laidOut (by kernel_rfl) (of_decide_eq_true (by kernel_rfl)) k3 hb fun x hx => hlt x (.inr (.inr hx))), rfl, hb.frame _, fun h => by cases h⟩
theorem said : Rows.BasisAllSaid :=
 OpenClaim.holds_of_wide 3 Tryz.f3 rfl rfl rfl rfl rfl rfl rfl ⟨rfl, rfl, rfl, rfl, rfl⟩ rfl rfl rfl rfl rfl fname Tryz.func3 facts
  (of_decide_eq_true (by kernel_rfl)) (by unfold Func.isWrapper; first | (rw [if_pos (by decide +kernel)]; kernel_rfl) | (rw [if_neg (by decide +kernel)]; exact ⟨rfl, rfl⟩))
  (fun os started H enc _ => lifted os started H enc)
/-- BasisAll: the tied card. -/
theorem card : Rows.BasisAllCardSaid :=
 Claim7.holds_tied_plain_at .later [] _ _ _ _ said (fun _ h => by cases h) (by kernel_rfl) (fun _ h => by cases h) basisAll_row_tie rfl ⟨rfl, rfl⟩ (by kernel_rfl) rfl
  (fun f fn hf hfn => by
   obtain rfl : f = 3 := Option.some.inj (fname.symm.trans hf) |>.symm
   obtain rfl : fn = Tryz.f3 := (Option.some.inj (Tryz.func3.symm.trans hfn)).symm
   refine ⟨by kernel_rfl, fun j t ht => ?_⟩
   rw [Tryz.params3] at ht
   rcases j with _ | _ | _ | _ | j
   · obtain rfl : 3 = t := by simpa using ht
     kernel_rfl
   · obtain rfl : 22 = t := by simpa using ht
     kernel_rfl
   · obtain rfl : 23 = t := by simpa using ht
     kernel_rfl
   · obtain rfl : 24 = t := by simpa using ht
     kernel_rfl
   · simp at ht) goesBy
#print axioms card
end Go.Proofs.YtedamoknpbihhaaGreatDoor
