/- BasisOwn returns true, for every input: the tied card. -/
import Derived.Test.YtimhdfjkbgoncaaGreatDoorOwn
import Derived.Test.YtimhdfjkbgoncaaGreatDoorKFacts
import Derived.Test.YtimhdfjkbgoncaaGreatDoorCards
import Derived.Test.YtimhdfjkbgoncaaGreatDoorTie
import Derived.ProofKit
import Derived.OpenShut
import Derived.Lay
import Derived.Stop.LaidErr
import Derived.Lib.LaidTab
import Derived.LaidOnce
import Derived.SevenTiedAt
namespace Go.Proofs.YtimhdfjkbgoncaaGreatDoor
open Go Go.RowKit Go.ChangeShapes Go.WideShapes Go.ChangeAt
open Go.ChangeMaps (open_string shut_string)
theorem fname : Tryz.prog.funcNamed "victualler/victuallerlaw14.BasisOwn" = some 3 := by kernel_rfl
theorem own : ownKnob Tryz.prog.godebug = none := by kernel_rfl
set_option maxRecDepth 100000 in
theorem lifted (os : Os) (started : os.Started) (H : Type) (enc : TypeId × Value → H) :
    ReturnsInHanded {} Tryz.checked os 3 .any (fun w args => (Rows.basisOwnSpec.pre enc Tryz.prog Tryz.f3 Rows.basisOwnRow.domain false w args ∧ laidMetH Tryz.prog Rows.basisOwnRow.laid w) ∧ sizedMet enc Tryz.prog Tryz.f3 (OpenSpec.ofChange Rows.basisOwnSpec) false w args)
      (Rows.basisOwnSpec.post enc Tryz.prog Tryz.f3 false true false false) := by
  refine returnsInHanded_of_change_and (C := Tryz.checked) (X := fun w _ => laidMetH Tryz.prog Rows.basisOwnRow.laid w) (fun _ _ _ hh h => h.of_heap hh) own started (by kernel_rfl) Tryz.func3
    (ChangeSpec.witness_shaped (enc := enc) (C := Tryz.checked) (os := os) (X := fun w _ => laidMetH Tryz.prog Rows.basisOwnRow.laid w) false (World.laidAll Tryz.prog os Rows.basisOwnRow.laid) #[.int .i64 0, .string ⟨#[]⟩] 8 (World.laidAll_os _ _ _)
      (World.shaped_of_ZipB (by kernel_rfl) (by kernel_rfl)) (by kernel_rfl) (by kernel_rfl) (by kernel_rfl)
      (by rw [MakeChecks.laidMetH_plain _ _ _ (by kernel_rfl)]; exact laidMet_laidAll _ (by kernel_rfl) (by kernel_rfl))) ?_
  intro W base args ds gs before hval0 hW _ _ hL _
  have hval : ∀ (j : Nat) t v, Tryz.f3.params[j]? = some t → args[j]? = some v → Value.okWide Tryz.prog W .any base t v := hval0
  have hW' := hW
  obtain ⟨p, q, hA0, hV, rfl, _, _⟩ := hW
  have hA : DataW.TrodAll enc Tryz.prog W 0 (fun _ => true) true Tryz.f3.params.toList args.toList ds p := hA0
  rw [Tryz.params3] at hA hval
  obtain ⟨v, v', d, d', p1, p2, rfl, rfl, rfl, h1, h2⟩ := trodAll_two hA
  obtain ⟨n, rfl, rfl, rfl, wf⟩ := open_int Tryz.underlying3 (hval 0 3 v rfl rfl) h1
  obtain ⟨s, rfl, rfl, rfl, ws⟩ := open_string Tryz.underlying9 (hval 1 9 v' rfl rfl) h2
  obtain ⟨rfl, rfl⟩ := trodVars_none hV
  rw [MakeChecks.laidMetH_plain _ _ _ (by kernel_rfl)] at hL
  have hT : Lib.TabIs Tryz.prog W "internal/strconv.uint64pow10" .u64 Dam.Tab.zs10 :=
    Lib.tabIs_of_head (n := 20) Dam.Tab.gname (t := 362) (e := 73) (by kernel_rfl) Tryz.underlying362 Tryz.underlying73 (by kernel_rfl) (by kernel_rfl) (laidMet.tail (laidMet.tail hL))
  have wf' := wf
  simp [Lit.wf, IntKind.min, IntKind.max, IntKind.signed, IntKind.bits] at wf'
  refine (Dam.C.calls_own hT (n := n) (by omega) (by omega) s).mono fun e W' ⟨he, hb⟩ => ?_
  subst he
  exact ⟨_, rfl, _, _, _, [], [], [], hW', trodAll_mk1 (shut_bool Tryz.underlying4 _), trodAll_mk2 (shut_int Tryz.underlying3 wf) (shut_string Tryz.underlying9 ws), rfl, hb.frame _, fun h => by cases h⟩
theorem said : Rows.BasisOwnSaid :=
  OpenClaim.holds_of_wide 3 Tryz.f3 rfl rfl rfl rfl rfl rfl rfl ⟨rfl, rfl, rfl, rfl, rfl⟩ rfl rfl rfl rfl rfl fname Tryz.func3 facts
    (of_decide_eq_true (by kernel_rfl)) (by unfold Func.isWrapper; first | (rw [if_pos (by decide +kernel)]; kernel_rfl) | (rw [if_neg (by decide +kernel)]; exact ⟨rfl, rfl⟩))
    (fun os started H enc _ => lifted os started H enc)
/-- BasisOwn: the tied card. -/
theorem card : Rows.BasisOwnCardSaid :=
  Claim7.holds_tied_plain_at .later [] _ _ _ _ said (fun _ h => by cases h) (by kernel_rfl) (fun _ h => by cases h) basisOwn_row_tie rfl ⟨rfl, rfl⟩ (by kernel_rfl) rfl
    (fun f fn hf hfn => by
      obtain rfl : f = 3 := Option.some.inj (fname.symm.trans hf) |>.symm
      obtain rfl : fn = Tryz.f3 := (Option.some.inj (Tryz.func3.symm.trans hfn)).symm
      refine ⟨by kernel_rfl, fun j t ht => ?_⟩
      rw [Tryz.params3] at ht
      rcases j with _ | _ | j
      · obtain rfl : 3 = t := by simpa using ht
        kernel_rfl
      · obtain rfl : 9 = t := by simpa using ht
        kernel_rfl
      · simp at ht) goesBy
#print axioms card
end Go.Proofs.YtimhdfjkbgoncaaGreatDoor
