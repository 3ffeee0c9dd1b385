/- The evaluators are sound. -/
import Derived.Test.YtedamoknpbihhaaGreatDoorKTop
import Derived.Test.YtedamoknpbihhaaGreatDoorTabOk
import Derived.Test.YtedamoknpbihhaaGreatDoorSnd
namespace Go.Dam.Tab
open Go Go.Dam Go.Proofs Go.Proofs.YtedamoknpbihhaaGreatDoor
set_option maxRecDepth 1000000
theorem okNil {K : Orc} {f : Nat} : ∀ E ∈ ([] : List Ent), E.ok K f = true := fun _ h => by cases h
theorem okCons {K : Orc} {f : Nat} {E : Ent} {l : List Ent} (h : E.ok K f = true) (t : ∀ F ∈ l, F.ok K f = true) : ∀ F ∈ E :: l, F.ok K f = true := fun F hF => (List.mem_cons.1 hF).elim (fun e => e ▸ h) (t F)
theorem okBif {K : Orc} {f : Nat} (a : Nat) {l r : List Ent} (h : ∀ E ∈ l, E.ok K a = true) (t : ∀ E ∈ r, E.ok K f = true) : ∀ E ∈ (bif Nat.beq f a then l else r), E.ok K f = true := by
 intro E hE
 rw [nbeq] at hE
 by_cases hfa : f = a
 · subst hfa
   simp only [decide_true, cond_true] at hE
   exact h E hE
 · simp only [hfa, decide_false, cond_false] at hE
   exact t E hE
theorem memo1_ok (f : Nat) : ∀ E ∈ (memo1 f).o, E.ok K0 f = true := (okBif 262 (okCons e141ok okNil) (okBif 261 (okCons e138ok okNil) (okBif 138 (okCons e137ok okNil) (okBif 128 (okCons e62ok okNil) (okBif 97 (okCons e17ok okNil) (okBif 96 (okCons e103ok (okCons e117ok okNil)) (okBif 82 (okCons e101ok (okCons e102ok (okCons e113ok (okCons e116ok okNil)))) (okBif 44 (okCons e6ok (okCons e14ok (okCons e26ok (okCons e32ok (okCons e34ok (okCons e40ok (okCons e50ok (okCons e56ok (okCons e58ok (okCons e65ok (okCons e67ok (okCons e73ok (okCons e75ok (okCons e78ok (okCons e82ok (okCons e85ok (okCons e88ok (okCons e91ok (okCons e123ok (okCons e127ok (okCons e133ok (okCons e150ok okNil)))))))))))))))))))))) (okBif 43 (okCons e11ok (okCons e23ok (okCons e47ok (okCons e74ok (okCons e76ok (okCons e87ok (okCons e124ok (okCons e125ok (okCons e128ok (okCons e134ok (okCons e135ok (okCons e148ok okNil)))))))))))) (okBif 42 (okCons e12ok (okCons e16ok (okCons e18ok (okCons e24ok (okCons e28ok (okCons e29ok (okCons e48ok (okCons e71ok (okCons e72ok (okCons e120ok (okCons e121ok (okCons e130ok (okCons e131ok (okCons e132ok okNil)))))))))))))) (okBif 41 (okCons e7ok (okCons e8ok (okCons e13ok (okCons e25ok (okCons e27ok (okCons e33ok (okCons e35ok (okCons e41ok (okCons e42ok (okCons e49ok (okCons e51ok (okCons e57ok (okCons e59ok (okCons e68ok (okCons e69ok (okCons e70ok (okCons e79ok (okCons e83ok (okCons e84ok (okCons e86ok (okCons e89ok (okCons e92ok (okCons e108ok (okCons e109ok (okCons e136ok (okCons e147ok (okCons e151ok okNil))))))))))))))))))))))))))) (okBif 40 (okCons e10ok (okCons e22ok (okCons e31ok (okCons e36ok (okCons e64ok (okCons e66ok (okCons e77ok (okCons e80ok (okCons e81ok (okCons e90ok (okCons e122ok (okCons e126ok (okCons e129ok (okCons e149ok okNil)))))))))))))) (okBif 33 (okCons e0ok (okCons e1ok (okCons e3ok (okCons e4ok (okCons e61ok (okCons e93ok (okCons e95ok (okCons e97ok (okCons e99ok (okCons e100ok (okCons e105ok (okCons e107ok (okCons e114ok (okCons e115ok (okCons e118ok okNil))))))))))))))) (okBif 25 (okCons e5ok (okCons e15ok (okCons e63ok (okCons e119ok okNil)))) (okBif 17 (okCons e2ok (okCons e9ok (okCons e19ok (okCons e20ok (okCons e21ok (okCons e30ok (okCons e37ok (okCons e45ok (okCons e46ok (okCons e52ok (okCons e53ok (okCons e110ok (okCons e111ok (okCons e146ok (okCons e152ok okNil))))))))))))))) (okBif 8 (okCons e38ok (okCons e39ok (okCons e43ok (okCons e44ok (okCons e54ok (okCons e55ok (okCons e60ok (okCons e94ok (okCons e96ok (okCons e98ok (okCons e104ok (okCons e106ok (okCons e112ok (okCons e140ok (okCons e142ok (okCons e143ok (okCons e144ok (okCons e145ok (okCons e153ok okNil))))))))))))))))))) okNil))))))))))))))))
theorem memo2_ok (f : Nat) : ∀ E ∈ (memo2 f).o, E.ok K1 f = true := (okBif 126 (okCons e174ok okNil) (okBif 125 (okCons e173ok okNil) (okBif 124 (okCons e172ok okNil) (okBif 123 (okCons e171ok okNil) (okBif 121 (okCons e169ok okNil) (okBif 120 (okCons e168ok okNil) (okBif 119 (okCons e166ok okNil) (okBif 118 (okCons e165ok okNil) (okBif 117 (okCons e164ok okNil) (okBif 116 (okCons e163ok okNil) (okBif 115 (okCons e162ok okNil) (okBif 114 (okCons e161ok (okCons e167ok okNil)) (okBif 31 (okCons e156ok (okCons e178ok okNil)) (okBif 30 (okCons e177ok okNil) (okBif 29 (okCons e176ok okNil) (okBif 28 (okCons e175ok okNil) (okBif 26 (okCons e160ok okNil) (okBif 24 (okCons e159ok okNil) (okBif 23 (okCons e158ok okNil) (okBif 21 (okCons e155ok okNil) (okBif 20 (okCons e154ok (okCons e157ok okNil)) okNil)))))))))))))))))))))
def noO : OpqT := ⟨fun _ _ _ _ => False, fun h _ => h.elim⟩
theorem mixed : Tryz.prog.follows .mixedOrders = true := by kernel_rfl
theorem table0 : TableOk Tryz.prog noG T0 := by
 intro f F h
 have := tab_ok.get (k := f) (F := F) h
 rwa [Nat.one_mul, Nat.zero_add] at this
theorem tableG : TableOk Tryz.prog oneG TG := by
 intro f F h
 have := tabG_ok.get (k := f) (F := F) h
 rwa [Nat.one_mul, Nat.zero_add] at this
theorem S0_sound {G : Nat → Bool} {K : Orc} (hK : SoundK noO Tryz.prog G K) : SoundK noO Tryz.prog G (S0 K) := by
 have h := over_sound hK (ov := fun f => (ovC f).o) (fun f g hg => by
  simp only [ovC, nbeq] at hg
  by_cases h1 : f = 343
  · subst h1; simp only [decide_true, cond_true, Option.some.injEq] at hg; subst hg; exact gIdx_sound
  simp only [h1, decide_false, cond_false] at hg
  by_cases h2 : f = 218
  · subst h2; simp only [decide_true, cond_true, Option.some.injEq] at hg; subst hg; exact gCheck_sound
  simp only [h2, decide_false, cond_false] at hg
  by_cases h3 : f = 250
  · subst h3; simp only [decide_true, cond_true, Option.some.injEq] at hg; subst hg; exact gJoin_sound
  simp only [h3, decide_false, cond_false] at hg
  by_cases h4 : f = 145
  · subst h4; simp only [decide_true, cond_true, Option.some.injEq] at hg; subst hg; exact gStr_sound
  simp only [h4, decide_false, cond_false, reduceCtorEq] at hg)
 have e : S0 K = fun lo f args H => match (ovC f).o with | some g => g lo args H | none => K lo f args H := by
  funext lo f args H
  show @Option.rec _ (fun _ => Option (Value × Heap)) (K lo f args H) (fun g => g lo args H) (ovC f).o = _
  cases (ovC f).o <;> rfl
 rw [e]
 exact h
theorem memoS_sound {G : Nat → Bool} {Kb : Orc} (hKb : SoundK noO Tryz.prog noG Kb) {memo : Nat → MC} (hm : ∀ f, ∀ E ∈ (memo f).o, E.ok Kb f = true) {S : Orc → Orc} (hS : ∀ K, SoundK noO Tryz.prog G K → SoundK noO Tryz.prog G (S K)) : ∀ K, SoundK noO Tryz.prog G K → SoundK noO Tryz.prog G (memoS memo S K) := by
 intro K hK
 have h := memo_orc_sound (hS K hK) hKb (memo := fun f => (memo f).o) hm
 have e : memoS memo S K = fun lo f args H => match (memo f).o with | [] => S K lo f args H | es => (match Ent.apply es args H with | some r => some r | none => S K lo f args H) := by
  funext lo f args H
  show @List.rec Ent (fun _ => Option (Value × Heap)) (S K lo f args H) (fun _ _ _ => @Option.rec (Value × Heap) (fun _ => Option (Value × Heap)) (S K lo f args H) (fun r => some r) (Ent.apply (memo f).o args H)) (memo f).o = _
  cases hq : (memo f).o with
  | nil => rfl
  | cons E l =>
    show @Option.rec (Value × Heap) (fun _ => Option (Value × Heap)) (S K lo f args H) (fun r => some r) (Ent.apply (E :: l) args H) = (match Ent.apply (E :: l) args H with | some r => some r | none => S K lo f args H)
    cases Ent.apply (E :: l) args H <;> rfl
 rw [e]
 exact h
theorem K0_sound : SoundK noO Tryz.prog noG K0 := by
 unfold K0
 rw [runF_eq]
 exact runK_sound (draw_ok mixed) table0 (fun K hK => S0_sound hK) 40
theorem K1_sound : SoundK noO Tryz.prog noG K1 := by
 unfold K1
 rw [runF_eq]
 exact runK_sound (draw_ok mixed) table0 (memoS_sound K0_sound memo1_ok fun K hK => S0_sound hK) 40
theorem K2_sound : SoundK noO Tryz.prog oneG K2 := by
 unfold K2
 rw [runF_eq]
 exact runK_sound (draw_ok mixed) tableG (memoS_sound K1_sound memo2_ok (memoS_sound K0_sound memo1_ok fun K hK => S0_sound hK)) 60
end Go.Dam.Tab
