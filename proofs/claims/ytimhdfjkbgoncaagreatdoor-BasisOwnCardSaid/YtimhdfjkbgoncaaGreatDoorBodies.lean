/- The bodies are the program. -/
import Derived.Test.YtimhdfjkbgoncaaGreatDoorOvrTwo
import Derived.Test.YtimhdfjkbgoncaaGreatDoorTabOk
namespace Go.Dam.C
open Go Go.Dam Go.Proofs Go.RowKit Go.Dam.Tab
set_option maxRecDepth 1000000
theorem ok_n_Of : OkAt Tryz.prog oneG 32 C.n_Of := okAt_of Tryz.func32 (by kernel_rfl) (by kernel_rfl) (by kernel_rfl)
theorem ok_n_of : OkAt Tryz.prog oneG 76 C.n_of := okAt_of Tryz.func76 (by kernel_rfl) (by kernel_rfl) (by kernel_rfl)
theorem ok_n_at : OkAt Tryz.prog oneG 127 C.n_at := okAt_of Tryz.func127 (by kernel_rfl) (by kernel_rfl) (by kernel_rfl)
theorem ok_n_digits : OkAt Tryz.prog oneG 82 C.n_digits := okAt_of Tryz.func82 (by kernel_rfl) (by kernel_rfl) (by kernel_rfl)
theorem ok_n_Cmp : OkAt Tryz.prog oneG 77 C.n_Cmp := okAt_of Tryz.func77 (by kernel_rfl) (by kernel_rfl) (by kernel_rfl)
theorem ok_n_Add : OkAt Tryz.prog oneG 125 C.n_Add := okAt_of Tryz.func125 (by kernel_rfl) (by kernel_rfl) (by kernel_rfl)
theorem ok_n_Less : OkAt Tryz.prog oneG 128 C.n_Less := okAt_of Tryz.func128 (by kernel_rfl) (by kernel_rfl) (by kernel_rfl)
theorem ok_n_Mul : OkAt Tryz.prog oneG 79 C.n_Mul := okAt_of Tryz.func79 (by kernel_rfl) (by kernel_rfl) (by kernel_rfl)
theorem ok_n_Bits : OkAt Tryz.prog oneG 75 C.n_Bits := okAt_of Tryz.func75 (by kernel_rfl) (by kernel_rfl) (by kernel_rfl)
theorem ok_n_Twos : OkAt Tryz.prog oneG 250 C.n_Twos := okAt_of Tryz.func250 (by kernel_rfl) (by kernel_rfl) (by kernel_rfl)
theorem ok_n_Word : OkAt Tryz.prog oneG 199 C.n_Word := okAt_of Tryz.func199 (by kernel_rfl) (by kernel_rfl) (by kernel_rfl)
theorem ok_n_up : OkAt Tryz.prog oneG 202 C.n_up := okAt_of Tryz.func202 (by kernel_rfl) (by kernel_rfl) (by kernel_rfl)
theorem ok_n_down : OkAt Tryz.prog oneG 204 C.n_down := okAt_of Tryz.func204 (by kernel_rfl) (by kernel_rfl) (by kernel_rfl)
theorem ok_n_short : OkAt Tryz.prog oneG 83 C.n_short := okAt_of Tryz.func83 (by kernel_rfl) (by kernel_rfl) (by kernel_rfl)
theorem ok_n_step : OkAt Tryz.prog oneG 203 C.n_step := okAt_of Tryz.func203 (by kernel_rfl) (by kernel_rfl) (by kernel_rfl)
theorem ok_n_Div : OkAt Tryz.prog oneG 130 C.n_Div := okAt_of Tryz.func130 (by kernel_rfl) (by kernel_rfl) (by kernel_rfl)
theorem ok_n_common : OkAt Tryz.prog oneG 200 C.n_common := okAt_of Tryz.func200 (by kernel_rfl) (by kernel_rfl) (by kernel_rfl)
theorem ok_n_shifts : OkAt Tryz.prog oneG 201 C.n_shifts := okAt_of Tryz.func201 (by kernel_rfl) (by kernel_rfl) (by kernel_rfl)
theorem ok_n_Gcd : OkAt Tryz.prog oneG 129 C.n_Gcd := okAt_of Tryz.func129 (by kernel_rfl) (by kernel_rfl) (by kernel_rfl)
theorem ok_n_Text : OkAt Tryz.prog oneG 40 C.n_Text := okAt_of Tryz.func40 (by kernel_rfl) (by kernel_rfl) (by kernel_rfl)
theorem ok_n_Get : OkAt Tryz.prog oneG 73 C.n_Get := okAt_of Tryz.func73 (by kernel_rfl) (by kernel_rfl) (by kernel_rfl)
theorem ok_b_Len : OkAt Tryz.prog oneG 126 C.b_Len := okAt_of Tryz.func126 (by kernel_rfl) (by kernel_rfl) (by kernel_rfl)
theorem ok_b_Zeros : OkAt Tryz.prog oneG 332 C.b_Zeros := okAt_of Tryz.func332 (by kernel_rfl) (by kernel_rfl) (by kernel_rfl)
theorem ok_b_Abs : OkAt Tryz.prog oneG 33 C.b_Abs := okAt_of Tryz.func33 (by kernel_rfl) (by kernel_rfl) (by kernel_rfl)
theorem ok_q_zero : OkAt Tryz.prog oneG 31 C.q_zero := okAt_of Tryz.func31 (by kernel_rfl) (by kernel_rfl) (by kernel_rfl)
theorem ok_q_Parts : OkAt Tryz.prog oneG 30 C.q_Parts := okAt_of Tryz.func30 (by kernel_rfl) (by kernel_rfl) (by kernel_rfl)
theorem ok_q_New : OkAt Tryz.prog oneG 80 C.q_New := okAt_of Tryz.func80 (by kernel_rfl) (by kernel_rfl) (by kernel_rfl)
theorem ok_q_Of : OkAt Tryz.prog oneG 9 C.q_Of := okAt_of Tryz.func9 (by kernel_rfl) (by kernel_rfl) (by kernel_rfl)
theorem ok_q_sure : OkAt Tryz.prog oneG 74 C.q_sure := okAt_of Tryz.func74 (by kernel_rfl) (by kernel_rfl) (by kernel_rfl)
theorem ok_q_Text : OkAt Tryz.prog oneG 13 C.q_Text := okAt_of Tryz.func13 (by kernel_rfl) (by kernel_rfl) (by kernel_rfl)
theorem ok_q_Get : OkAt Tryz.prog oneG 29 C.q_Get := okAt_of Tryz.func29 (by kernel_rfl) (by kernel_rfl) (by kernel_rfl)
theorem ok_q_signed : OkAt Tryz.prog oneG 78 C.q_signed := okAt_of Tryz.func78 (by kernel_rfl) (by kernel_rfl) (by kernel_rfl)
theorem ok_q_Add : OkAt Tryz.prog oneG 34 C.q_Add := okAt_of Tryz.func34 (by kernel_rfl) (by kernel_rfl) (by kernel_rfl)
theorem ok_q_Neg : OkAt Tryz.prog oneG 81 C.q_Neg := okAt_of Tryz.func81 (by kernel_rfl) (by kernel_rfl) (by kernel_rfl)
theorem ok_q_Sub : OkAt Tryz.prog oneG 36 C.q_Sub := okAt_of Tryz.func36 (by kernel_rfl) (by kernel_rfl) (by kernel_rfl)
theorem ok_q_Mul : OkAt Tryz.prog oneG 37 C.q_Mul := okAt_of Tryz.func37 (by kernel_rfl) (by kernel_rfl) (by kernel_rfl)
theorem ok_q_Div : OkAt Tryz.prog oneG 35 C.q_Div := okAt_of Tryz.func35 (by kernel_rfl) (by kernel_rfl) (by kernel_rfl)
theorem ok_q_Cmp : OkAt Tryz.prog oneG 14 C.q_Cmp := okAt_of Tryz.func14 (by kernel_rfl) (by kernel_rfl) (by kernel_rfl)
theorem ok_q_Sign : OkAt Tryz.prog oneG 8 C.q_Sign := okAt_of Tryz.func8 (by kernel_rfl) (by kernel_rfl) (by kernel_rfl)
theorem ok_q_Floor : OkAt Tryz.prog oneG 251 C.q_Floor := okAt_of Tryz.func251 (by kernel_rfl) (by kernel_rfl) (by kernel_rfl)
theorem ok_q_Whole : OkAt Tryz.prog oneG 116 C.q_Whole := okAt_of Tryz.func116 (by kernel_rfl) (by kernel_rfl) (by kernel_rfl)
theorem ok_ss_Cut : OkAt Tryz.prog oneG 72 C.ss_Cut := okAt_of Tryz.func72 (by kernel_rfl) (by kernel_rfl) (by kernel_rfl)
theorem ok_ss_CutPrefix : OkAt Tryz.prog oneG 71 C.ss_CutPrefix := okAt_of Tryz.func71 (by kernel_rfl) (by kernel_rfl) (by kernel_rfl)
theorem ok_sl_Cut : OkAt Tryz.prog oneG 122 C.sl_Cut := okAt_of Tryz.func122 (by kernel_rfl) (by kernel_rfl) (by kernel_rfl)
theorem ok_sl_CutPrefix : OkAt Tryz.prog oneG 121 C.sl_CutPrefix := okAt_of Tryz.func121 (by kernel_rfl) (by kernel_rfl) (by kernel_rfl)
theorem ok_sl_HasPrefix : OkAt Tryz.prog oneG 188 C.sl_HasPrefix := okAt_of Tryz.func188 (by kernel_rfl) (by kernel_rfl) (by kernel_rfl)
theorem ok_sl_Index : OkAt Tryz.prog oneG 189 C.sl_Index := okAt_of Tryz.func189 (by kernel_rfl) (by kernel_rfl) (by kernel_rfl)
theorem ok_sl_IndexByte : OkAt Tryz.prog oneG 263 C.sl_IndexByte := okAt_of Tryz.func263 (by kernel_rfl) (by kernel_rfl) (by kernel_rfl)
theorem ok_l_Text : OkAt Tryz.prog oneG 7 C.l_Text := okAt_of Tryz.func7 (by kernel_rfl) (by kernel_rfl) (by kernel_rfl)
theorem ok_l_F : OkAt Tryz.prog oneG 6 C.l_F := okAt_of Tryz.func6 (by kernel_rfl) (by kernel_rfl) (by kernel_rfl)
theorem ok_a_New : OkAt Tryz.prog oneG 5 C.a_New := okAt_of Tryz.func5 (by kernel_rfl) (by kernel_rfl) (by kernel_rfl)
theorem ok_a_units : OkAt Tryz.prog oneG 28 C.a_units := okAt_of Tryz.func28 (by kernel_rfl) (by kernel_rfl) (by kernel_rfl)
theorem ok_a_dot : OkAt Tryz.prog oneG 39 C.a_dot := okAt_of Tryz.func39 (by kernel_rfl) (by kernel_rfl) (by kernel_rfl)
theorem ok_a_Put : OkAt Tryz.prog oneG 10 C.a_Put := okAt_of Tryz.func10 (by kernel_rfl) (by kernel_rfl) (by kernel_rfl)
theorem ok_a_Col : OkAt Tryz.prog oneG 11 C.a_Col := okAt_of Tryz.func11 (by kernel_rfl) (by kernel_rfl) (by kernel_rfl)
theorem ok_a_Solve : OkAt Tryz.prog oneG 12 C.a_Solve := okAt_of Tryz.func12 (by kernel_rfl) (by kernel_rfl) (by kernel_rfl)
theorem ok_a_Size : OkAt Tryz.prog oneG 15 C.a_Size := okAt_of Tryz.func15 (by kernel_rfl) (by kernel_rfl) (by kernel_rfl)
theorem ok_s_CloneF : OkAt Tryz.prog oneG 38 C.s_CloneF := okAt_of Tryz.func38 (by kernel_rfl) (by kernel_rfl) (by kernel_rfl)
theorem ok_l_BasisOwn : OkAt Tryz.prog oneG 3 C.l_BasisOwn := okAt_of Tryz.func3 (by kernel_rfl) (by kernel_rfl) (by kernel_rfl)
def bodies (f : Nat) : Option DFunc := (bif Nat.beq f 32 then some C.n_Of else (bif Nat.beq f 76 then some C.n_of else (bif Nat.beq f 127 then some C.n_at else (bif Nat.beq f 82 then some C.n_digits else (bif Nat.beq f 77 then some C.n_Cmp else (bif Nat.beq f 125 then some C.n_Add else (bif Nat.beq f 128 then some C.n_Less else (bif Nat.beq f 79 then some C.n_Mul else (bif Nat.beq f 75 then some C.n_Bits else (bif Nat.beq f 250 then some C.n_Twos else (bif Nat.beq f 199 then some C.n_Word else (bif Nat.beq f 202 then some C.n_up else (bif Nat.beq f 204 then some C.n_down else (bif Nat.beq f 83 then some C.n_short else (bif Nat.beq f 203 then some C.n_step else (bif Nat.beq f 130 then some C.n_Div else (bif Nat.beq f 200 then some C.n_common else (bif Nat.beq f 201 then some C.n_shifts else (bif Nat.beq f 129 then some C.n_Gcd else (bif Nat.beq f 40 then some C.n_Text else (bif Nat.beq f 73 then some C.n_Get else (bif Nat.beq f 126 then some C.b_Len else (bif Nat.beq f 332 then some C.b_Zeros else (bif Nat.beq f 33 then some C.b_Abs else (bif Nat.beq f 31 then some C.q_zero else (bif Nat.beq f 30 then some C.q_Parts else (bif Nat.beq f 80 then some C.q_New else (bif Nat.beq f 9 then some C.q_Of else (bif Nat.beq f 74 then some C.q_sure else (bif Nat.beq f 13 then some C.q_Text else (bif Nat.beq f 29 then some C.q_Get else (bif Nat.beq f 78 then some C.q_signed else (bif Nat.beq f 34 then some C.q_Add else (bif Nat.beq f 81 then some C.q_Neg else (bif Nat.beq f 36 then some C.q_Sub else (bif Nat.beq f 37 then some C.q_Mul else (bif Nat.beq f 35 then some C.q_Div else (bif Nat.beq f 14 then some C.q_Cmp else (bif Nat.beq f 8 then some C.q_Sign else (bif Nat.beq f 251 then some C.q_Floor else (bif Nat.beq f 116 then some C.q_Whole else (bif Nat.beq f 72 then some C.ss_Cut else (bif Nat.beq f 71 then some C.ss_CutPrefix else (bif Nat.beq f 122 then some C.sl_Cut else (bif Nat.beq f 121 then some C.sl_CutPrefix else (bif Nat.beq f 188 then some C.sl_HasPrefix else (bif Nat.beq f 189 then some C.sl_Index else (bif Nat.beq f 263 then some C.sl_IndexByte else (bif Nat.beq f 7 then some C.l_Text else (bif Nat.beq f 6 then some C.l_F else (bif Nat.beq f 5 then some C.a_New else (bif Nat.beq f 28 then some C.a_units else (bif Nat.beq f 39 then some C.a_dot else (bif Nat.beq f 10 then some C.a_Put else (bif Nat.beq f 11 then some C.a_Col else (bif Nat.beq f 12 then some C.a_Solve else (bif Nat.beq f 15 then some C.a_Size else (bif Nat.beq f 38 then some C.s_CloneF else (bif Nat.beq f 3 then some C.l_BasisOwn else none)))))))))))))))))))))))))))))))))))))))))))))))))))))))))))
theorem bif_ok {f k : Nat} {D F : DFunc} {r : Option DFunc} (hk : OkAt Tryz.prog oneG k D) (hr : r = some F → OkAt Tryz.prog oneG f F) (h : (bif Nat.beq f k then some D else r) = some F) : OkAt Tryz.prog oneG f F := by
  rw [nbeq] at h
  by_cases hf : f = k
  · subst hf
    simp only [decide_true, cond_true, Option.some.injEq] at h
    exact h ▸ hk
  · simp only [hf, decide_false, cond_false] at h
    exact hr h
theorem bodies_ok : TableOk Tryz.prog oneG bodies := by
  intro f F h
  unfold bodies at h
  exact (bif_ok ok_n_Of (bif_ok ok_n_of (bif_ok ok_n_at (bif_ok ok_n_digits (bif_ok ok_n_Cmp (bif_ok ok_n_Add (bif_ok ok_n_Less (bif_ok ok_n_Mul (bif_ok ok_n_Bits (bif_ok ok_n_Twos (bif_ok ok_n_Word (bif_ok ok_n_up (bif_ok ok_n_down (bif_ok ok_n_short (bif_ok ok_n_step (bif_ok ok_n_Div (bif_ok ok_n_common (bif_ok ok_n_shifts (bif_ok ok_n_Gcd (bif_ok ok_n_Text (bif_ok ok_n_Get (bif_ok ok_b_Len (bif_ok ok_b_Zeros (bif_ok ok_b_Abs (bif_ok ok_q_zero (bif_ok ok_q_Parts (bif_ok ok_q_New (bif_ok ok_q_Of (bif_ok ok_q_sure (bif_ok ok_q_Text (bif_ok ok_q_Get (bif_ok ok_q_signed (bif_ok ok_q_Add (bif_ok ok_q_Neg (bif_ok ok_q_Sub (bif_ok ok_q_Mul (bif_ok ok_q_Div (bif_ok ok_q_Cmp (bif_ok ok_q_Sign (bif_ok ok_q_Floor (bif_ok ok_q_Whole (bif_ok ok_ss_Cut (bif_ok ok_ss_CutPrefix (bif_ok ok_sl_Cut (bif_ok ok_sl_CutPrefix (bif_ok ok_sl_HasPrefix (bif_ok ok_sl_Index (bif_ok ok_sl_IndexByte (bif_ok ok_l_Text (bif_ok ok_l_F (bif_ok ok_a_New (bif_ok ok_a_units (bif_ok ok_a_dot (bif_ok ok_a_Put (bif_ok ok_a_Col (bif_ok ok_a_Solve (bif_ok ok_a_Size (bif_ok ok_s_CloneF (bif_ok ok_l_BasisOwn (fun h => by cases h)))))))))))))))))))))))))))))))))))))))))))))))))))))))))))) h
def over (f : Nat) : Option Ovr := bif Nat.beq f 338 then some C.gIdx else bif Nat.beq f 84 then some gFmt else bif Nat.beq f 85 then some gRep else bif Nat.beq f 123 then some gTrim else bif Nat.beq f 124 then some gParse else bif Nat.beq f 4 then some gBegun else none
def theX : Cx := ⟨bodies, over⟩
theorem over_ok (f : Nat) (g : Ovr) (h : over f = some g) : SoundF tabO Tryz.prog oneG f g := by
  unfold over at h
  simp only [nbeq] at h
  by_cases h1 : f = 338
  · subst h1; simp only [decide_true, cond_true, Option.some.injEq] at h; subst h; exact sndIdx
  simp only [h1, decide_false, cond_false] at h
  by_cases h2 : f = 84
  · subst h2; simp only [decide_true, cond_true, Option.some.injEq] at h; subst h; exact sndFmt
  simp only [h2, decide_false, cond_false] at h
  by_cases h3 : f = 85
  · subst h3; simp only [decide_true, cond_true, Option.some.injEq] at h; subst h; exact sndRep
  simp only [h3, decide_false, cond_false] at h
  by_cases h4 : f = 123
  · subst h4; simp only [decide_true, cond_true, Option.some.injEq] at h; subst h; exact sndTrim
  simp only [h4, decide_false, cond_false] at h
  by_cases h5 : f = 124
  · subst h5; simp only [decide_true, cond_true, Option.some.injEq] at h; subst h; exact sndParse
  simp only [h5, decide_false, cond_false] at h
  by_cases h6 : f = 4
  · subst h6; simp only [decide_true, cond_true, Option.some.injEq] at h; subst h; exact sndBegun
  simp only [h6, decide_false, cond_false, reduceCtorEq] at h
theorem theNX : NX theX where
  n_Of := ⟨rfl, rfl⟩
  n_of := ⟨rfl, rfl⟩
  n_at := ⟨rfl, rfl⟩
  n_digits := ⟨rfl, rfl⟩
  n_Cmp := ⟨rfl, rfl⟩
  n_Add := ⟨rfl, rfl⟩
  n_Less := ⟨rfl, rfl⟩
  n_Mul := ⟨rfl, rfl⟩
  n_Bits := ⟨rfl, rfl⟩
  n_Twos := ⟨rfl, rfl⟩
  n_Word := ⟨rfl, rfl⟩
  n_up := ⟨rfl, rfl⟩
  n_down := ⟨rfl, rfl⟩
  n_short := ⟨rfl, rfl⟩
  n_step := ⟨rfl, rfl⟩
  n_Div := ⟨rfl, rfl⟩
  n_common := ⟨rfl, rfl⟩
  n_shifts := ⟨rfl, rfl⟩
  n_Gcd := ⟨rfl, rfl⟩
  n_Text := ⟨rfl, rfl⟩
  n_Get := ⟨rfl, rfl⟩
  b_Len := ⟨rfl, rfl⟩
  b_Zeros := ⟨rfl, rfl⟩
  b_Abs := ⟨rfl, rfl⟩
  q_zero := ⟨rfl, rfl⟩
  q_Parts := ⟨rfl, rfl⟩
  q_New := ⟨rfl, rfl⟩
  q_Of := ⟨rfl, rfl⟩
  q_sure := ⟨rfl, rfl⟩
  q_Text := ⟨rfl, rfl⟩
  q_Get := ⟨rfl, rfl⟩
  q_signed := ⟨rfl, rfl⟩
  q_Add := ⟨rfl, rfl⟩
  q_Neg := ⟨rfl, rfl⟩
  q_Sub := ⟨rfl, rfl⟩
  q_Mul := ⟨rfl, rfl⟩
  q_Div := ⟨rfl, rfl⟩
  q_Cmp := ⟨rfl, rfl⟩
  q_Sign := ⟨rfl, rfl⟩
  q_Floor := ⟨rfl, rfl⟩
  q_Whole := ⟨rfl, rfl⟩
theorem theLX : LX theX where
  toNX := theNX
  idx := rfl
  ss_Cut := ⟨rfl, rfl⟩
  ss_CutPrefix := ⟨rfl, rfl⟩
  sl_Cut := ⟨rfl, rfl⟩
  sl_CutPrefix := ⟨rfl, rfl⟩
  sl_HasPrefix := ⟨rfl, rfl⟩
  sl_Index := ⟨rfl, rfl⟩
  sl_IndexByte := ⟨rfl, rfl⟩
  l_Text := ⟨rfl, rfl⟩
  l_F := ⟨rfl, rfl⟩
  a_New := ⟨rfl, rfl⟩
  a_units := ⟨rfl, rfl⟩
  a_dot := ⟨rfl, rfl⟩
  a_Put := ⟨rfl, rfl⟩
  a_Col := ⟨rfl, rfl⟩
  a_Solve := ⟨rfl, rfl⟩
  a_Size := ⟨rfl, rfl⟩
  s_CloneF := ⟨rfl, rfl⟩
  fmt := rfl
  rep := rfl
  trim := rfl
  parse := rfl
theorem theOX : OX theX where
  toLX := theLX
  begun := rfl
  l_BasisOwn := ⟨rfl, rfl⟩
theorem S_sound {K : Orc} (hK : SoundK tabO Tryz.prog oneG K) : SoundK tabO Tryz.prog oneG (theX.S K) := over_sound hK (ov := over) over_ok
theorem K_sound (m d : Nat) : SoundK tabO Tryz.prog oneG (theX.K m d) := runK_sound (draw_ok Dam.Tab.mixed) bodies_ok (fun _ hK => S_sound hK) d
end Go.Dam.C
