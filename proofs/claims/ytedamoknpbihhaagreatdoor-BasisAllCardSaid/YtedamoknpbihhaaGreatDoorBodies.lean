/- The bodies are the program. -/
import Derived.Test.YtedamoknpbihhaaGreatDoorOvrTwo
import Derived.Test.YtedamoknpbihhaaGreatDoorTabOk
namespace Go.Dam.C
open Go Go.Dam Go.Proofs Go.RowKit Go.Dam.Tab
set_option maxRecDepth 1000000
abbrev OkT := OkAt Tryz.prog oneG
theorem ok_n_Of : OkT 64 n_Of := okAt_of Tryz.func64 (by kernel_rfl) (by kernel_rfl) (by kernel_rfl)
theorem ok_n_of : OkT 87 n_of := okAt_of Tryz.func87 (by kernel_rfl) (by kernel_rfl) (by kernel_rfl)
theorem ok_n_at : OkT 146 n_at := okAt_of Tryz.func146 (by kernel_rfl) (by kernel_rfl) (by kernel_rfl)
theorem ok_n_digits : OkT 85 n_digits := okAt_of Tryz.func85 (by kernel_rfl) (by kernel_rfl) (by kernel_rfl)
theorem ok_n_Cmp : OkT 93 n_Cmp := okAt_of Tryz.func93 (by kernel_rfl) (by kernel_rfl) (by kernel_rfl)
theorem ok_n_Add : OkT 137 n_Add := okAt_of Tryz.func137 (by kernel_rfl) (by kernel_rfl) (by kernel_rfl)
theorem ok_n_Less : OkT 147 n_Less := okAt_of Tryz.func147 (by kernel_rfl) (by kernel_rfl) (by kernel_rfl)
theorem ok_n_Mul : OkT 95 n_Mul := okAt_of Tryz.func95 (by kernel_rfl) (by kernel_rfl) (by kernel_rfl)
theorem ok_n_Bits : OkT 138 n_Bits := okAt_of Tryz.func138 (by kernel_rfl) (by kernel_rfl) (by kernel_rfl)
theorem ok_n_Twos : OkT 261 n_Twos := okAt_of Tryz.func261 (by kernel_rfl) (by kernel_rfl) (by kernel_rfl)
theorem ok_n_Word : OkT 220 n_Word := okAt_of Tryz.func220 (by kernel_rfl) (by kernel_rfl) (by kernel_rfl)
theorem ok_n_up : OkT 223 n_up := okAt_of Tryz.func223 (by kernel_rfl) (by kernel_rfl) (by kernel_rfl)
theorem ok_n_down : OkT 225 n_down := okAt_of Tryz.func225 (by kernel_rfl) (by kernel_rfl) (by kernel_rfl)
theorem ok_n_short : OkT 86 n_short := okAt_of Tryz.func86 (by kernel_rfl) (by kernel_rfl) (by kernel_rfl)
theorem ok_n_step : OkT 224 n_step := okAt_of Tryz.func224 (by kernel_rfl) (by kernel_rfl) (by kernel_rfl)
theorem ok_n_Div : OkT 149 n_Div := okAt_of Tryz.func149 (by kernel_rfl) (by kernel_rfl) (by kernel_rfl)
theorem ok_n_common : OkT 221 n_common := okAt_of Tryz.func221 (by kernel_rfl) (by kernel_rfl) (by kernel_rfl)
theorem ok_n_shifts : OkT 222 n_shifts := okAt_of Tryz.func222 (by kernel_rfl) (by kernel_rfl) (by kernel_rfl)
theorem ok_n_Gcd : OkT 148 n_Gcd := okAt_of Tryz.func148 (by kernel_rfl) (by kernel_rfl) (by kernel_rfl)
theorem ok_n_Text : OkT 35 n_Text := okAt_of Tryz.func35 (by kernel_rfl) (by kernel_rfl) (by kernel_rfl)
theorem ok_n_Get : OkT 82 n_Get := okAt_of Tryz.func82 (by kernel_rfl) (by kernel_rfl) (by kernel_rfl)
theorem ok_b_Len : OkT 211 b_Len := okAt_of Tryz.func211 (by kernel_rfl) (by kernel_rfl) (by kernel_rfl)
theorem ok_b_Zeros : OkT 338 b_Zeros := okAt_of Tryz.func338 (by kernel_rfl) (by kernel_rfl) (by kernel_rfl)
theorem ok_b_Abs : OkT 65 b_Abs := okAt_of Tryz.func65 (by kernel_rfl) (by kernel_rfl) (by kernel_rfl)
theorem ok_q_zero : OkT 83 q_zero := okAt_of Tryz.func83 (by kernel_rfl) (by kernel_rfl) (by kernel_rfl)
theorem ok_q_Parts : OkT 34 q_Parts := okAt_of Tryz.func34 (by kernel_rfl) (by kernel_rfl) (by kernel_rfl)
theorem ok_q_New : OkT 96 q_New := okAt_of Tryz.func96 (by kernel_rfl) (by kernel_rfl) (by kernel_rfl)
theorem ok_q_Of : OkT 25 q_Of := okAt_of Tryz.func25 (by kernel_rfl) (by kernel_rfl) (by kernel_rfl)
theorem ok_q_sure : OkT 84 q_sure := okAt_of Tryz.func84 (by kernel_rfl) (by kernel_rfl) (by kernel_rfl)
theorem ok_q_Text : OkT 8 q_Text := okAt_of Tryz.func8 (by kernel_rfl) (by kernel_rfl) (by kernel_rfl)
theorem ok_q_Get : OkT 33 q_Get := okAt_of Tryz.func33 (by kernel_rfl) (by kernel_rfl) (by kernel_rfl)
theorem ok_q_signed : OkT 94 q_signed := okAt_of Tryz.func94 (by kernel_rfl) (by kernel_rfl) (by kernel_rfl)
theorem ok_q_Add : OkT 41 q_Add := okAt_of Tryz.func41 (by kernel_rfl) (by kernel_rfl) (by kernel_rfl)
theorem ok_q_Neg : OkT 97 q_Neg := okAt_of Tryz.func97 (by kernel_rfl) (by kernel_rfl) (by kernel_rfl)
theorem ok_q_Sub : OkT 43 q_Sub := okAt_of Tryz.func43 (by kernel_rfl) (by kernel_rfl) (by kernel_rfl)
theorem ok_q_Mul : OkT 44 q_Mul := okAt_of Tryz.func44 (by kernel_rfl) (by kernel_rfl) (by kernel_rfl)
theorem ok_q_Div : OkT 42 q_Div := okAt_of Tryz.func42 (by kernel_rfl) (by kernel_rfl) (by kernel_rfl)
theorem ok_q_Cmp : OkT 17 q_Cmp := okAt_of Tryz.func17 (by kernel_rfl) (by kernel_rfl) (by kernel_rfl)
theorem ok_q_Sign : OkT 40 q_Sign := okAt_of Tryz.func40 (by kernel_rfl) (by kernel_rfl) (by kernel_rfl)
theorem ok_q_Floor : OkT 262 q_Floor := okAt_of Tryz.func262 (by kernel_rfl) (by kernel_rfl) (by kernel_rfl)
theorem ok_q_Whole : OkT 128 q_Whole := okAt_of Tryz.func128 (by kernel_rfl) (by kernel_rfl) (by kernel_rfl)
theorem ok_ss_Cut : OkT 81 ss_Cut := okAt_of Tryz.func81 (by kernel_rfl) (by kernel_rfl) (by kernel_rfl)
theorem ok_ss_CutPrefix : OkT 80 ss_CutPrefix := okAt_of Tryz.func80 (by kernel_rfl) (by kernel_rfl) (by kernel_rfl)
theorem ok_sl_Cut : OkT 134 sl_Cut := okAt_of Tryz.func134 (by kernel_rfl) (by kernel_rfl) (by kernel_rfl)
theorem ok_sl_CutPrefix : OkT 133 sl_CutPrefix := okAt_of Tryz.func133 (by kernel_rfl) (by kernel_rfl) (by kernel_rfl)
theorem ok_sl_HasPrefix : OkT 200 sl_HasPrefix := okAt_of Tryz.func200 (by kernel_rfl) (by kernel_rfl) (by kernel_rfl)
theorem ok_sl_Index : OkT 201 sl_Index := okAt_of Tryz.func201 (by kernel_rfl) (by kernel_rfl) (by kernel_rfl)
theorem ok_sl_IndexByte : OkT 273 sl_IndexByte := okAt_of Tryz.func273 (by kernel_rfl) (by kernel_rfl) (by kernel_rfl)
theorem ok_l_Text : OkT 6 l_Text := okAt_of Tryz.func6 (by kernel_rfl) (by kernel_rfl) (by kernel_rfl)
theorem ok_l_F : OkT 7 l_F := okAt_of Tryz.func7 (by kernel_rfl) (by kernel_rfl) (by kernel_rfl)
theorem ok_a_New : OkT 5 a_New := okAt_of Tryz.func5 (by kernel_rfl) (by kernel_rfl) (by kernel_rfl)
theorem ok_a_units : OkT 32 a_units := okAt_of Tryz.func32 (by kernel_rfl) (by kernel_rfl) (by kernel_rfl)
theorem ok_a_dot : OkT 46 a_dot := okAt_of Tryz.func46 (by kernel_rfl) (by kernel_rfl) (by kernel_rfl)
theorem ok_a_Put : OkT 11 a_Put := okAt_of Tryz.func11 (by kernel_rfl) (by kernel_rfl) (by kernel_rfl)
theorem ok_a_Col : OkT 18 a_Col := okAt_of Tryz.func18 (by kernel_rfl) (by kernel_rfl) (by kernel_rfl)
theorem ok_a_Solve : OkT 14 a_Solve := okAt_of Tryz.func14 (by kernel_rfl) (by kernel_rfl) (by kernel_rfl)
theorem ok_a_Size : OkT 16 a_Size := okAt_of Tryz.func16 (by kernel_rfl) (by kernel_rfl) (by kernel_rfl)
theorem ok_s_CloneF : OkT 47 s_CloneF := okAt_of Tryz.func47 (by kernel_rfl) (by kernel_rfl) (by kernel_rfl)
theorem ok_m_New : OkT 9 m_New := okAt_of Tryz.func9 (by kernel_rfl) (by kernel_rfl) (by kernel_rfl)
theorem ok_m_Rank : OkT 10 m_Rank := okAt_of Tryz.func10 (by kernel_rfl) (by kernel_rfl) (by kernel_rfl)
theorem ok_m_Rank1 : OkT 39 m_Rank1 := okAt_of Tryz.func39 (by kernel_rfl) (by kernel_rfl) (by kernel_rfl)
theorem ok_m_Solve : OkT 12 m_Solve := okAt_of Tryz.func12 (by kernel_rfl) (by kernel_rfl) (by kernel_rfl)
theorem ok_m_Solve1 : OkT 45 m_Solve1 := okAt_of Tryz.func45 (by kernel_rfl) (by kernel_rfl) (by kernel_rfl)
theorem ok_m_Turn : OkT 13 m_Turn := okAt_of Tryz.func13 (by kernel_rfl) (by kernel_rfl) (by kernel_rfl)
theorem ok_m_Size : OkT 36 m_Size := okAt_of Tryz.func36 (by kernel_rfl) (by kernel_rfl) (by kernel_rfl)
theorem ok_m_reduced : OkT 37 m_reduced := okAt_of Tryz.func37 (by kernel_rfl) (by kernel_rfl) (by kernel_rfl)
theorem ok_m_reduced1 : OkT 91 m_reduced1 := okAt_of Tryz.func91 (by kernel_rfl) (by kernel_rfl) (by kernel_rfl)
theorem ok_m_copied : OkT 38 m_copied := okAt_of Tryz.func38 (by kernel_rfl) (by kernel_rfl) (by kernel_rfl)
theorem ok_m_cleared : OkT 92 m_cleared := okAt_of Tryz.func92 (by kernel_rfl) (by kernel_rfl) (by kernel_rfl)
theorem ok_s_Index : OkT 90 s_Index := okAt_of Tryz.func90 (by kernel_rfl) (by kernel_rfl) (by kernel_rfl)
theorem ok_a_Turned : OkT 15 a_Turned := okAt_of Tryz.func15 (by kernel_rfl) (by kernel_rfl) (by kernel_rfl)
theorem ok_l_BasisAll : OkT 3 l_BasisAll := okAt_of Tryz.func3 (by kernel_rfl) (by kernel_rfl) (by kernel_rfl)
def bodies (f : Nat) : Option DFunc := (bif Nat.beq f 64 then some n_Of else (bif Nat.beq f 87 then some n_of else (bif Nat.beq f 146 then some n_at else (bif Nat.beq f 85 then some n_digits else (bif Nat.beq f 93 then some n_Cmp else (bif Nat.beq f 137 then some n_Add else (bif Nat.beq f 147 then some n_Less else (bif Nat.beq f 95 then some n_Mul else (bif Nat.beq f 138 then some n_Bits else (bif Nat.beq f 261 then some n_Twos else (bif Nat.beq f 220 then some n_Word else (bif Nat.beq f 223 then some n_up else (bif Nat.beq f 225 then some n_down else (bif Nat.beq f 86 then some n_short else (bif Nat.beq f 224 then some n_step else (bif Nat.beq f 149 then some n_Div else (bif Nat.beq f 221 then some n_common else (bif Nat.beq f 222 then some n_shifts else (bif Nat.beq f 148 then some n_Gcd else (bif Nat.beq f 35 then some n_Text else (bif Nat.beq f 82 then some n_Get else (bif Nat.beq f 211 then some b_Len else (bif Nat.beq f 338 then some b_Zeros else (bif Nat.beq f 65 then some b_Abs else (bif Nat.beq f 83 then some q_zero else (bif Nat.beq f 34 then some q_Parts else (bif Nat.beq f 96 then some q_New else (bif Nat.beq f 25 then some q_Of else (bif Nat.beq f 84 then some q_sure else (bif Nat.beq f 8 then some q_Text else (bif Nat.beq f 33 then some q_Get else (bif Nat.beq f 94 then some q_signed else (bif Nat.beq f 41 then some q_Add else (bif Nat.beq f 97 then some q_Neg else (bif Nat.beq f 43 then some q_Sub else (bif Nat.beq f 44 then some q_Mul else (bif Nat.beq f 42 then some q_Div else (bif Nat.beq f 17 then some q_Cmp else (bif Nat.beq f 40 then some q_Sign else (bif Nat.beq f 262 then some q_Floor else (bif Nat.beq f 128 then some q_Whole else (bif Nat.beq f 81 then some ss_Cut else (bif Nat.beq f 80 then some ss_CutPrefix else (bif Nat.beq f 134 then some sl_Cut else (bif Nat.beq f 133 then some sl_CutPrefix else (bif Nat.beq f 200 then some sl_HasPrefix else (bif Nat.beq f 201 then some sl_Index else (bif Nat.beq f 273 then some sl_IndexByte else (bif Nat.beq f 6 then some l_Text else (bif Nat.beq f 7 then some l_F else (bif Nat.beq f 5 then some a_New else (bif Nat.beq f 32 then some a_units else (bif Nat.beq f 46 then some a_dot else (bif Nat.beq f 11 then some a_Put else (bif Nat.beq f 18 then some a_Col else (bif Nat.beq f 14 then some a_Solve else (bif Nat.beq f 16 then some a_Size else (bif Nat.beq f 47 then some s_CloneF else (bif Nat.beq f 9 then some m_New else (bif Nat.beq f 10 then some m_Rank else (bif Nat.beq f 39 then some m_Rank1 else (bif Nat.beq f 12 then some m_Solve else (bif Nat.beq f 45 then some m_Solve1 else (bif Nat.beq f 13 then some m_Turn else (bif Nat.beq f 36 then some m_Size else (bif Nat.beq f 37 then some m_reduced else (bif Nat.beq f 91 then some m_reduced1 else (bif Nat.beq f 38 then some m_copied else (bif Nat.beq f 92 then some m_cleared else (bif Nat.beq f 90 then some s_Index else (bif Nat.beq f 15 then some a_Turned else (bif Nat.beq f 3 then some l_BasisAll else none))))))))))))))))))))))))))))))))))))))))))))))))))))))))))))))))))))))))
theorem bif_ok {f k : Nat} {D F : DFunc} {r : Option DFunc} (hk : OkAt Tryz.prog oneG k D) (hr : r = some F → OkAt Tryz.prog oneG f F) (h : (bif Nat.beq f k then some D else r) = some F) : OkAt Tryz.prog oneG f F := by
 rw [nbeq] at h
 by_cases hf : f = k
 · subst hf
   simp only [decide_true, cond_true, Option.some.injEq] at h
   exact h ▸ hk
 · simp only [hf, decide_false, cond_false] at h
   exact hr h
theorem bodies_ok : TableOk Tryz.prog oneG bodies := by
 intro f F h
 unfold bodies at h
 exact (bif_ok ok_n_Of (bif_ok ok_n_of (bif_ok ok_n_at (bif_ok ok_n_digits (bif_ok ok_n_Cmp (bif_ok ok_n_Add (bif_ok ok_n_Less (bif_ok ok_n_Mul (bif_ok ok_n_Bits (bif_ok ok_n_Twos (bif_ok ok_n_Word (bif_ok ok_n_up (bif_ok ok_n_down (bif_ok ok_n_short (bif_ok ok_n_step (bif_ok ok_n_Div (bif_ok ok_n_common (bif_ok ok_n_shifts (bif_ok ok_n_Gcd (bif_ok ok_n_Text (bif_ok ok_n_Get (bif_ok ok_b_Len (bif_ok ok_b_Zeros (bif_ok ok_b_Abs (bif_ok ok_q_zero (bif_ok ok_q_Parts (bif_ok ok_q_New (bif_ok ok_q_Of (bif_ok ok_q_sure (bif_ok ok_q_Text (bif_ok ok_q_Get (bif_ok ok_q_signed (bif_ok ok_q_Add (bif_ok ok_q_Neg (bif_ok ok_q_Sub (bif_ok ok_q_Mul (bif_ok ok_q_Div (bif_ok ok_q_Cmp (bif_ok ok_q_Sign (bif_ok ok_q_Floor (bif_ok ok_q_Whole (bif_ok ok_ss_Cut (bif_ok ok_ss_CutPrefix (bif_ok ok_sl_Cut (bif_ok ok_sl_CutPrefix (bif_ok ok_sl_HasPrefix (bif_ok ok_sl_Index (bif_ok ok_sl_IndexByte (bif_ok ok_l_Text (bif_ok ok_l_F (bif_ok ok_a_New (bif_ok ok_a_units (bif_ok ok_a_dot (bif_ok ok_a_Put (bif_ok ok_a_Col (bif_ok ok_a_Solve (bif_ok ok_a_Size (bif_ok ok_s_CloneF (bif_ok ok_m_New (bif_ok ok_m_Rank (bif_ok ok_m_Rank1 (bif_ok ok_m_Solve (bif_ok ok_m_Solve1 (bif_ok ok_m_Turn (bif_ok ok_m_Size (bif_ok ok_m_reduced (bif_ok ok_m_reduced1 (bif_ok ok_m_copied (bif_ok ok_m_cleared (bif_ok ok_s_Index (bif_ok ok_a_Turned (bif_ok ok_l_BasisAll (fun h => by cases h))))))))))))))))))))))))))))))))))))))))))))))))))))))))))))))))))))))))) h
def over (f : Nat) : Option Ovr := bif Nat.beq f 343 then some C.gIdx else bif Nat.beq f 88 then some gFmt else bif Nat.beq f 89 then some gRep else bif Nat.beq f 135 then some gTrim else bif Nat.beq f 136 then some gParse else bif Nat.beq f 4 then some gBegun else none
def theX : Cx := ⟨bodies, over⟩
theorem over_ok (f : Nat) (g : Ovr) (h : over f = some g) : SoundF tabO Tryz.prog oneG f g := by
 unfold over at h
 simp only [nbeq] at h
 by_cases h1 : f = 343
 · subst h1; simp only [decide_true, cond_true, Option.some.injEq] at h; subst h; exact sndIdx
 simp only [h1, decide_false, cond_false] at h
 by_cases h2 : f = 88
 · subst h2; simp only [decide_true, cond_true, Option.some.injEq] at h; subst h; exact sndFmt
 simp only [h2, decide_false, cond_false] at h
 by_cases h3 : f = 89
 · subst h3; simp only [decide_true, cond_true, Option.some.injEq] at h; subst h; exact sndRep
 simp only [h3, decide_false, cond_false] at h
 by_cases h4 : f = 135
 · subst h4; simp only [decide_true, cond_true, Option.some.injEq] at h; subst h; exact sndTrim
 simp only [h4, decide_false, cond_false] at h
 by_cases h5 : f = 136
 · subst h5; simp only [decide_true, cond_true, Option.some.injEq] at h; subst h; exact sndParse
 simp only [h5, decide_false, cond_false] at h
 by_cases h6 : f = 4
 · subst h6; simp only [decide_true, cond_true, Option.some.injEq] at h; subst h; exact sndBegun
 simp only [h6, decide_false, cond_false, reduceCtorEq] at h
theorem theNX : NX theX where
 n_Of := ⟨rfl, rfl⟩
 n_of := ⟨rfl, rfl⟩
 n_at := ⟨rfl, rfl⟩
 n_digits := ⟨rfl, rfl⟩
 n_Cmp := ⟨rfl, rfl⟩
 n_Add := ⟨rfl, rfl⟩
 n_Less := ⟨rfl, rfl⟩
 n_Mul := ⟨rfl, rfl⟩
 n_Bits := ⟨rfl, rfl⟩
 n_Twos := ⟨rfl, rfl⟩
 n_Word := ⟨rfl, rfl⟩
 n_up := ⟨rfl, rfl⟩
 n_down := ⟨rfl, rfl⟩
 n_short := ⟨rfl, rfl⟩
 n_step := ⟨rfl, rfl⟩
 n_Div := ⟨rfl, rfl⟩
 n_common := ⟨rfl, rfl⟩
 n_shifts := ⟨rfl, rfl⟩
 n_Gcd := ⟨rfl, rfl⟩
 n_Text := ⟨rfl, rfl⟩
 n_Get := ⟨rfl, rfl⟩
 b_Len := ⟨rfl, rfl⟩
 b_Zeros := ⟨rfl, rfl⟩
 b_Abs := ⟨rfl, rfl⟩
 q_zero := ⟨rfl, rfl⟩
 q_Parts := ⟨rfl, rfl⟩
 q_New := ⟨rfl, rfl⟩
 q_Of := ⟨rfl, rfl⟩
 q_sure := ⟨rfl, rfl⟩
 q_Text := ⟨rfl, rfl⟩
 q_Get := ⟨rfl, rfl⟩
 q_signed := ⟨rfl, rfl⟩
 q_Add := ⟨rfl, rfl⟩
 q_Neg := ⟨rfl, rfl⟩
 q_Sub := ⟨rfl, rfl⟩
 q_Mul := ⟨rfl, rfl⟩
 q_Div := ⟨rfl, rfl⟩
 q_Cmp := ⟨rfl, rfl⟩
 q_Sign := ⟨rfl, rfl⟩
 q_Floor := ⟨rfl, rfl⟩
 q_Whole := ⟨rfl, rfl⟩
theorem theLX : LX theX where
 toNX := theNX
 idx := rfl
 ss_Cut := ⟨rfl, rfl⟩
 ss_CutPrefix := ⟨rfl, rfl⟩
 sl_Cut := ⟨rfl, rfl⟩
 sl_CutPrefix := ⟨rfl, rfl⟩
 sl_HasPrefix := ⟨rfl, rfl⟩
 sl_Index := ⟨rfl, rfl⟩
 sl_IndexByte := ⟨rfl, rfl⟩
 l_Text := ⟨rfl, rfl⟩
 l_F := ⟨rfl, rfl⟩
 a_New := ⟨rfl, rfl⟩
 a_units := ⟨rfl, rfl⟩
 a_dot := ⟨rfl, rfl⟩
 a_Put := ⟨rfl, rfl⟩
 a_Col := ⟨rfl, rfl⟩
 a_Solve := ⟨rfl, rfl⟩
 a_Size := ⟨rfl, rfl⟩
 s_CloneF := ⟨rfl, rfl⟩
 fmt := rfl
 rep := rfl
 trim := rfl
 parse := rfl
theorem theMX : MX theX where
 toLX := theLX
 m_New := ⟨rfl, rfl⟩
 m_Rank := ⟨rfl, rfl⟩
 m_Rank1 := ⟨rfl, rfl⟩
 m_Solve := ⟨rfl, rfl⟩
 m_Solve1 := ⟨rfl, rfl⟩
 m_Turn := ⟨rfl, rfl⟩
 m_Size := ⟨rfl, rfl⟩
 m_reduced := ⟨rfl, rfl⟩
 m_reduced1 := ⟨rfl, rfl⟩
 m_copied := ⟨rfl, rfl⟩
 m_cleared := ⟨rfl, rfl⟩
 s_Index := ⟨rfl, rfl⟩
 a_Turned := ⟨rfl, rfl⟩
theorem theBX : BX theX where
 toMX := theMX
 begun := rfl
 l_BasisAll := ⟨rfl, rfl⟩
theorem S_sound {K : Orc} (hK : SoundK tabO Tryz.prog oneG K) : SoundK tabO Tryz.prog oneG (theX.S K) := over_sound hK (ov := over) over_ok
theorem K_sound (m d : Nat) : SoundK tabO Tryz.prog oneG (theX.K m d) := runK_sound (draw_ok Dam.Tab.mixed) bodies_ok (fun _ hK => S_sound hK) d
end Go.Dam.C
