/-
  The walk of deci.Text.
-/
import Derived.Test.YtecpmnkgikcpnaaDoorDeciV
import Derived.Test.YtecpmnkgikcpnaaDoorDt
import Derived.Test.YtecpmnkgikcpnaaDoorBase
namespace Go.Proofs.YtecpmnkgikcpnaaDoor.DeciW
open Go.RowKit Go.Proofs.YtecpmnkgikcpnaaDoor.Dp Go.Proofs.YtecpmnkgikcpnaaDoor.Base

theorem textL_pos (a : Nat) (ha : a < 1000000000000) : textL (a : Int) = Lib.decDigits (a / 1000000) ++ (if a % 1000000 = 0 then [] else 46 :: Lib.trimRightB (pad (a % 1000000) 6) 48) := by
  unfold textL
  rw [if_pos ((okN_iff _).2 ⟨by omega, by omega⟩), if_neg (by omega)]
  simp
theorem textL_neg (a : Nat) (h0 : 0 < a) (ha : a < 1000000000000) : textL (-(a : Int)) = 45 :: (Lib.decDigits (a / 1000000) ++ (if a % 1000000 = 0 then [] else 46 :: Lib.trimRightB (pad (a % 1000000) 6) 48)) := by
  unfold textL
  rw [if_pos ((okN_iff _).2 ⟨by omega, by omega⟩), if_pos (by omega)]
  simp

set_option maxRecDepth 100000 in
set_option maxHeartbeats 800000 in
theorem text_any (n : Int) (hn0 : -9223372036854775808 ≤ n) (hn1 : n ≤ 9223372036854775807) (S : ByteArray) (hS : Hid (S.data.toList = textL n)) (w : World) (hT : Tab w) :
    Calls Tryd.prog 65 #[.int .i64 n] w fun e w' => e = .returned (.string S) ∧ Below w.heap.size w w' := by
  cases hok : okN n with
  | false =>
    have hE : S = ⟨#[]⟩ := str_eq (by rw [hS.out]; unfold textL; rw [hok]; rfl)
    subst hE
    have HOK := Lib.hid hok
    clear hok hS
    go_enter Tryd.func65, Tryd.ntmps65
    go_wp2_with fail
    refine (ok_any n _).mono ?_
    rintro e w' ⟨rfl, rfl⟩
    rw [HOK.out]
    go_wp2_with fail
    go_ret
    exact ⟨rfl, Below.refl _ _⟩
  | true =>
    have hb := (okN_iff n).1 hok
    have hs : ∃ a : Nat, a < 1000000000000 ∧ ((n = (a : Int)) ∨ (n = -(a : Int) ∧ 0 < a)) := ⟨n.natAbs, by omega, by omega⟩
    obtain ⟨a, ha, hs⟩ := hs
    clear hn0 hn1
    obtain ⟨x, hxa⟩ : ∃ x : Int, x = (a : Int) := ⟨_, rfl⟩
    have hx0 : 0 ≤ x := by omega
    have hx1 : x < 1000000000000 := by omega
    rw [← hxa] at hs
    obtain ⟨S1, hS1⟩ := str_ex (Lib.itoa (x / 1000000))
    obtain ⟨S2, hS2⟩ := str_ex (Lib.itoa (1000000 + x % 1000000))
    obtain ⟨S3, hS3⟩ := str_ex (Lib.trimRightB (pad (a % 1000000) 6) 48)
    have hd1 : S1.data.toList = Lib.decDigits (a / 1000000) := by rw [hS1, hxa]; exact Lib.itoa_nonneg (a / 1000000)
    have hd2 : S2.data.toList = Lib.decDigits (1000000 + a % 1000000) := by rw [hS2, hxa]; exact Lib.itoa_nonneg (1000000 + a % 1000000)
    have hsz2 : S2.size = 7 := by rw [← len_list, hd2, Lib.decDigits_length, nDigits_seven (Nat.mod_lt _ (by decide))]
    have hx : (S2.extract 1 S2.size).data.toList = pad (a % 1000000) 6 := by rw [ext_list, hd2, rest_pad (Nat.mod_lt _ (by decide))]
    have hz2 : 1 ≤ S2.size := by omega
    have hz3 : (S2.extract 1 S2.size).size ≤ 9223372036854775807 := by rw [← len_list, hx, pad_length]; decide
    have hz1 : S1.size ≤ 21 := by rw [← len_list, hS1]; exact Lib.itoa_length_le _ (by omega) (by omega)
    have hz4 : S3.size ≤ 6 := by
      rw [← len_list, hS3]
      have := trimRightB_length (pad (a % 1000000) 6) 48
      rw [pad_length] at this; exact this
    have HS1 := Lib.hid hS1
    have HS2 := Lib.hid hS2
    have HS3 := Lib.hid hS3
    have HX := Lib.hid hx
    have HD1 := Lib.hid hd1
    have HOK := Lib.hid hok
    clear hS1 hS2 hS3 hd1 hd2 hsz2 hx hok hb
    by_cases hf : a % 1000000 = 0
    · have hm : ((x % 1000000) == 0) = true := by simp; omega
      rcases hs with rfl | ⟨rfl, h0⟩
      · have hfin := textL_pos a ha
        rw [← hxa] at hfin
        rw [if_pos hf] at hfin
        have HF := Lib.hid hfin
        clear hfin hf ha hxa
        go_enter Tryd.func65, Tryd.ntmps65
        go_wp2_with fail
        refine (ok_any _ _).mono ?_
        rintro e w' ⟨rfl, rfl⟩
        rw [HOK.out]
        go_wp2_with fail
        refine (fmt_at _ S1 HS1 (by omega) (by omega) _ hT).mono ?_
        rintro e w1 ⟨rfl, hb1⟩
        go_wp2_with fail
        go_ret
        exact ⟨ret_str (by rw [hS.out, HF.out, ← HD1.out]; simp), hb1⟩
      · have hx2 : 0 < x := by omega
        have hfin := textL_neg a h0 ha
        clear h0
        rw [← hxa] at hfin
        rw [if_pos hf] at hfin
        have HF := Lib.hid hfin
        clear hfin hf ha hxa
        go_enter Tryd.func65, Tryd.ntmps65
        go_wp2_with fail
        refine (ok_any _ _).mono ?_
        rintro e w' ⟨rfl, rfl⟩
        rw [HOK.out]
        go_wp2_with fail
        refine (fmt_at _ S1 HS1 (by omega) (by omega) _ hT).mono ?_
        rintro e w1 ⟨rfl, hb1⟩
        go_wp2_with fail
        go_ret
        exact ⟨ret_str (by rw [hS.out, HF.out, ← HD1.out]; simp), hb1⟩
    · have hm : ((x % 1000000) == 0) = false := by simp; omega
      rcases hs with rfl | ⟨rfl, h0⟩
      · have hfin := textL_pos a ha
        rw [← hxa] at hfin
        rw [if_neg hf] at hfin
        have HF := Lib.hid hfin
        clear hfin hf ha hxa
        go_enter Tryd.func65, Tryd.ntmps65
        go_wp2_with fail
        refine (ok_any _ _).mono ?_
        rintro e w' ⟨rfl, rfl⟩
        rw [HOK.out]
        go_wp2_with fail
        refine (fmt_at _ S1 HS1 (by omega) (by omega) _ hT).mono ?_
        rintro e w1 ⟨rfl, hb1⟩
        go_wp2_with fail
        refine (fmt_at _ S2 HS2 (by omega) (by omega) _ (hT.below hb1)).mono ?_
        rintro e w2 ⟨rfl, hb2⟩
        go_wp2_with fail
        refine (trim_at _ S3 _ HX HS3 hz3 _).mono ?_
        rintro e w3 ⟨rfl, rfl⟩
        go_wp2_with fail
        go_ret
        exact ⟨ret_str (by rw [hS.out, HF.out, ← HD1.out, ← HS3.out]; simp), hb1.trans (hb2.mono hb1.size)⟩
      · have hx2 : 0 < x := by omega
        have hfin := textL_neg a h0 ha
        clear h0
        rw [← hxa] at hfin
        rw [if_neg hf] at hfin
        have HF := Lib.hid hfin
        clear hfin hf ha hxa
        go_enter Tryd.func65, Tryd.ntmps65
        go_wp2_with fail
        refine (ok_any _ _).mono ?_
        rintro e w' ⟨rfl, rfl⟩
        rw [HOK.out]
        go_wp2_with fail
        refine (fmt_at _ S1 HS1 (by omega) (by omega) _ hT).mono ?_
        rintro e w1 ⟨rfl, hb1⟩
        go_wp2_with fail
        refine (fmt_at _ S2 HS2 (by omega) (by omega) _ (hT.below hb1)).mono ?_
        rintro e w2 ⟨rfl, hb2⟩
        go_wp2_with fail
        refine (trim_at _ S3 _ HX HS3 hz3 _).mono ?_
        rintro e w3 ⟨rfl, rfl⟩
        go_wp2_with fail
        go_ret
        exact ⟨ret_str (by rw [hS.out, HF.out, ← HD1.out, ← HS3.out]; simp), hb1.trans (hb2.mono hb1.size)⟩
#print axioms text_any
end Go.Proofs.YtecpmnkgikcpnaaDoor.DeciW
