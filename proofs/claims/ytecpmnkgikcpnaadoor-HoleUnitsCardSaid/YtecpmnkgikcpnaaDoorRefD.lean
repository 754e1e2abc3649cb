/-
  The walks of the reference's bare and DecText.
-/
import Derived.Test.YtecpmnkgikcpnaaDoorRefN
import Derived.Test.YtecpmnkgikcpnaaDoorRefK
import Derived.Test.YtecpmnkgikcpnaaDoorDeciT
namespace Go.Proofs.YtecpmnkgikcpnaaDoor.DeciW
open Go.RowKit Go.Proofs.YtecpmnkgikcpnaaDoor.Dp Go.Proofs.YtecpmnkgikcpnaaDoor.Base

theorem trimR_snoc_yes (l : List UInt8) (c : UInt8) : Lib.trimRightB (l ++ [c]) c = Lib.trimRightB l c := by
  unfold Lib.trimRightB; simp
theorem trimR_snoc_no (l : List UInt8) (c d : UInt8) (h : d ≠ c) : Lib.trimRightB (l ++ [d]) c = l ++ [d] := by
  unfold Lib.trimRightB; simp [h]
theorem trimR_nil (c : UInt8) : Lib.trimRightB [] c = [] := rfl
theorem last_of (T : ByteArray) (h : 0 < T.size) : T.data.toList = (T.extract 0 (T.size - 1)).data.toList ++ [T[T.size - 1]] := by
  rw [Lib.extract_data]
  have := take_snoc T (T.size - 1) (by omega)
  rw [show T.size - 1 + 1 = T.size by omega, List.take_of_length_le (by simp)] at this
  simpa using this

set_option maxHeartbeats 400000 in
theorem bare_any (s S : ByteArray) (l : List UInt8) (hl : Hid (s.data.toList = l)) (hz : s.size ≤ 9223372036854775807) (hS : Hid (S.data.toList = Lib.trimRightB l 48)) (w : World) :
    Calls Tryd.prog 20 #[.string s] w fun e w' => e = .returned (.string S) ∧ w = w' := by
  go_enter Tryd.func20, Tryd.ntmps20
  go_wp2
  go_loop [0] (fun i => ∃ (T : ByteArray), T.size ≤ 9223372036854775807 ∧ Lib.trimRightB T.data.toList 48 = Lib.trimRightB l 48 ∧ i = .string T) (fun i => Lib.strSize i)
  case atStart => exact ⟨s, hz, by rw [hl.out], rfl⟩
  case round =>
    obtain ⟨T, hT, hTr, rfl⟩ := hrel
    have HT := Lib.hid hTr
    clear hTr
    by_cases h0 : 0 < T.size
    · have hlast := last_of T h0
      by_cases h48 : T[T.size - 1].toNat = 48
      · have h48' : T[T.size - 1] = 48 := UInt8.toNat_inj.1 h48
        have HN : Hid (Lib.trimRightB (T.extract 0 (T.size - 1)).data.toList 48 = Lib.trimRightB l 48) := by
          show _ = _
          rw [← HT.out, hlast, h48', trimR_snoc_yes]
        have hb : ((T[T.size - 1].toNat : Int) == 48) = true := by simp; omega
        clear hlast h48 h48'
        go_wp2
        go_round
        case rel => exact ⟨_, by simp; omega, HN.out, rfl⟩
        case measure => simp [Lib.strSize]; omega
      · have HN : Hid (T.data.toList = Lib.trimRightB l 48) := by
          show _ = _
          rw [← HT.out, hlast, trimR_snoc_no _ _ _ (fun h => h48 (by rw [h]; rfl))]
        have hb : ((T[T.size - 1].toNat : Int) == 48) = false := by simp; omega
        clear hlast h48
        go_wp2
        go_ret
        exact ⟨ret_str (by rw [hS.out, HN.out]), rfl⟩
    · have HN : Hid (T.data.toList = Lib.trimRightB l 48) := by
        show _ = _
        have := list_nil T h0
        rw [← HT.out, this]; rfl
      go_wp2
      go_ret
      exact ⟨ret_str (by rw [hS.out, HN.out]), rfl⟩

set_option maxRecDepth 100000 in
set_option maxHeartbeats 800000 in
theorem rtext_any (n : Int) (hn0 : -9223372036854775808 ≤ n) (hn1 : n ≤ 9223372036854775807) (S : ByteArray) (hS : Hid (S.data.toList = textL n)) (w : World) :
    Calls Tryd.prog 9 #[.int .i64 n] w fun e w' => e = .returned (.string S) ∧ w = w' := by
  cases hok : okN n with
  | false =>
    have hE : S = ⟨#[]⟩ := str_eq (by rw [hS.out]; unfold textL; rw [hok]; rfl)
    subst hE
    have HOK := Lib.hid hok
    clear hok hS
    go_enter Tryd.func9, Tryd.ntmps9
    go_wp2_with fail
    refine (rok_any n _).mono ?_
    rintro e w' ⟨rfl, rfl⟩
    rw [HOK.out]
    go_wp2_with fail
    go_ret
    exact ⟨rfl, rfl⟩
  | true =>
    have hb := (okN_iff n).1 hok
    have hs : ∃ a : Nat, a < 1000000000000 ∧ ((n = (a : Int)) ∨ (n = -(a : Int) ∧ 0 < a)) := ⟨n.natAbs, by omega, by omega⟩
    obtain ⟨a, ha, hs⟩ := hs
    clear hn0 hn1
    obtain ⟨x, hxa⟩ : ∃ x : Int, x = (a : Int) := ⟨_, rfl⟩
    have hx0 : 0 ≤ x := by omega
    have hx1 : x < 1000000000000 := by omega
    rw [← hxa] at hs
    obtain ⟨S1, hS1⟩ := str_ex (numL (a / 1000000) 1)
    obtain ⟨S2, hS2⟩ := str_ex (numL (a % 1000000) 6)
    obtain ⟨S3, hS3⟩ := str_ex (Lib.trimRightB (numL (a % 1000000) 6) 48)
    have hd1 : S1.data.toList = Lib.decDigits (a / 1000000) := by rw [hS1, numL_one]
    have hp6 : numL (a % 1000000) 6 = pad (a % 1000000) 6 := numL_of_lt (Nat.mod_lt _ (by decide))
    have hd3 : S3.data.toList = Lib.trimRightB (pad (a % 1000000) 6) 48 := by rw [hS3, hp6]
    have hz1 : S1.size ≤ 20 := by
      rw [← len_list, hd1, Lib.decDigits_length]
      exact Lib.nDigits_le20 _ (by omega)
    have hz2 : S2.size ≤ 9223372036854775807 := by rw [← len_list, hS2, hp6, pad_length]; decide
    have hz3 : S3.size ≤ 6 := by
      rw [← len_list, hd3]
      have := trimRightB_length (pad (a % 1000000) 6) 48
      rw [pad_length] at this; exact this
    have hq1 : x / 1000000 = ((a / 1000000 : Nat) : Int) := by omega
    have hq2 : x % 1000000 = ((a % 1000000 : Nat) : Int) := by omega
    have HQ1 := Lib.hid hq1
    have HQ2 := Lib.hid hq2
    have HS1 := Lib.hid hS1
    have HS2 := Lib.hid hS2
    have HS3 := Lib.hid hS3
    have HD3 := Lib.hid hd3
    have HD1 := Lib.hid hd1
    have HOK := Lib.hid hok
    clear hS1 hS2 hS3 hd1 hd3 hp6 hok hb hq1 hq2
    by_cases hf : a % 1000000 = 0
    · have hm : ((x % 1000000) != 0) = false := by simp; omega
      have hm2 : ((x % 1000000) == 0) = true := by simp; omega
      rcases hs with rfl | ⟨rfl, h0⟩
      · have hfin := textL_pos a ha
        rw [← hxa] at hfin
        rw [if_pos hf] at hfin
        have HF := Lib.hid hfin
        clear hfin hf ha hxa
        go_enter Tryd.func9, Tryd.ntmps9
        go_wp2_with fail
        refine (rok_any _ _).mono ?_
        rintro e w' ⟨rfl, rfl⟩
        rw [HOK.out]
        go_wp2_with fail
        refine (num_any _ 1 (by decide) _ HQ1 (by omega) (by omega) S1 HS1 _).mono ?_
        rintro e w1 ⟨rfl, rfl⟩
        go_wp2_with fail
        go_ret
        exact ⟨ret_str (by rw [hS.out, HF.out, ← HD1.out]; simp), rfl⟩
      · have hx2 : 0 < x := by omega
        have hfin := textL_neg a (by omega) ha
        clear h0
        rw [← hxa] at hfin
        rw [if_pos hf] at hfin
        have HF := Lib.hid hfin
        clear hfin hf ha hxa
        go_enter Tryd.func9, Tryd.ntmps9
        go_wp2_with fail
        refine (rok_any _ _).mono ?_
        rintro e w' ⟨rfl, rfl⟩
        rw [HOK.out]
        go_wp2_with fail
        refine (num_any _ 1 (by decide) _ HQ1 (by omega) (by omega) S1 HS1 _).mono ?_
        rintro e w1 ⟨rfl, rfl⟩
        go_wp2_with fail
        go_ret
        exact ⟨ret_str (by rw [hS.out, HF.out, ← HD1.out]; simp), rfl⟩
    · have hm : ((x % 1000000) != 0) = true := by simp; omega
      have hm2 : ((x % 1000000) == 0) = false := by simp; omega
      rcases hs with rfl | ⟨rfl, h0⟩
      · have hfin := textL_pos a ha
        rw [← hxa] at hfin
        rw [if_neg hf] at hfin
        have HF := Lib.hid hfin
        clear hfin hf ha hxa
        go_enter Tryd.func9, Tryd.ntmps9
        go_wp2_with fail
        refine (rok_any _ _).mono ?_
        rintro e w' ⟨rfl, rfl⟩
        rw [HOK.out]
        go_wp2_with fail
        refine (num_any _ 1 (by decide) _ HQ1 (by omega) (by omega) S1 HS1 _).mono ?_
        rintro e w1 ⟨rfl, rfl⟩
        go_wp2_with fail
        refine (num_any _ 6 (by decide) _ HQ2 (by omega) (by omega) S2 HS2 _).mono ?_
        rintro e w2 ⟨rfl, rfl⟩
        go_wp2_with fail
        refine (bare_any _ S3 _ HS2 hz2 HS3 _).mono ?_
        rintro e w3 ⟨rfl, rfl⟩
        go_wp2_with fail
        go_ret
        exact ⟨ret_str (by rw [hS.out, HF.out, ← HD1.out, ← HD3.out]; simp), rfl⟩
      · have hx2 : 0 < x := by omega
        have hfin := textL_neg a (by omega) ha
        clear h0
        rw [← hxa] at hfin
        rw [if_neg hf] at hfin
        have HF := Lib.hid hfin
        clear hfin hf ha hxa
        go_enter Tryd.func9, Tryd.ntmps9
        go_wp2_with fail
        refine (rok_any _ _).mono ?_
        rintro e w' ⟨rfl, rfl⟩
        rw [HOK.out]
        go_wp2_with fail
        refine (num_any _ 1 (by decide) _ HQ1 (by omega) (by omega) S1 HS1 _).mono ?_
        rintro e w1 ⟨rfl, rfl⟩
        go_wp2_with fail
        refine (num_any _ 6 (by decide) _ HQ2 (by omega) (by omega) S2 HS2 _).mono ?_
        rintro e w2 ⟨rfl, rfl⟩
        go_wp2_with fail
        refine (bare_any _ S3 _ HS2 hz2 HS3 _).mono ?_
        rintro e w3 ⟨rfl, rfl⟩
        go_wp2_with fail
        go_ret
        exact ⟨ret_str (by rw [hS.out, HF.out, ← HD1.out, ← HD3.out]; simp), rfl⟩
#print axioms rtext_any
end Go.Proofs.YtecpmnkgikcpnaaDoor.DeciW
