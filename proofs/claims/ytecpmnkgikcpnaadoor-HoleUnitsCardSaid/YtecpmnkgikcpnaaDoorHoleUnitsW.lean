/-
  Proved: for every three integers, the same place told in digits with noughts ahead or without, with a point, in inches or millimetres, is the same hole (heliographlaw20.HoleUnits returns true). Conditions: the row's own (the package-level tables read as the program's text lays them out).
-/
import Derived.Test.YtecpmnkgikcpnaaDoorHyB
import Derived.Test.YtecpmnkgikcpnaaDoorBits
import Derived.ProofKit
set_option linter.unusedVariables false
namespace Go.Proofs.YtecpmnkgikcpnaaDoor.HoleUnits
open Go.ChangeShapes Go.WideShapes Go.ChangeAt Go.WideMaps Go.WideElems Go.RowKit
open Go.Proofs.YtecpmnkgikcpnaaDoor.Dp Go.Proofs.YtecpmnkgikcpnaaDoor.Base Go.Proofs.YtecpmnkgikcpnaaDoor.DeciW Go.Proofs.YtecpmnkgikcpnaaDoor.Xp Go.Proofs.YtecpmnkgikcpnaaDoor.Hp Go.Proofs.YtecpmnkgikcpnaaDoor.XW Go.Proofs.YtecpmnkgikcpnaaDoor.HW

theorem one_new (w : World) (s : Sh) : OneSh (w.alloc (shObj s)) (some ⟨w.heap.size, 0, none⟩) s := by
  have h := heap_alloc_new w (shObj s)
  generalize w.alloc (shObj s) = W at h ⊢
  refine ⟨w.heap.size, 0, rfl, (Array.getElem?_eq_some_iff.1 h).1, fun i v hi => ?_⟩
  rw [Nat.zero_add]
  simp only [World.cell?, h]
  exact hi
set_option maxHeartbeats 800000 in
theorem six_c (n : Nat) (hn : n ≤ 16383) (S : ByteArray) (hS : Hid (S.data.toList = numL n 6)) (w : World) :
    Calls Tryd.prog 7 #[.int .i64 (n : Int)] w fun e w' => e = .returned (.string S) ∧ w = w' := by
  go_enter Tryd.func7, Tryd.ntmps7
  go_wp2_with fail
  refine (num_at n 6 6 rfl (by omega) _ (Lib.hid (Eq.refl _)) (by omega) (by omega) S hS _).mono ?_
  rintro e w' ⟨rfl, rfl⟩
  go_wp2_with fail
  go_ret
  exact ⟨rfl, rfl⟩

set_option maxRecDepth 100000 in
set_option maxHeartbeats 32000000 in
theorem walk (x0 : Int) (_h00 : -9223372036854775808 ≤ x0) (_h01 : x0 ≤ 9223372036854775807) (x1 : Int) (_h10 : -9223372036854775808 ≤ x1) (_h11 : x1 ≤ 9223372036854775807) (x2 : Int) (_h20 : -9223372036854775808 ≤ x2) (_h21 : x2 ≤ 9223372036854775807) (w : World) (hM : MaxIs w) :
    Calls Tryd.prog 3 #[.int .i64 x0, .int .i64 x1, .int .i64 x2] w fun e w' => e = .returned (.bool true) ∧ Below w.heap.size w w' := by
  have HM := Lib.hid hM
  clear hM _h00 _h01 _h10 _h11 _h20 _h21
  obtain ⟨X, hX, hX1⟩ : ∃ X : Nat, bits .and .i64 x0 16383 = (X : Int) ∧ X ≤ 16383 := ⟨(x0 % 16384).toNat, by rw [Bits.and16383]; omega, by omega⟩
  obtain ⟨Y, hY, hY1⟩ : ∃ Y : Nat, bits .and .i64 x1 16383 = (Y : Int) ∧ Y ≤ 16383 := ⟨(x1 % 16384).toNat, by rw [Bits.and16383]; omega, by omega⟩
  obtain ⟨d, hd, hd1, hd2⟩ : ∃ d : Nat, bits .and .i64 x2 15 = (d : Int) - 1 ∧ 1 ≤ d ∧ d ≤ 16 := ⟨(x2 % 16).toNat + 1, by rw [Bits.and15]; omega, by omega, by omega⟩
  go_enter Tryd.func3, Tryd.ntmps3
  go_upto_region 3 with fail
  clear hX hY hd
  obtain ⟨V1, hV1⟩ := str_ex (textL (10000 * (d : Int)))
  have HV1 := Lib.hid hV1
  have v1 : V1.size ≤ 14 := by rw [← len_list, hV1]; exact text_length ((okN_iff _).2 ⟨by omega, by omega⟩)
  clear hV1
  go_wp2_with fail
  refine (rtext_any (10000 * (d : Int)) (by omega) (by omega) V1 HV1 _).mono ?_
  rintro e w' ⟨rfl, rfl⟩
  go_upto_region 4 with fail
  obtain ⟨T, hT⟩ : ∃ T : ByteArray, (⟨#[84, 49, 67]⟩ ++ V1 ++ ⟨#[10, 37, 10, 84, 49, 10]⟩ : ByteArray) = T := ⟨_, rfl⟩
  rw [hT]
  have HTT : Hid (T.data.toList = 84 :: 49 :: 67 :: (bodyL (10000 * d) ++ [10, 37, 10, 84, 49, 10])) := by
    show _ = _
    rw [← hT, app_list, app_list, HV1.out, show 10000 * (d : Int) = ((10000 * d : Nat) : Int) by omega, textL_nonneg _ (by omega)]
    rfl
  have t1 : T.size ≤ 24 := by rw [← len_list, ← hT, app_list, app_list, List.length_append, List.length_append, len_list V1]; simp; omega
  clear hT v1
  obtain ⟨A1, hA1⟩ := str_ex (numL X 6)
  obtain ⟨B1, hB1⟩ := str_ex (numL Y 6)
  have HA1 := Lib.hid hA1
  have HB1 := Lib.hid hB1
  have a1 : A1.size ≤ 20 := by rw [← len_list, hA1]; exact (num_Way (x := X) (n := 6) (by omega) (.inr rfl)).1.l
  have b1 : B1.size ≤ 20 := by rw [← len_list, hB1]; exact (num_Way (x := Y) (n := 6) (by omega) (.inr rfl)).1.l
  clear hA1 hB1
  go_wp2_with fail
  refine (six_c X hX1 A1 HA1 _).mono ?_
  rintro e w' ⟨rfl, rfl⟩
  go_wp2_with fail
  refine (six_c Y hY1 B1 HB1 _).mono ?_
  rintro e w' ⟨rfl, rfl⟩
  go_wp2_with fail
  obtain ⟨F1, hF1⟩ : ∃ F : ByteArray, (⟨#[77, 52, 56, 10, 73, 78, 67, 72, 44, 76, 90, 10]⟩ ++ T ++ ⟨#[88]⟩ ++ A1 ++ ⟨#[89]⟩ ++ B1 ++ ⟨#[10, 77, 51, 48, 10]⟩ : ByteArray) = F := ⟨_, rfl⟩
  have hl1 : F1.data.toList = ((oneL [73, 78, 67, 72, 44, 76, 90] { kd 3 with n := 2 } (10000 * d) (numL X 6) (numL Y 6)).map fun x => x.1 ++ [10]).flatten := by
    rw [← hF1]
    simp only [app_list, HTT.out, HA1.out, HB1.out]
    simp [oneL]
  have hz1 : F1.size ≤ maxLen := by
    rw [← len_list, ← hF1]
    simp only [app_list, List.length_append, len_list]
    unfold maxLen
    simp
    omega
  have HF1 : Hid (fileV F1.data.toList 5 = ([discS (25400 * X) (25400 * Y) (1270000 * d)], 0, 0)) := by
    show _ = _
    rw [hl1]
    exact file_lz X Y d hX1 hY1 hd1 hd2
  rw [hF1]
  clear hF1 hl1
  refine (file_c F1 hz1 5 (by omega) (by omega) _ HM _ 0 0 HF1).mono ?_
  rintro e w1 ⟨v, rfl, hb, ho⟩
  obtain ⟨p1, c1, rfl, hs⟩ := OneSh.of ho
  have HS1 := Lib.hid hs
  have HBL := Lib.hid hb
  have HMn := Lib.hid (HM.out.below hb)
  clear HM
  have HM := HMn
  clear HMn hb ho hs hz1 HF1
  clear a1 b1 HA1 HB1
  obtain ⟨A2, hA2⟩ := str_ex (numL X 1)
  have HA2 := Lib.hid hA2
  have sA2 : A2.size ≤ 20 := by rw [← len_list, hA2]; exact (num_Way (x := X) (n := 1) (by omega) (.inl rfl)).1.l
  clear hA2
  obtain ⟨B2, hB2⟩ := str_ex (numL Y 1)
  have HB2 := Lib.hid hB2
  have sB2 : B2.size ≤ 20 := by rw [← len_list, hB2]; exact (num_Way (x := Y) (n := 1) (by omega) (.inl rfl)).1.l
  clear hB2
  go_wp2_with fail
  refine (num_at X 1 1 rfl (by omega) _ (Lib.hid (Eq.refl _)) (by omega) (by omega) A2 HA2 _).mono ?_
  rintro e w' ⟨rfl, rfl⟩
  go_wp2_with fail
  refine (num_at Y 1 1 rfl (by omega) _ (Lib.hid (Eq.refl _)) (by omega) (by omega) B2 HB2 _).mono ?_
  rintro e w' ⟨rfl, rfl⟩
  go_wp2_with fail
  obtain ⟨F2, hF2⟩ : ∃ F : ByteArray, (⟨#[77, 52, 56, 10, 73, 78, 67, 72, 44, 84, 90, 10]⟩ ++ T ++ ⟨#[88]⟩ ++ A2 ++ ⟨#[89]⟩ ++ B2 ++ ⟨#[10, 77, 51, 48, 10]⟩ : ByteArray) = F := ⟨_, rfl⟩
  have hl2 : F2.data.toList = ((oneL [73, 78, 67, 72, 44, 84, 90] { kd 3 with n := 2, on := true } (10000 * d) (numL X 1) (numL Y 1)).map fun x => x.1 ++ [10]).flatten := by
    rw [← hF2]
    simp only [app_list, HTT.out, HA2.out, HB2.out]
    simp [oneL]
  have hz2 : F2.size ≤ maxLen := by
    rw [← len_list, ← hF2]
    simp only [app_list, List.length_append, len_list]
    unfold maxLen
    simp
    omega
  have HF2 : Hid (fileV F2.data.toList 5 = ([discS (25400 * X) (25400 * Y) (1270000 * d)], 0, 0)) := by
    show _ = _
    rw [hl2]
    exact file_tz X Y d hX1 hY1 hd1 hd2
  rw [hF2]
  clear hF2 hl2
  refine (file_c F2 hz2 5 (by omega) (by omega) _ HM _ 0 0 HF2).mono ?_
  rintro e w2 ⟨v, rfl, hb, ho⟩
  obtain ⟨p2, c2, rfl, hs⟩ := OneSh.of ho
  have HS2 := Lib.hid hs
  have HS1n := Lib.hid (HS1.out.below hb)
  clear HS1
  have HS1 := HS1n
  clear HS1n
  have HBLn := Lib.hid (HBL.out.trans (hb.mono HBL.out.size))
  clear HBL
  have HBL := HBLn
  clear HBLn
  have HMn := Lib.hid (HM.out.below hb)
  clear HM
  have HM := HMn
  clear HMn hb ho hs hz2 HF2
  clear sA2 sB2 HA2 HB2
  obtain ⟨P1, hP1⟩ := str_ex (bodyL (100 * X))
  have HP1 := Lib.hid hP1
  have sP1 : P1.size ≤ 20 := by rw [← len_list, hP1]; have := body_length (100 * X) (by omega); omega
  have TP1 : Hid (P1.data.toList = textL (100 * (X : Int))) := by
    show _ = _
    rw [hP1, show (100 : Int) * (X : Int) = ((100 * X : Nat) : Int) by omega, textL_nonneg _ (by omega)]
  clear hP1
  obtain ⟨P2, hP2⟩ := str_ex (bodyL (100 * Y))
  have HP2 := Lib.hid hP2
  have sP2 : P2.size ≤ 20 := by rw [← len_list, hP2]; have := body_length (100 * Y) (by omega); omega
  have TP2 : Hid (P2.data.toList = textL (100 * (Y : Int))) := by
    show _ = _
    rw [hP2, show (100 : Int) * (Y : Int) = ((100 * Y : Nat) : Int) by omega, textL_nonneg _ (by omega)]
  clear hP2
  obtain ⟨Q1, hQ1⟩ := str_ex (if (100 * X) % 1000000 = 0 then [46] else [])
  have HQ1 := Lib.hid hQ1
  have sQ1 : Q1.size ≤ 1 := by rw [← len_list, hQ1]; split <;> simp
  clear hQ1
  obtain ⟨Q2, hQ2⟩ := str_ex (if (100 * Y) % 1000000 = 0 then [46] else [])
  have HQ2 := Lib.hid hQ2
  have sQ2 : Q2.size ≤ 1 := by rw [← len_list, hQ2]; split <;> simp
  clear hQ2
  go_wp2_with fail
  refine (rtext_any (100 * (X : Int)) (by omega) (by omega) P1 TP1 _).mono ?_
  rintro e w' ⟨rfl, rfl⟩
  go_wp2_with fail
  rw [show (100 : Int) * (X : Int) = ((100 * X : Nat) : Int) by omega]
  refine (pointed_c (100 * X) (by omega) Q1 HQ1 _).mono ?_
  rintro e w' ⟨rfl, rfl⟩
  go_wp2_with fail
  refine (rtext_any (100 * (Y : Int)) (by omega) (by omega) P2 TP2 _).mono ?_
  rintro e w' ⟨rfl, rfl⟩
  go_wp2_with fail
  rw [show (100 : Int) * (Y : Int) = ((100 * Y : Nat) : Int) by omega]
  refine (pointed_c (100 * Y) (by omega) Q2 HQ2 _).mono ?_
  rintro e w' ⟨rfl, rfl⟩
  go_wp2_with fail
  obtain ⟨F3, hF3⟩ : ∃ F : ByteArray, (⟨#[77, 52, 56, 10, 73, 78, 67, 72, 10]⟩ ++ T ++ ⟨#[88]⟩ ++ P1 ++ Q1 ++ ⟨#[89]⟩ ++ P2 ++ Q2 ++ ⟨#[10, 77, 51, 48, 10]⟩ : ByteArray) = F := ⟨_, rfl⟩
  have hl3 : F3.data.toList = ((oneL [73, 78, 67, 72] { kd 3 with n := 2 } (10000 * d) (ptL (100 * X)) (ptL (100 * Y))).map fun x => x.1 ++ [10]).flatten := by
    rw [← hF3]
    simp only [app_list, HTT.out, HP1.out, HQ1.out, HP2.out, HQ2.out]
    simp [oneL, ptL]
  have hz3 : F3.size ≤ maxLen := by
    rw [← len_list, ← hF3]
    simp only [app_list, List.length_append, len_list]
    unfold maxLen
    simp
    omega
  have HF3 : Hid (fileV F3.data.toList 5 = ([discS (25400 * X) (25400 * Y) (1270000 * d)], 0, 0)) := by
    show _ = _
    rw [hl3]
    exact file_pt X Y d hX1 hY1 hd1 hd2
  rw [hF3]
  clear hF3 hl3
  refine (file_c F3 hz3 5 (by omega) (by omega) _ HM _ 0 0 HF3).mono ?_
  rintro e w3 ⟨v, rfl, hb, ho⟩
  obtain ⟨p3, c3, rfl, hs⟩ := OneSh.of ho
  have HS3 := Lib.hid hs
  have HS1n := Lib.hid (HS1.out.below hb)
  have HS2n := Lib.hid (HS2.out.below hb)
  clear HS1 HS2
  have HS1 := HS1n
  clear HS1n
  have HS2 := HS2n
  clear HS2n
  have HBLn := Lib.hid (HBL.out.trans (hb.mono HBL.out.size))
  clear HBL
  have HBL := HBLn
  clear HBLn
  have HMn := Lib.hid (HM.out.below hb)
  clear HM
  have HM := HMn
  clear HMn hb ho hs hz3 HF3
  clear sP1 sP2 sQ1 sQ2 HP1 HP2 HQ1 HQ2 TP1 TP2 t1 HTT
  obtain ⟨V2, hV2⟩ := str_ex (bodyL (254000 * d))
  have HV2 := Lib.hid hV2
  have sV2 : V2.size ≤ 20 := by rw [← len_list, hV2]; have := body_length (254000 * d) (by omega); omega
  have TV2 : Hid (V2.data.toList = textL (254000 * (d : Int))) := by
    show _ = _
    rw [hV2, show (254000 : Int) * (d : Int) = ((254000 * d : Nat) : Int) by omega, textL_nonneg _ (by omega)]
  clear hV2
  obtain ⟨P3, hP3⟩ := str_ex (bodyL (2540 * X))
  have HP3 := Lib.hid hP3
  have sP3 : P3.size ≤ 20 := by rw [← len_list, hP3]; have := body_length (2540 * X) (by omega); omega
  have TP3 : Hid (P3.data.toList = textL (2540 * (X : Int))) := by
    show _ = _
    rw [hP3, show (2540 : Int) * (X : Int) = ((2540 * X : Nat) : Int) by omega, textL_nonneg _ (by omega)]
  clear hP3
  obtain ⟨P4, hP4⟩ := str_ex (bodyL (2540 * Y))
  have HP4 := Lib.hid hP4
  have sP4 : P4.size ≤ 20 := by rw [← len_list, hP4]; have := body_length (2540 * Y) (by omega); omega
  have TP4 : Hid (P4.data.toList = textL (2540 * (Y : Int))) := by
    show _ = _
    rw [hP4, show (2540 : Int) * (Y : Int) = ((2540 * Y : Nat) : Int) by omega, textL_nonneg _ (by omega)]
  clear hP4
  obtain ⟨Q3, hQ3⟩ := str_ex (if (2540 * X) % 1000000 = 0 then [46] else [])
  have HQ3 := Lib.hid hQ3
  have sQ3 : Q3.size ≤ 1 := by rw [← len_list, hQ3]; split <;> simp
  clear hQ3
  obtain ⟨Q4, hQ4⟩ := str_ex (if (2540 * Y) % 1000000 = 0 then [46] else [])
  have HQ4 := Lib.hid hQ4
  have sQ4 : Q4.size ≤ 1 := by rw [← len_list, hQ4]; split <;> simp
  clear hQ4
  go_wp2_with fail
  refine (rtext_any (254000 * (d : Int)) (by omega) (by omega) V2 TV2 _).mono ?_
  rintro e w' ⟨rfl, rfl⟩
  go_wp2_with fail
  refine (rtext_any (2540 * (X : Int)) (by omega) (by omega) P3 TP3 _).mono ?_
  rintro e w' ⟨rfl, rfl⟩
  go_wp2_with fail
  rw [show (2540 : Int) * (X : Int) = ((2540 * X : Nat) : Int) by omega]
  refine (pointed_c (2540 * X) (by omega) Q3 HQ3 _).mono ?_
  rintro e w' ⟨rfl, rfl⟩
  go_wp2_with fail
  refine (rtext_any (2540 * (Y : Int)) (by omega) (by omega) P4 TP4 _).mono ?_
  rintro e w' ⟨rfl, rfl⟩
  go_wp2_with fail
  rw [show (2540 : Int) * (Y : Int) = ((2540 * Y : Nat) : Int) by omega]
  refine (pointed_c (2540 * Y) (by omega) Q4 HQ4 _).mono ?_
  rintro e w' ⟨rfl, rfl⟩
  go_wp2_with fail
  obtain ⟨F4, hF4⟩ : ∃ F : ByteArray, (⟨#[77, 52, 56, 10, 77, 69, 84, 82, 73, 67, 10, 84, 49, 67]⟩ ++ V2 ++ ⟨#[10, 37, 10, 84, 49, 10, 88]⟩ ++ P3 ++ Q3 ++ ⟨#[89]⟩ ++ P4 ++ Q4 ++ ⟨#[10, 77, 51, 48, 10]⟩ : ByteArray) = F := ⟨_, rfl⟩
  have hl4 : F4.data.toList = ((oneL [77, 69, 84, 82, 73, 67] { kd 3 with n := 1 } (254000 * d) (ptL (2540 * X)) (ptL (2540 * Y))).map fun x => x.1 ++ [10]).flatten := by
    rw [← hF4]
    simp only [app_list, HV2.out, HP3.out, HQ3.out, HP4.out, HQ4.out]
    simp [oneL, ptL]
  have hz4 : F4.size ≤ maxLen := by
    rw [← len_list, ← hF4]
    simp only [app_list, List.length_append, len_list]
    unfold maxLen
    simp
    omega
  have HF4 : Hid (fileV F4.data.toList 5 = ([discS (25400 * X) (25400 * Y) (1270000 * d)], 0, 0)) := by
    show _ = _
    rw [hl4]
    exact file_mm X Y d hX1 hY1 hd1 hd2
  rw [hF4]
  clear hF4 hl4
  refine (file_c F4 hz4 5 (by omega) (by omega) _ HM _ 0 0 HF4).mono ?_
  rintro e w4 ⟨v, rfl, hb, ho⟩
  obtain ⟨p4, c4, rfl, hs⟩ := OneSh.of ho
  have HS4 := Lib.hid hs
  have HS1n := Lib.hid (HS1.out.below hb)
  have HS2n := Lib.hid (HS2.out.below hb)
  have HS3n := Lib.hid (HS3.out.below hb)
  clear HS1 HS2 HS3
  have HS1 := HS1n
  clear HS1n
  have HS2 := HS2n
  clear HS2n
  have HS3 := HS3n
  clear HS3n
  have HBLn := Lib.hid (HBL.out.trans (hb.mono HBL.out.size))
  clear HBL
  have HBL := HBLn
  clear HBLn
  have HMn := Lib.hid (HM.out.below hb)
  clear HM
  have HM := HMn
  clear HMn hb ho hs hz4 HF4
  clear sP3 sP4 sQ3 sQ4 sV2 HP3 HP4 HQ3 HQ4 HV2 TP3 TP4 TV2
  go_upto_region 9 with fail
  have HW : Hid (OneSh (w4.alloc (.cells #[.int .i64 1, .int .i64 (25400 * X), .int .i64 (25400 * Y), .int .i64 0, .int .i64 0, .int .i64 0, .int .i64 0, .int .i64 (1270000 * d), .slice none 0 0, .slice none 0 0] 33)) (some ⟨w4.heap.size, 0, none⟩) (discS (25400 * X) (25400 * Y) (1270000 * d))) := one_new w4 (discS (25400 * X) (25400 * Y) (1270000 * d))
  have hnew : Below w4.heap.size w4 (w4.alloc (.cells #[.int .i64 1, .int .i64 (25400 * X), .int .i64 (25400 * Y), .int .i64 0, .int .i64 0, .int .i64 0, .int .i64 0, .int .i64 (1270000 * d), .slice none 0 0, .slice none 0 0] 33)) := (Below.refl _ _).alloc (Nat.le_refl _) _
  have HG := Lib.hid (And.intro (HBL.out.trans (hnew.mono HBL.out.size)) (And.intro (HM.out.below hnew) (And.intro (HS1.out.below hnew) (And.intro (HS2.out.below hnew) (And.intro (HS3.out.below hnew) (HS4.out.below hnew))))))
  clear hnew HBL HM HS1 HS2 HS3 HS4
  generalize (w4.alloc (.cells #[.int .i64 1, .int .i64 (25400 * X), .int .i64 (25400 * Y), .int .i64 0, .int .i64 0, .int .i64 0, .int .i64 0, .int .i64 (1270000 * d), .slice none 0 0, .slice none 0 0] 33)) = u0 at HW HG ⊢
  obtain ⟨pw, hpw⟩ : ∃ pw, (some ⟨w4.heap.size, 0, none⟩ : Option Addr) = pw := ⟨_, rfl⟩
  rw [hpw] at HW ⊢
  clear hpw
  go_wp2_with fail
  refine (shapes_eq (discS (25400 * X) (25400 * Y) (1270000 * d)) p1 pw c1 1 u0 (Lib.hid HG.out.2.2.1) HW).mono ?_
  rintro e u1 ⟨rfl, hb⟩
  have HGn := Lib.hid (And.intro (HG.out.1.trans (hb.mono HG.out.1.size)) (And.intro (HG.out.2.1.below hb) (And.intro (HG.out.2.2.1.below hb) (And.intro (HG.out.2.2.2.1.below hb) (And.intro (HG.out.2.2.2.2.1.below hb) (HG.out.2.2.2.2.2.below hb))))))
  have HWn := Lib.hid (HW.out.below hb)
  clear hb HG HW
  have HG := HGn
  have HW := HWn
  clear HGn HWn
  go_wp2_with fail
  refine (shapes_eq (discS (25400 * X) (25400 * Y) (1270000 * d)) p2 pw c2 1 u1 (Lib.hid HG.out.2.2.2.1) HW).mono ?_
  rintro e u2 ⟨rfl, hb⟩
  have HGn := Lib.hid (And.intro (HG.out.1.trans (hb.mono HG.out.1.size)) (And.intro (HG.out.2.1.below hb) (And.intro (HG.out.2.2.1.below hb) (And.intro (HG.out.2.2.2.1.below hb) (And.intro (HG.out.2.2.2.2.1.below hb) (HG.out.2.2.2.2.2.below hb))))))
  have HWn := Lib.hid (HW.out.below hb)
  clear hb HG HW
  have HG := HGn
  have HW := HWn
  clear HGn HWn
  go_wp2_with fail
  refine (shapes_eq (discS (25400 * X) (25400 * Y) (1270000 * d)) p3 pw c3 1 u2 (Lib.hid HG.out.2.2.2.2.1) HW).mono ?_
  rintro e u3 ⟨rfl, hb⟩
  have HGn := Lib.hid (And.intro (HG.out.1.trans (hb.mono HG.out.1.size)) (And.intro (HG.out.2.1.below hb) (And.intro (HG.out.2.2.1.below hb) (And.intro (HG.out.2.2.2.1.below hb) (And.intro (HG.out.2.2.2.2.1.below hb) (HG.out.2.2.2.2.2.below hb))))))
  have HWn := Lib.hid (HW.out.below hb)
  clear hb HG HW
  have HG := HGn
  have HW := HWn
  clear HGn HWn
  go_wp2_with fail
  refine (shapes_eq (discS (25400 * X) (25400 * Y) (1270000 * d)) p4 pw c4 1 u3 (Lib.hid HG.out.2.2.2.2.2) HW).mono ?_
  rintro e u4 ⟨rfl, hb⟩
  have HGn := Lib.hid (And.intro (HG.out.1.trans (hb.mono HG.out.1.size)) (And.intro (HG.out.2.1.below hb) (And.intro (HG.out.2.2.1.below hb) (And.intro (HG.out.2.2.2.1.below hb) (And.intro (HG.out.2.2.2.2.1.below hb) (HG.out.2.2.2.2.2.below hb))))))
  have HWn := Lib.hid (HW.out.below hb)
  clear hb HG HW
  have HG := HGn
  have HW := HWn
  clear HGn HWn
  go_wp2_with fail
  refine (hawake_c u4 (Lib.hid HG.out.2.1)).mono ?_
  rintro e u5 ⟨rfl, hb⟩
  have HE := Lib.hid (HG.out.1.trans (hb.mono HG.out.1.size))
  clear hb HG HW
  go_wp2_with fail
  go_ret
  exact ⟨rfl, HE.out⟩
end Go.Proofs.YtecpmnkgikcpnaaDoor.HoleUnits
