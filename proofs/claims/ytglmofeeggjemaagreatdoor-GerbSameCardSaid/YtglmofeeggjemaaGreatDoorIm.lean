/-
  The walk of the statements' Line.
-/
import Derived.Test.YtglmofeeggjemaaGreatDoorIl
import Derived.Test.YtglmofeeggjemaaGreatDoorIk
import Derived.Test.YtglmofeeggjemaaGreatDoorIo
set_option linter.unusedVariables false
namespace Go.Proofs.YtglmofeeggjemaaGreatDoor.GW
open Go.RowKit Go.Proofs.YtglmofeeggjemaaGreatDoor.Base Go.Proofs.YtglmofeeggjemaaGreatDoor.Dp Go.Proofs.YtglmofeeggjemaaGreatDoor.DeciW Go.Proofs.YtglmofeeggjemaaGreatDoor.Mem Go.Proofs.YtglmofeeggjemaaGreatDoor.RdW Go.Proofs.YtglmofeeggjemaaGreatDoor.Gp

set_option maxRecDepth 100000 in
set_option maxHeartbeats 25600000 in
theorem line15_c (n : Int) (p : Option Addr) (l : List Int) (c : Nat) (hl : l.length ≤ 100) (hc : l.length ≤ c) (hcm : c ≤ 9223372036854775807) (w : World) (hz : Hid (Zs w p l)) (hp : Hid (∃ b o, p = some ⟨b, o, none⟩)) :
    Calls Tryz.prog 13 #[.int .i64 n, .slice p l.length c] w fun e w' => (∃ R, e = .returned (.string R) ∧ LineOk R) ∧ Below w.heap.size w w' := by
  obtain ⟨m, hm, hm20⟩ : ∃ m : Nat, bits .and .i64 n 255 = (m : Int) ∧ m ≤ 255 := ⟨(n % 256).toNat, by rw [Bits.and255]; omega, by omega⟩
  obtain ⟨k, hk, hk20⟩ : ∃ k : Nat, (m : Int) % 30 = (k : Int) ∧ k ≤ 29 := ⟨m % 30, by omega, by omega⟩
  by_cases hk9 : k = 9
  · exact line15_9 n m hm hm20 k hk hk9 p l c hl hc hcm w hz hp
  have HL : Hid (LnAt w p l c (w.alloc (.cells #[.slice p l.length c] 22))) := ln_new w hz.out
  clear hm20
  go_enter Tryz.func13, Tryz.ntmps13
  go_upto_region 1 with fail
  generalize w.alloc (.cells #[.slice p l.length c] 22) = W at HL ⊢
  go_wp2_with fail
  refine (at_x 0 (by decide) (by decide) HL).mono ?_
  rintro e w' ⟨v, rfl, rfl⟩
  obtain ⟨r, hr, hr0, hr1⟩ : ∃ r, bits .and .i64 v 7 = r ∧ 0 ≤ r ∧ r ≤ 7 := ⟨_, rfl, by rw [Bits.and7]; omega, by rw [Bits.and7]; omega⟩
  go_wp2_with fail
  refine (num_p _ (by omega) (by omega) _).mono ?_
  rintro e w' ⟨C, rfl, hC, hC1, rfl⟩
  have hC5 := hC.2
  have HC := Lib.hid hC
  clear hC hr hr0 hr1
  have HL2 : Hid (LnAt w p l c (W.alloc (.cells #[.string ⟨#[67]⟩, .string ⟨#[82]⟩, .string ⟨#[79]⟩, .string ⟨#[77, 49]⟩, .string ⟨#[77, 50]⟩] 9))) := HL.out.below ((Below.refl _ _).alloc (Nat.le_refl _) _)
  go_wp2_with fail
  refine (at_x 1 (by decide) (by decide) HL2).mono ?_
  rintro e w' ⟨v1, rfl, rfl⟩
  obtain ⟨m1, hm1, hm12⟩ : ∃ m : Nat, bits .and .i64 v1 255 = (m : Int) ∧ m ≤ 255 := ⟨(v1 % 256).toNat, by rw [Bits.and255]; omega, by omega⟩
  obtain ⟨k1, hk1, hk12⟩ : ∃ k : Nat, (m1 : Int) % 5 = (k : Int) ∧ k ≤ 4 := ⟨m1 % 5, by omega, by omega⟩
  have hki : (k1 : Int) < 5 := by omega
  obtain ⟨Nm, hsel, hN1, hN2, hN3⟩ : ∃ X, (W.alloc (.cells #[.string ⟨#[67]⟩, .string ⟨#[82]⟩, .string ⟨#[79]⟩, .string ⟨#[77, 49]⟩, .string ⟨#[77, 50]⟩] 9)).cell? ⟨W.heap.size, k1, none⟩ = some (.string X) ∧ X.size ≤ 10 ∧ 1 ≤ X.size ∧ TokS X 10 := sel_gen W ([⟨#[67]⟩, ⟨#[82]⟩, ⟨#[79]⟩, ⟨#[77, 49]⟩, ⟨#[77, 50]⟩] : List ByteArray) k1 (fun X => X.size ≤ 10 ∧ 1 ≤ X.size ∧ TokS X 10) (by show k1 < 5; omega) (List.forall_mem_cons.2 ⟨⟨by decide, by decide, lit_tok _ _ (by decide) (by decide)⟩, (List.forall_mem_cons.2 ⟨⟨by decide, by decide, lit_tok _ _ (by decide) (by decide)⟩, (List.forall_mem_cons.2 ⟨⟨by decide, by decide, lit_tok _ _ (by decide) (by decide)⟩, (List.forall_mem_cons.2 ⟨⟨by decide, by decide, lit_tok _ _ (by decide) (by decide)⟩, (List.forall_mem_cons.2 ⟨⟨by decide, by decide, lit_tok _ _ (by decide) (by decide)⟩, (by intro X hX; cases hX)⟩)⟩)⟩)⟩)⟩)
  have HNM := Lib.hid hN3
  clear hN3 hm12
  go_upto_region 5 with fail
  clear hsel hki hk1 hk12 hm1
  generalize W.alloc (.cells #[.string ⟨#[67]⟩, .string ⟨#[82]⟩, .string ⟨#[79]⟩, .string ⟨#[77, 49]⟩, .string ⟨#[77, 50]⟩] 9) = W5 at HL2 ⊢
  clear HL
  have HL := HL2
  clear HL2
  have hk30 : k = 0 ∨ k = 1 ∨ k = 2 ∨ k = 3 ∨ k = 4 ∨ k = 5 ∨ k = 6 ∨ k = 7 ∨ k = 8 ∨ k = 10 ∨ k = 11 ∨ k = 12 ∨ k = 13 ∨ k = 14 ∨ k = 15 ∨ k = 16 ∨ k = 17 ∨ k = 18 ∨ k = 19 ∨ k = 20 ∨ k = 21 ∨ k = 22 ∨ k = 23 ∨ k = 24 ∨ k = 25 ∨ k = 26 ∨ k = 27 ∨ k = 28 ∨ k = 29 := by omega
  clear hk20
  rcases hk30 with rfl | rfl | rfl | rfl | rfl | rfl | rfl | rfl | rfl | rfl | rfl | rfl | rfl | rfl | rfl | rfl | rfl | rfl | rfl | rfl | rfl | rfl | rfl | rfl | rfl | rfl | rfl | rfl | rfl
  · skip
    go_wp2_with fail
    refine (at_x 0 (by decide) (by decide) HL).mono ?_
    rintro e w' ⟨v00, rfl, rfl⟩
    go_wp2_with fail
    refine (at_x 1 (by decide) (by decide) HL).mono ?_
    rintro e w' ⟨v10, rfl, rfl⟩
    go_wp2_with fail
    refine (at_x 2 (by decide) (by decide) HL).mono ?_
    rintro e w' ⟨v20, rfl, rfl⟩
    go_wp2_with fail
    refine (at_x 3 (by decide) (by decide) HL).mono ?_
    rintro e w' ⟨v30, rfl, rfl⟩
    go_wp2_with fail
    refine (op_c _ _ _ _ _ _).mono ?_
    rintro e w6 ⟨⟨P, R, rfl, h1, h2, h3⟩, h4⟩
    have HH := Lib.hid (And.intro h1 (And.intro h2 (And.intro h3 h4)))
    clear h1 h2 h3 h4
    go_wp2_with fail
    go_ret
    exact ⟨⟨R, rfl, ok_word HH.out.1 (size_pos HH.out.2.1) (by decide) HH.out.2.2.1⟩, HL.out.be.trans (HH.out.2.2.2.mono HL.out.be.size)⟩
  · skip
    go_wp2_with fail
    refine (at_x 0 (by decide) (by decide) HL).mono ?_
    rintro e w' ⟨v00, rfl, rfl⟩
    go_wp2_with fail
    refine (at_x 1 (by decide) (by decide) HL).mono ?_
    rintro e w' ⟨v10, rfl, rfl⟩
    go_wp2_with fail
    refine (at_x 2 (by decide) (by decide) HL).mono ?_
    rintro e w' ⟨v20, rfl, rfl⟩
    go_wp2_with fail
    refine (at_x 3 (by decide) (by decide) HL).mono ?_
    rintro e w' ⟨v30, rfl, rfl⟩
    go_wp2_with fail
    refine (op_c _ _ _ _ _ _).mono ?_
    rintro e w6 ⟨⟨P, R, rfl, h1, h2, h3⟩, h4⟩
    have HH := Lib.hid (And.intro h1 (And.intro h2 (And.intro h3 h4)))
    clear h1 h2 h3 h4
    go_wp2_with fail
    go_ret
    exact ⟨⟨R, rfl, ok_word HH.out.1 (size_pos HH.out.2.1) (by decide) HH.out.2.2.1⟩, HL.out.be.trans (HH.out.2.2.2.mono HL.out.be.size)⟩
  · skip
    go_wp2_with fail
    refine (at_x 0 (by decide) (by decide) HL).mono ?_
    rintro e w' ⟨v00, rfl, rfl⟩
    go_wp2_with fail
    refine (at_x 1 (by decide) (by decide) HL).mono ?_
    rintro e w' ⟨v10, rfl, rfl⟩
    go_wp2_with fail
    refine (at_x 2 (by decide) (by decide) HL).mono ?_
    rintro e w' ⟨v20, rfl, rfl⟩
    go_wp2_with fail
    refine (at_x 3 (by decide) (by decide) HL).mono ?_
    rintro e w' ⟨v30, rfl, rfl⟩
    go_wp2_with fail
    refine (op_c _ _ _ _ _ _).mono ?_
    rintro e w6 ⟨⟨P, R, rfl, h1, h2, h3⟩, h4⟩
    have HH := Lib.hid (And.intro h1 (And.intro h2 (And.intro h3 h4)))
    clear h1 h2 h3 h4
    go_wp2_with fail
    go_ret
    exact ⟨⟨R, rfl, ok_word HH.out.1 (size_pos HH.out.2.1) (by decide) HH.out.2.2.1⟩, HL.out.be.trans (HH.out.2.2.2.mono HL.out.be.size)⟩
  · skip
    go_wp2_with fail
    refine (at_x 0 (by decide) (by decide) HL).mono ?_
    rintro e w' ⟨v00, rfl, rfl⟩
    go_wp2_with fail
    refine (at_x 1 (by decide) (by decide) HL).mono ?_
    rintro e w' ⟨v10, rfl, rfl⟩
    go_wp2_with fail
    refine (at_x 2 (by decide) (by decide) HL).mono ?_
    rintro e w' ⟨v20, rfl, rfl⟩
    go_wp2_with fail
    refine (at_x 3 (by decide) (by decide) HL).mono ?_
    rintro e w' ⟨v30, rfl, rfl⟩
    go_wp2_with fail
    refine (op_c _ _ _ _ _ _).mono ?_
    rintro e w6 ⟨⟨P, R, rfl, h1, h2, h3⟩, h4⟩
    have HH := Lib.hid (And.intro h1 (And.intro h2 (And.intro h3 h4)))
    clear h1 h2 h3 h4
    go_wp2_with fail
    go_ret
    exact ⟨⟨R, rfl, ok_word HH.out.1 (size_pos HH.out.2.1) (by decide) HH.out.2.2.1⟩, HL.out.be.trans (HH.out.2.2.2.mono HL.out.be.size)⟩
  · skip
    go_wp2_with fail
    refine (at_x 0 (by decide) (by decide) HL).mono ?_
    rintro e w' ⟨v00, rfl, rfl⟩
    go_wp2_with fail
    refine (at_x 1 (by decide) (by decide) HL).mono ?_
    rintro e w' ⟨v10, rfl, rfl⟩
    go_wp2_with fail
    refine (at_x 2 (by decide) (by decide) HL).mono ?_
    rintro e w' ⟨v20, rfl, rfl⟩
    go_wp2_with fail
    refine (at_x 3 (by decide) (by decide) HL).mono ?_
    rintro e w' ⟨v30, rfl, rfl⟩
    go_wp2_with fail
    refine (op_c _ _ _ _ _ _).mono ?_
    rintro e w6 ⟨⟨P, R, rfl, h1, h2, h3⟩, h4⟩
    have HH := Lib.hid (And.intro h1 (And.intro h2 (And.intro h3 h4)))
    clear h1 h2 h3 h4
    go_wp2_with fail
    go_ret
    exact ⟨⟨R, rfl, ok_word HH.out.1 (size_pos HH.out.2.1) (by decide) HH.out.2.2.1⟩, HL.out.be.trans (HH.out.2.2.2.mono HL.out.be.size)⟩
  · skip
    go_wp2_with fail
    refine (at_x 0 (by decide) (by decide) HL).mono ?_
    rintro e w' ⟨v00, rfl, rfl⟩
    go_wp2_with fail
    refine (at_x 1 (by decide) (by decide) HL).mono ?_
    rintro e w' ⟨v10, rfl, rfl⟩
    go_wp2_with fail
    refine (at_x 2 (by decide) (by decide) HL).mono ?_
    rintro e w' ⟨v20, rfl, rfl⟩
    go_wp2_with fail
    refine (at_x 3 (by decide) (by decide) HL).mono ?_
    rintro e w' ⟨v30, rfl, rfl⟩
    go_wp2_with fail
    refine (op_c _ _ _ _ _ _).mono ?_
    rintro e w6 ⟨⟨P, R, rfl, h1, h2, h3⟩, h4⟩
    have HH := Lib.hid (And.intro h1 (And.intro h2 (And.intro h3 h4)))
    clear h1 h2 h3 h4
    go_wp2_with fail
    go_ret
    exact ⟨⟨R, rfl, ok_word HH.out.1 (size_pos HH.out.2.1) (by decide) HH.out.2.2.1⟩, HL.out.be.trans (HH.out.2.2.2.mono HL.out.be.size)⟩
  · skip
    go_wp2_with fail
    refine (at_x 0 (by decide) (by decide) HL).mono ?_
    rintro e w' ⟨v00, rfl, rfl⟩
    go_wp2_with fail
    refine (at_x 1 (by decide) (by decide) HL).mono ?_
    rintro e w' ⟨v10, rfl, rfl⟩
    go_wp2_with fail
    refine (at_x 2 (by decide) (by decide) HL).mono ?_
    rintro e w' ⟨v20, rfl, rfl⟩
    go_wp2_with fail
    refine (at_x 3 (by decide) (by decide) HL).mono ?_
    rintro e w' ⟨v30, rfl, rfl⟩
    go_wp2_with fail
    refine (op_c _ _ _ _ _ _).mono ?_
    rintro e w6 ⟨⟨P, R, rfl, h1, h2, h3⟩, h4⟩
    have HH := Lib.hid (And.intro h1 (And.intro h2 (And.intro h3 h4)))
    clear h1 h2 h3 h4
    go_wp2_with fail
    go_ret
    exact ⟨⟨R, rfl, ok_word HH.out.1 (size_pos HH.out.2.1) (by decide) HH.out.2.2.1⟩, HL.out.be.trans (HH.out.2.2.2.mono HL.out.be.size)⟩
  · skip
    go_wp2_with fail
    refine (at_x 0 (by decide) (by decide) HL).mono ?_
    rintro e w' ⟨v00, rfl, rfl⟩
    go_wp2_with fail
    refine (at_x 1 (by decide) (by decide) HL).mono ?_
    rintro e w' ⟨v10, rfl, rfl⟩
    go_wp2_with fail
    refine (at_x 2 (by decide) (by decide) HL).mono ?_
    rintro e w' ⟨v20, rfl, rfl⟩
    go_wp2_with fail
    refine (at_x 3 (by decide) (by decide) HL).mono ?_
    rintro e w' ⟨v30, rfl, rfl⟩
    go_wp2_with fail
    refine (op_c _ _ _ _ _ _).mono ?_
    rintro e w6 ⟨⟨P, R, rfl, h1, h2, h3⟩, h4⟩
    have HH := Lib.hid (And.intro h1 (And.intro h2 (And.intro h3 h4)))
    clear h1 h2 h3 h4
    go_wp2_with fail
    go_ret
    exact ⟨⟨R, rfl, ok_word HH.out.1 (size_pos HH.out.2.1) (by decide) HH.out.2.2.1⟩, HL.out.be.trans (HH.out.2.2.2.mono HL.out.be.size)⟩
  · skip
    go_wp2_with fail
    have HL6 : Hid (LnAt w p l c (W5.alloc (.cells #[.string ⟨#[49]⟩, .string ⟨#[50]⟩, .string ⟨#[51]⟩] 9))) := HL.out.below ((Below.refl _ _).alloc (Nat.le_refl _) _)
    refine (at_x 0 (by decide) (by decide) HL6).mono ?_
    rintro e w' ⟨v11, rfl, rfl⟩
    obtain ⟨m1, hm1, hm12⟩ : ∃ m : Nat, bits .and .i64 v11 255 = (m : Int) ∧ m ≤ 255 := ⟨(v11 % 256).toNat, by rw [Bits.and255]; omega, by omega⟩
    obtain ⟨k1, hk1, hk12⟩ : ∃ k : Nat, (m1 : Int) % 3 = (k : Int) ∧ k ≤ 2 := ⟨m1 % 3, by omega, by omega⟩
    have hki : (k1 : Int) < 3 := by omega
    obtain ⟨X, hsel, hX1, hX2, hX3⟩ : ∃ X, (W5.alloc (.cells #[.string ⟨#[49]⟩, .string ⟨#[50]⟩, .string ⟨#[51]⟩] 9)).cell? ⟨W5.heap.size, k1, none⟩ = some (.string X) ∧ X.size ≤ 10 ∧ 1 ≤ X.size ∧ TokS X 10 := sel_gen W5 ([⟨#[49]⟩, ⟨#[50]⟩, ⟨#[51]⟩] : List ByteArray) k1 (fun X => X.size ≤ 10 ∧ 1 ≤ X.size ∧ TokS X 10) (by show k1 < 3; omega) (List.forall_mem_cons.2 ⟨⟨by decide, by decide, lit_tok _ _ (by decide) (by decide)⟩, (List.forall_mem_cons.2 ⟨⟨by decide, by decide, lit_tok _ _ (by decide) (by decide)⟩, (List.forall_mem_cons.2 ⟨⟨by decide, by decide, lit_tok _ _ (by decide) (by decide)⟩, (by intro X hX; cases hX)⟩)⟩)⟩)
    have HX := Lib.hid hX3
    clear hX3
    have z1 : ¬ 9223372036854775807 < 2 + X.size := by omega
    have z2 : ¬ 9223372036854775807 < 2 + X.size + 2 := by omega
    go_wp2_with fail
    go_ret
    exact ⟨⟨_, rfl, ok_word ((lit_tok ⟨#[71, 48]⟩ 2 (by decide) (by decide)).append HX.out) (pos_ap (by decide)) (by decide) (app_list _ _)⟩, HL6.out.be⟩
  · skip
    have HL6 : Hid (LnAt w p l c (W5.alloc (.cells #[.string ⟨#[71, 51, 54, 42, 10]⟩, .string ⟨#[71, 51, 55, 42, 10]⟩] 9))) := HL.out.below ((Below.refl _ _).alloc (Nat.le_refl _) _)
    go_wp2_with fail
    refine (at_x 0 (by decide) (by decide) HL6).mono ?_
    rintro e w' ⟨v, rfl, rfl⟩
    obtain ⟨k1, hk1, hk12⟩ : ∃ k : Nat, bits .and .i64 v 1 = (k : Int) ∧ k ≤ 1 := ⟨(v % 2).toNat, by rw [Bits.and1]; omega, by omega⟩
    have hki : (k1 : Int) < 2 := by omega
    obtain ⟨X, hsel, hX1, hX2⟩ : ∃ X, (W5.alloc (.cells #[.string ⟨#[71, 51, 54, 42, 10]⟩, .string ⟨#[71, 51, 55, 42, 10]⟩] 9)).cell? ⟨W5.heap.size, k1, none⟩ = some (.string X) ∧ X.size ≤ 100 ∧ LineOk X := sel_gen W5 ([⟨#[71, 51, 54, 42, 10]⟩, ⟨#[71, 51, 55, 42, 10]⟩] : List ByteArray) k1 (fun X => X.size ≤ 100 ∧ LineOk X) (by show k1 < 2; omega) (List.forall_mem_cons.2 ⟨⟨by decide, ok_word (P := ⟨#[71, 51, 54]⟩) (lit_tok _ 20 (by decide) (by decide)) (by decide) (by decide) rfl⟩, (List.forall_mem_cons.2 ⟨⟨by decide, ok_word (P := ⟨#[71, 51, 55]⟩) (lit_tok _ 20 (by decide) (by decide)) (by decide) (by decide) rfl⟩, (by intro X hX; cases hX)⟩)⟩)
    have HX := Lib.hid hX2
    clear hX2
    go_wp2_with fail
    go_ret
    exact ⟨⟨_, rfl, HX.out⟩, HL6.out.be⟩
  · skip
    have z2 : ¬ 9223372036854775807 < 1 + C.size + 2 := by omega
    have z1 : ¬ 9223372036854775807 < 1 + C.size := by omega
    go_wp2_with fail
    go_ret
    exact ⟨⟨_, rfl, ok_word ((lit_tok ⟨#[68]⟩ 1 (by decide) (by decide)).append HC.out) (pos_ap (by decide)) (by decide) (app_list _ _)⟩, HL.out.be⟩
  · skip
    have z2 : ¬ 9223372036854775807 < 1 + C.size + 2 := by omega
    have z1 : ¬ 9223372036854775807 < 1 + C.size := by omega
    go_wp2_with fail
    go_ret
    exact ⟨⟨_, rfl, ok_word ((lit_tok ⟨#[68]⟩ 1 (by decide) (by decide)).append HC.out) (pos_ap (by decide)) (by decide) (app_list _ _)⟩, HL.out.be⟩
  · skip
    have z2 : ¬ 9223372036854775807 < 1 + C.size + 2 := by omega
    have z1 : ¬ 9223372036854775807 < 1 + C.size := by omega
    go_wp2_with fail
    go_ret
    exact ⟨⟨_, rfl, ok_word ((lit_tok ⟨#[68]⟩ 1 (by decide) (by decide)).append HC.out) (pos_ap (by decide)) (by decide) (app_list _ _)⟩, HL.out.be⟩
  · skip
    have z3 : ¬ 9223372036854775807 < 4 + C.size + Nm.size + 1 := by omega
    have z2 : ¬ 9223372036854775807 < 4 + C.size + Nm.size := by omega
    have z1 : ¬ 9223372036854775807 < 4 + C.size := by omega
    go_wp2_with fail
    refine (at_x 2 (by decide) (by decide) HL).mono ?_
    rintro e w' ⟨v11, rfl, rfl⟩
    go_wp2_with fail
    refine (d15_c _ _).mono ?_
    rintro e w' ⟨S2, rfl, hS2, hpS2, rfl⟩
    have hzS2 := hS2.2
    have HS2 := Lib.hid hS2
    clear hS2
    have z4 : ¬ 9223372036854775807 < 4 + C.size + Nm.size + 1 + S2.size := by omega
    have z5 : ¬ 9223372036854775807 < 4 + C.size + Nm.size + 1 + S2.size + 1 := by omega
    go_wp2_with fail
    refine (at_x 3 (by decide) (by decide) HL).mono ?_
    rintro e w' ⟨v13, rfl, rfl⟩
    go_wp2_with fail
    refine (d15_c _ _).mono ?_
    rintro e w' ⟨S4, rfl, hS4, hpS4, rfl⟩
    have hzS4 := hS4.2
    have HS4 := Lib.hid hS4
    clear hS4
    have z6 : ¬ 9223372036854775807 < 4 + C.size + Nm.size + 1 + S2.size + 1 + S4.size := by omega
    have z7 : ¬ 9223372036854775807 < 4 + C.size + Nm.size + 1 + S2.size + 1 + S4.size + 3 := by omega
    go_wp2_with fail
    go_ret
    exact ⟨⟨_, rfl, ok_grp (((((((lit_pct ⟨#[37, 65, 68, 68]⟩ [65, 68, 68] 4 rfl (by decide) (by decide) (by decide)).append HC.out).append HNM.out).append (lit_tok ⟨#[44]⟩ 1 (by decide) (by decide))).append HS2.out).append (lit_tok ⟨#[88]⟩ 1 (by decide) (by decide))).append HS4.out) (by decide) (app_list _ _)⟩, HL.out.be⟩
  · skip
    have z3 : ¬ 9223372036854775807 < 4 + C.size + Nm.size + 1 := by omega
    have z2 : ¬ 9223372036854775807 < 4 + C.size + Nm.size := by omega
    have z1 : ¬ 9223372036854775807 < 4 + C.size := by omega
    go_wp2_with fail
    refine (at_x 2 (by decide) (by decide) HL).mono ?_
    rintro e w' ⟨v11, rfl, rfl⟩
    go_wp2_with fail
    refine (d15_c _ _).mono ?_
    rintro e w' ⟨S2, rfl, hS2, hpS2, rfl⟩
    have hzS2 := hS2.2
    have HS2 := Lib.hid hS2
    clear hS2
    have z4 : ¬ 9223372036854775807 < 4 + C.size + Nm.size + 1 + S2.size := by omega
    have z5 : ¬ 9223372036854775807 < 4 + C.size + Nm.size + 1 + S2.size + 1 := by omega
    go_wp2_with fail
    refine (at_x 3 (by decide) (by decide) HL).mono ?_
    rintro e w' ⟨v13, rfl, rfl⟩
    go_wp2_with fail
    refine (d15_c _ _).mono ?_
    rintro e w' ⟨S4, rfl, hS4, hpS4, rfl⟩
    have hzS4 := hS4.2
    have HS4 := Lib.hid hS4
    clear hS4
    have z6 : ¬ 9223372036854775807 < 4 + C.size + Nm.size + 1 + S2.size + 1 + S4.size := by omega
    have z7 : ¬ 9223372036854775807 < 4 + C.size + Nm.size + 1 + S2.size + 1 + S4.size + 3 := by omega
    go_wp2_with fail
    go_ret
    exact ⟨⟨_, rfl, ok_grp (((((((lit_pct ⟨#[37, 65, 68, 68]⟩ [65, 68, 68] 4 rfl (by decide) (by decide) (by decide)).append HC.out).append HNM.out).append (lit_tok ⟨#[44]⟩ 1 (by decide) (by decide))).append HS2.out).append (lit_tok ⟨#[88]⟩ 1 (by decide) (by decide))).append HS4.out) (by decide) (app_list _ _)⟩, HL.out.be⟩
  · skip
    have z2 : ¬ 9223372036854775807 < 4 + C.size + 2 := by omega
    have z1 : ¬ 9223372036854775807 < 4 + C.size := by omega
    go_wp2_with fail
    refine (at_x 2 (by decide) (by decide) HL).mono ?_
    rintro e w' ⟨v11, rfl, rfl⟩
    go_wp2_with fail
    refine (d15_c _ _).mono ?_
    rintro e w' ⟨S2, rfl, hS2, hpS2, rfl⟩
    have hzS2 := hS2.2
    have HS2 := Lib.hid hS2
    clear hS2
    have z3 : ¬ 9223372036854775807 < 4 + C.size + 2 + S2.size := by omega
    have z4 : ¬ 9223372036854775807 < 4 + C.size + 2 + S2.size + 3 := by omega
    go_wp2_with fail
    go_ret
    exact ⟨⟨_, rfl, ok_grp ((((lit_pct ⟨#[37, 65, 68, 68]⟩ [65, 68, 68] 4 rfl (by decide) (by decide) (by decide)).append HC.out).append (lit_tok ⟨#[67, 44]⟩ 2 (by decide) (by decide))).append HS2.out) (by decide) (app_list _ _)⟩, HL.out.be⟩
  · skip
    have HL6 : Hid (LnAt w p l c (W5.alloc (.cells #[.string ⟨#[77, 49]⟩, .string ⟨#[77, 50]⟩] 9))) := HL.out.below ((Below.refl _ _).alloc (Nat.le_refl _) _)
    go_wp2_with fail
    refine (at_x 0 (by decide) (by decide) HL6).mono ?_
    rintro e w' ⟨v, rfl, rfl⟩
    obtain ⟨k1, hk1, hk12⟩ : ∃ k : Nat, bits .and .i64 v 1 = (k : Int) ∧ k ≤ 1 := ⟨(v % 2).toNat, by rw [Bits.and1]; omega, by omega⟩
    have hki : (k1 : Int) < 2 := by omega
    obtain ⟨X, hsel, hX1, hX2, hX3⟩ : ∃ X, (W5.alloc (.cells #[.string ⟨#[77, 49]⟩, .string ⟨#[77, 50]⟩] 9)).cell? ⟨W5.heap.size, k1, none⟩ = some (.string X) ∧ X.size ≤ 10 ∧ 1 ≤ X.size ∧ TokS X 10 := sel_gen W5 ([⟨#[77, 49]⟩, ⟨#[77, 50]⟩] : List ByteArray) k1 (fun X => X.size ≤ 10 ∧ 1 ≤ X.size ∧ TokS X 10) (by show k1 < 2; omega) (List.forall_mem_cons.2 ⟨⟨by decide, by decide, lit_tok _ _ (by decide) (by decide)⟩, (List.forall_mem_cons.2 ⟨⟨by decide, by decide, lit_tok _ _ (by decide) (by decide)⟩, (by intro X hX; cases hX)⟩)⟩)
    have HX := Lib.hid hX3
    clear hX3
    have z1 : ¬ 9223372036854775807 < 3 + X.size := by omega
    have z2 : ¬ 9223372036854775807 < 3 + X.size + 2 := by omega
    go_upto_region 32 with fail
    have HA : Hid (AmS ((⟨#[37, 65, 77]⟩ : ByteArray) ++ X ++ (⟨#[42, 10]⟩ : ByteArray)) 0) := am_new HX.out
    generalize (⟨#[37, 65, 77]⟩ : ByteArray) ++ X ++ (⟨#[42, 10]⟩ : ByteArray) = S0 at HA ⊢
    clear hsel z1 z2 hX1 hX2 hki hk1 hk12 HX
    generalize W5.alloc (.cells #[.string ⟨#[77, 49]⟩, .string ⟨#[77, 50]⟩] 9) = W6 at HL6 ⊢
    obtain ⟨b0, o0, rfl⟩ := hp.out
    have c0 := HL6.out.ce
    obtain ⟨a, ha, ha1, ha2⟩ : ∃ a : Nat, min (l.length : Int) 1 = (a : Int) ∧ a ≤ l.length ∧ a ≤ 1 := ⟨min l.length 1, by omega, by omega, by omega⟩
    obtain ⟨d, hd, hd1, hd2, hd3⟩ : ∃ d : Nat, min (l.length : Int) 13 = (d : Int) ∧ d ≤ l.length ∧ d ≤ 13 ∧ a ≤ d := ⟨min l.length 13, by omega, by omega, by omega, by omega⟩
    have hdc : (d : Int) ≤ (c : Int) := by omega
    have had : (a : Int) ≤ (d : Int) := by omega
    obtain ⟨l2, hl2⟩ : ∃ l2, l2 = (l.drop a).take (d - a) := ⟨_, rfl⟩
    have hlen2 : d - a = l2.length := by rw [hl2, List.length_take, List.length_drop]; omega
    have HL2 : Hid (∀ i (h : i < l2.length) (h2 : a + i < l.length), l2[i] = l[a + i]) := by
      subst hl2
      intro i h h2
      rw [List.getElem_take, List.getElem_drop]
    clear hl2
    have hfin : Hid (∀ w7 p7 ls, StrsIn w7 p7 ls → ∀ k (h : k < ls.length), ∃ b9 o9, p7 = some ⟨b9, o9, none⟩ ∧ w7.cell? ⟨b9, o9 + k, none⟩ = some (.string ⟨ls[k].toArray⟩)) := by
      intro w7 p7 ls hs k h
      obtain ⟨b9, o9, e9, _, hc9⟩ := hs (by omega)
      exact ⟨b9, o9, e9, hc9 k h⟩
    by_cases hca : c = a
    · subst hca
      have HZ2 : Hid (Zs W6 (some ⟨b0, o0, none⟩) l2) := fun h => absurd h (by omega)
      go_wp2_with fail
      refine (lines_c (some ⟨b0, o0, none⟩) l2 _ (by omega) _ HZ2).mono ?_
      rintro e w7 ⟨hb7, p7, c7, ls, rfl, hs7, hn7, ht7⟩
      have HB7 := Lib.hid (HL6.out.be.trans (hb7.mono HL6.out.be.size))
      have HS7 := Lib.hid hs7
      have HT7 := Lib.hid ht7
      clear hb7 hs7 ht7 c0 ha hd hlen2 hdc had
      go_wp2_with fail
      go_loopw [9, 11] (fun s x wr => ∃ (k : Nat) (S : ByteArray), k ≤ ls.length ∧ s = .string S ∧ x = .int .i64 (k : Int) ∧ Hid (AmS S k) ∧ wr = w7) (fun _ x _ => ls.length - (intOf x).toNat)
      case atStart => exact ⟨0, S0, Nat.zero_le _, rfl, rfl, HA, rfl⟩
      case round =>
      obtain ⟨k, S, hkk, rfl, rfl, HAk, rfl⟩ := hrel
      have hsz : S.size ≤ 25 + k * 202 := HAk.out.size
      by_cases hlt : k < ls.length
      · have hlti : (k : Int) < (ls.length : Int) := by omega
        obtain ⟨b9, o9, rfl, x0⟩ := hfin.out _ _ _ HS7.out k hlt
        obtain ⟨T, hT⟩ := str_ex ls[k]
        have hTT : (⟨ls[k].toArray⟩ : ByteArray) = T := str_eq hT.symm
        rw [hTT] at x0
        obtain ⟨t1, t2, t3⟩ := HT7.out ls[k] (List.getElem_mem hlt)
        rw [← hT] at t1 t2 t3
        have hTs : T.size ≤ 200 := by rw [← len_list]; exact t3
        have HAn : Hid (AmS (S ++ T ++ (⟨#[42, 10]⟩ : ByteArray)) (k + 1)) := HAk.out.add t1 t2 t3 (by rw [app_list, app_list, List.append_assoc])
        have z1 : ¬ 9223372036854775807 < S.size + T.size := by omega
        have z2 : ¬ 9223372036854775807 < S.size + T.size + 2 := by omega
        clear t1 t2 t3 hT hTT
        go_wp2_with fail
        go_round <;> first | exact ⟨k + 1, _, by omega, rfl, by go_num, HAn.out, trivial⟩ | exact ⟨k + 1, _, by omega, rfl, by go_num, HAn.out, rfl⟩ | (simp [intOf]; omega) | (simp [intOf] <;> omega)
      · have hlti : ¬ (k : Int) < (ls.length : Int) := by omega
        have z1 : ¬ 9223372036854775807 < S.size + 2 := by omega
        go_wp2_with fail
        go_ret
        exact ⟨⟨_, rfl, HAk.out.fin (by omega) (app_list _ _)⟩, HB7.out⟩
    · have HZ2 : Hid (Zs W6 (some ⟨b0, o0 + a, none⟩) l2) := by
        intro h
        obtain ⟨b9, o9, e9, hb9, hc9⟩ := HL6.out.zs (by omega)
        injection e9 with e9
        injection e9 with e1 e2 _
        subst e1
        subst e2
        refine ⟨_, _, rfl, hb9, fun i hi => ?_⟩
        rw [Nat.add_assoc, hc9 (a + i) (by omega), HL2.out i hi (by omega)]
      go_wp2_with fail
      refine (lines_c (some ⟨b0, o0 + a, none⟩) l2 _ (by omega) _ HZ2).mono ?_
      rintro e w7 ⟨hb7, p7, c7, ls, rfl, hs7, hn7, ht7⟩
      have HB7 := Lib.hid (HL6.out.be.trans (hb7.mono HL6.out.be.size))
      have HS7 := Lib.hid hs7
      have HT7 := Lib.hid ht7
      clear hb7 hs7 ht7 c0 ha hd hlen2 hdc had
      go_wp2_with fail
      go_loopw [9, 11] (fun s x wr => ∃ (k : Nat) (S : ByteArray), k ≤ ls.length ∧ s = .string S ∧ x = .int .i64 (k : Int) ∧ Hid (AmS S k) ∧ wr = w7) (fun _ x _ => ls.length - (intOf x).toNat)
      case atStart => exact ⟨0, S0, Nat.zero_le _, rfl, rfl, HA, rfl⟩
      case round =>
      obtain ⟨k, S, hkk, rfl, rfl, HAk, rfl⟩ := hrel
      have hsz : S.size ≤ 25 + k * 202 := HAk.out.size
      by_cases hlt : k < ls.length
      · have hlti : (k : Int) < (ls.length : Int) := by omega
        obtain ⟨b9, o9, rfl, x0⟩ := hfin.out _ _ _ HS7.out k hlt
        obtain ⟨T, hT⟩ := str_ex ls[k]
        have hTT : (⟨ls[k].toArray⟩ : ByteArray) = T := str_eq hT.symm
        rw [hTT] at x0
        obtain ⟨t1, t2, t3⟩ := HT7.out ls[k] (List.getElem_mem hlt)
        rw [← hT] at t1 t2 t3
        have hTs : T.size ≤ 200 := by rw [← len_list]; exact t3
        have HAn : Hid (AmS (S ++ T ++ (⟨#[42, 10]⟩ : ByteArray)) (k + 1)) := HAk.out.add t1 t2 t3 (by rw [app_list, app_list, List.append_assoc])
        have z1 : ¬ 9223372036854775807 < S.size + T.size := by omega
        have z2 : ¬ 9223372036854775807 < S.size + T.size + 2 := by omega
        clear t1 t2 t3 hT hTT
        go_wp2_with fail
        go_round <;> first | exact ⟨k + 1, _, by omega, rfl, by go_num, HAn.out, trivial⟩ | exact ⟨k + 1, _, by omega, rfl, by go_num, HAn.out, rfl⟩ | (simp [intOf]; omega) | (simp [intOf] <;> omega)
      · have hlti : ¬ (k : Int) < (ls.length : Int) := by omega
        have z1 : ¬ 9223372036854775807 < S.size + 2 := by omega
        go_wp2_with fail
        go_ret
        exact ⟨⟨_, rfl, HAk.out.fin (by omega) (app_list _ _)⟩, HB7.out⟩
  · skip
    go_wp2_with fail
    have HL6 : Hid (LnAt w p l c (W5.alloc (.cells #[.string ⟨#[68]⟩, .string ⟨#[67]⟩] 9))) := HL.out.below ((Below.refl _ _).alloc (Nat.le_refl _) _)
    refine (at_x 0 (by decide) (by decide) HL6).mono ?_
    rintro e w' ⟨v11, rfl, rfl⟩
    obtain ⟨k1, hk1, hk12⟩ : ∃ k : Nat, bits .and .i64 v11 1 = (k : Int) ∧ k ≤ 1 := ⟨(v11 % 2).toNat, by rw [Bits.and1]; omega, by omega⟩
    have hki : (k1 : Int) < 2 := by omega
    obtain ⟨X, hsel, hX1, hX2, hX3⟩ : ∃ X, (W5.alloc (.cells #[.string ⟨#[68]⟩, .string ⟨#[67]⟩] 9)).cell? ⟨W5.heap.size, k1, none⟩ = some (.string X) ∧ X.size ≤ 10 ∧ 1 ≤ X.size ∧ TokS X 10 := sel_gen W5 ([⟨#[68]⟩, ⟨#[67]⟩] : List ByteArray) k1 (fun X => X.size ≤ 10 ∧ 1 ≤ X.size ∧ TokS X 10) (by show k1 < 2; omega) (List.forall_mem_cons.2 ⟨⟨by decide, by decide, lit_tok _ _ (by decide) (by decide)⟩, (List.forall_mem_cons.2 ⟨⟨by decide, by decide, lit_tok _ _ (by decide) (by decide)⟩, (by intro X hX; cases hX)⟩)⟩)
    have HX := Lib.hid hX3
    clear hX3
    have z1 : ¬ 9223372036854775807 < 3 + X.size := by omega
    have z2 : ¬ 9223372036854775807 < 3 + X.size + 3 := by omega
    go_wp2_with fail
    go_ret
    exact ⟨⟨_, rfl, ok_grp ((lit_pct ⟨#[37, 76, 80]⟩ [76, 80] 3 rfl (by decide) (by decide) (by decide)).append HX.out) (by decide) (app_list _ _)⟩, HL6.out.be⟩
  · skip
    go_wp2_with fail
    have HL6 : Hid (LnAt w p l c (W5.alloc (.cells #[.string ⟨#[78]⟩, .string ⟨#[88]⟩, .string ⟨#[89]⟩, .string ⟨#[88, 89]⟩] 9))) := HL.out.below ((Below.refl _ _).alloc (Nat.le_refl _) _)
    refine (at_x 0 (by decide) (by decide) HL6).mono ?_
    rintro e w' ⟨v11, rfl, rfl⟩
    obtain ⟨k1, hk1, hk12⟩ : ∃ k : Nat, bits .and .i64 v11 3 = (k : Int) ∧ k ≤ 3 := ⟨(v11 % 4).toNat, by rw [Bits.and3]; omega, by omega⟩
    have hki : (k1 : Int) < 4 := by omega
    obtain ⟨X, hsel, hX1, hX2, hX3⟩ : ∃ X, (W5.alloc (.cells #[.string ⟨#[78]⟩, .string ⟨#[88]⟩, .string ⟨#[89]⟩, .string ⟨#[88, 89]⟩] 9)).cell? ⟨W5.heap.size, k1, none⟩ = some (.string X) ∧ X.size ≤ 10 ∧ 1 ≤ X.size ∧ TokS X 10 := sel_gen W5 ([⟨#[78]⟩, ⟨#[88]⟩, ⟨#[89]⟩, ⟨#[88, 89]⟩] : List ByteArray) k1 (fun X => X.size ≤ 10 ∧ 1 ≤ X.size ∧ TokS X 10) (by show k1 < 4; omega) (List.forall_mem_cons.2 ⟨⟨by decide, by decide, lit_tok _ _ (by decide) (by decide)⟩, (List.forall_mem_cons.2 ⟨⟨by decide, by decide, lit_tok _ _ (by decide) (by decide)⟩, (List.forall_mem_cons.2 ⟨⟨by decide, by decide, lit_tok _ _ (by decide) (by decide)⟩, (List.forall_mem_cons.2 ⟨⟨by decide, by decide, lit_tok _ _ (by decide) (by decide)⟩, (by intro X hX; cases hX)⟩)⟩)⟩)⟩)
    have HX := Lib.hid hX3
    clear hX3
    have z1 : ¬ 9223372036854775807 < 3 + X.size := by omega
    have z2 : ¬ 9223372036854775807 < 3 + X.size + 3 := by omega
    go_wp2_with fail
    go_ret
    exact ⟨⟨_, rfl, ok_grp ((lit_pct ⟨#[37, 76, 77]⟩ [76, 77] 3 rfl (by decide) (by decide) (by decide)).append HX.out) (by decide) (app_list _ _)⟩, HL6.out.be⟩
  · skip
    go_wp2_with fail
    have HL6 : Hid (LnAt w p l c (W5.alloc (.cells #[.string ⟨#[48]⟩, .string ⟨#[57, 48]⟩, .string ⟨#[49, 56, 48, 46, 48]⟩, .string ⟨#[45, 57, 48]⟩, .string ⟨#[52, 53]⟩] 9))) := HL.out.below ((Below.refl _ _).alloc (Nat.le_refl _) _)
    refine (at_x 0 (by decide) (by decide) HL6).mono ?_
    rintro e w' ⟨v11, rfl, rfl⟩
    obtain ⟨m1, hm1, hm12⟩ : ∃ m : Nat, bits .and .i64 v11 255 = (m : Int) ∧ m ≤ 255 := ⟨(v11 % 256).toNat, by rw [Bits.and255]; omega, by omega⟩
    obtain ⟨k1, hk1, hk12⟩ : ∃ k : Nat, (m1 : Int) % 5 = (k : Int) ∧ k ≤ 4 := ⟨m1 % 5, by omega, by omega⟩
    have hki : (k1 : Int) < 5 := by omega
    obtain ⟨X, hsel, hX1, hX2, hX3⟩ : ∃ X, (W5.alloc (.cells #[.string ⟨#[48]⟩, .string ⟨#[57, 48]⟩, .string ⟨#[49, 56, 48, 46, 48]⟩, .string ⟨#[45, 57, 48]⟩, .string ⟨#[52, 53]⟩] 9)).cell? ⟨W5.heap.size, k1, none⟩ = some (.string X) ∧ X.size ≤ 10 ∧ 1 ≤ X.size ∧ TokS X 10 := sel_gen W5 ([⟨#[48]⟩, ⟨#[57, 48]⟩, ⟨#[49, 56, 48, 46, 48]⟩, ⟨#[45, 57, 48]⟩, ⟨#[52, 53]⟩] : List ByteArray) k1 (fun X => X.size ≤ 10 ∧ 1 ≤ X.size ∧ TokS X 10) (by show k1 < 5; omega) (List.forall_mem_cons.2 ⟨⟨by decide, by decide, lit_tok _ _ (by decide) (by decide)⟩, (List.forall_mem_cons.2 ⟨⟨by decide, by decide, lit_tok _ _ (by decide) (by decide)⟩, (List.forall_mem_cons.2 ⟨⟨by decide, by decide, lit_tok _ _ (by decide) (by decide)⟩, (List.forall_mem_cons.2 ⟨⟨by decide, by decide, lit_tok _ _ (by decide) (by decide)⟩, (List.forall_mem_cons.2 ⟨⟨by decide, by decide, lit_tok _ _ (by decide) (by decide)⟩, (by intro X hX; cases hX)⟩)⟩)⟩)⟩)⟩)
    have HX := Lib.hid hX3
    clear hX3
    have z1 : ¬ 9223372036854775807 < 3 + X.size := by omega
    have z2 : ¬ 9223372036854775807 < 3 + X.size + 3 := by omega
    go_wp2_with fail
    go_ret
    exact ⟨⟨_, rfl, ok_grp ((lit_pct ⟨#[37, 76, 82]⟩ [76, 82] 3 rfl (by decide) (by decide) (by decide)).append HX.out) (by decide) (app_list _ _)⟩, HL6.out.be⟩
  · skip
    have z2 : ¬ 9223372036854775807 < 4 + C.size + 3 := by omega
    have z1 : ¬ 9223372036854775807 < 4 + C.size := by omega
    go_wp2_with fail
    go_ret
    exact ⟨⟨_, rfl, ok_grp ((lit_pct ⟨#[37, 65, 66, 68]⟩ [65, 66, 68] 4 rfl (by decide) (by decide) (by decide)).append HC.out) (by decide) (app_list _ _)⟩, HL.out.be⟩
  · skip
    go_wp2_with fail
    go_ret
    exact ⟨⟨_, rfl, ok_grp (P := ⟨#[37, 65, 66]⟩) (lit_pct _ [65, 66] 20 rfl (by decide) (by decide) (by decide)) (by decide) rfl⟩, HL.out.be⟩
  · skip
    go_wp2_with fail
    refine (at_x 0 (by decide) (by decide) HL).mono ?_
    rintro e w' ⟨v11, rfl, rfl⟩
    obtain ⟨r2, hr2, r20, r21⟩ : ∃ r, bits .and .i64 v11 3 = r ∧ 0 ≤ r ∧ r ≤ 3 := ⟨_, rfl, by rw [Bits.and3]; omega, by rw [Bits.and3]; omega⟩
    go_wp2_with fail
    refine (num_p _ (by omega) (by omega) _).mono ?_
    rintro e w' ⟨S2, rfl, hS2, hpS2, rfl⟩
    have hzS2 := hS2.2
    have HS2 := Lib.hid hS2
    clear hS2
    have z1 : ¬ 9223372036854775807 < 4 + S2.size := by omega
    have z2 : ¬ 9223372036854775807 < 4 + S2.size + 1 := by omega
    go_wp2_with fail
    refine (at_x 1 (by decide) (by decide) HL).mono ?_
    rintro e w' ⟨v13, rfl, rfl⟩
    obtain ⟨r4, hr4, r40, r41⟩ : ∃ r, bits .and .i64 v13 3 = r ∧ 0 ≤ r ∧ r ≤ 3 := ⟨_, rfl, by rw [Bits.and3]; omega, by rw [Bits.and3]; omega⟩
    go_wp2_with fail
    refine (num_p _ (by omega) (by omega) _).mono ?_
    rintro e w' ⟨S4, rfl, hS4, hpS4, rfl⟩
    have hzS4 := hS4.2
    have HS4 := Lib.hid hS4
    clear hS4
    have z3 : ¬ 9223372036854775807 < 4 + S2.size + 1 + S4.size := by omega
    have z4 : ¬ 9223372036854775807 < 4 + S2.size + 1 + S4.size + 1 := by omega
    go_wp2_with fail
    refine (at_x 2 (by decide) (by decide) HL).mono ?_
    rintro e w' ⟨v15, rfl, rfl⟩
    go_wp2_with fail
    refine (d15_c _ _).mono ?_
    rintro e w' ⟨S6, rfl, hS6, hpS6, rfl⟩
    have hzS6 := hS6.2
    have HS6 := Lib.hid hS6
    clear hS6
    have z5 : ¬ 9223372036854775807 < 4 + S2.size + 1 + S4.size + 1 + S6.size := by omega
    have z6 : ¬ 9223372036854775807 < 4 + S2.size + 1 + S4.size + 1 + S6.size + 1 := by omega
    go_wp2_with fail
    refine (at_x 3 (by decide) (by decide) HL).mono ?_
    rintro e w' ⟨v17, rfl, rfl⟩
    go_wp2_with fail
    refine (d15_c _ _).mono ?_
    rintro e w' ⟨S8, rfl, hS8, hpS8, rfl⟩
    have hzS8 := hS8.2
    have HS8 := Lib.hid hS8
    clear hS8
    have z7 : ¬ 9223372036854775807 < 4 + S2.size + 1 + S4.size + 1 + S6.size + 1 + S8.size := by omega
    have z8 : ¬ 9223372036854775807 < 4 + S2.size + 1 + S4.size + 1 + S6.size + 1 + S8.size + 3 := by omega
    go_wp2_with fail
    go_ret
    exact ⟨⟨_, rfl, ok_grp ((((((((lit_pct ⟨#[37, 83, 82, 88]⟩ [83, 82, 88] 4 rfl (by decide) (by decide) (by decide)).append HS2.out).append (lit_tok ⟨#[89]⟩ 1 (by decide) (by decide))).append HS4.out).append (lit_tok ⟨#[73]⟩ 1 (by decide) (by decide))).append HS6.out).append (lit_tok ⟨#[74]⟩ 1 (by decide) (by decide))).append HS8.out) (by decide) (app_list _ _)⟩, HL.out.be⟩
  · skip
    go_wp2_with fail
    go_ret
    exact ⟨⟨_, rfl, ok_grp (P := ⟨#[37, 83, 82]⟩) (lit_pct _ [83, 82] 20 rfl (by decide) (by decide) (by decide)) (by decide) rfl⟩, HL.out.be⟩
  · skip
    go_wp2_with fail
    refine (at_x 0 (by decide) (by decide) HL).mono ?_
    rintro e w' ⟨v11, rfl, rfl⟩
    go_wp2_with fail
    refine (d15_c _ _).mono ?_
    rintro e w' ⟨S2, rfl, hS2, hpS2, rfl⟩
    have hzS2 := hS2.2
    have HS2 := Lib.hid hS2
    clear hS2
    have z1 : ¬ 9223372036854775807 < 4 + S2.size := by omega
    have z2 : ¬ 9223372036854775807 < 4 + S2.size + 2 := by omega
    go_wp2_with fail
    go_ret
    exact ⟨⟨_, rfl, ok_word ((lit_tok ⟨#[71, 48, 52, 32]⟩ 4 (by decide) (by decide)).append HS2.out) (pos_ap (by decide)) (by decide) (app_list _ _)⟩, HL.out.be⟩
  · skip
    have HL6 : Hid (LnAt w p l c (W5.alloc (.cells #[.string ⟨#[37, 84, 70, 46, 88, 44, 49, 42, 37, 10]⟩, .string ⟨#[37, 84, 68, 42, 37, 10]⟩, .string ⟨#[37, 84, 65, 46, 89, 42, 37, 10]⟩, .string ⟨#[37, 84, 79, 46, 78, 44, 97, 32, 98, 42, 37, 10]⟩] 9))) := HL.out.below ((Below.refl _ _).alloc (Nat.le_refl _) _)
    go_wp2_with fail
    refine (at_x 0 (by decide) (by decide) HL6).mono ?_
    rintro e w' ⟨v, rfl, rfl⟩
    obtain ⟨k1, hk1, hk12⟩ : ∃ k : Nat, bits .and .i64 v 3 = (k : Int) ∧ k ≤ 3 := ⟨(v % 4).toNat, by rw [Bits.and3]; omega, by omega⟩
    have hki : (k1 : Int) < 4 := by omega
    obtain ⟨X, hsel, hX1, hX2⟩ : ∃ X, (W5.alloc (.cells #[.string ⟨#[37, 84, 70, 46, 88, 44, 49, 42, 37, 10]⟩, .string ⟨#[37, 84, 68, 42, 37, 10]⟩, .string ⟨#[37, 84, 65, 46, 89, 42, 37, 10]⟩, .string ⟨#[37, 84, 79, 46, 78, 44, 97, 32, 98, 42, 37, 10]⟩] 9)).cell? ⟨W5.heap.size, k1, none⟩ = some (.string X) ∧ X.size ≤ 100 ∧ LineOk X := sel_gen W5 ([⟨#[37, 84, 70, 46, 88, 44, 49, 42, 37, 10]⟩, ⟨#[37, 84, 68, 42, 37, 10]⟩, ⟨#[37, 84, 65, 46, 89, 42, 37, 10]⟩, ⟨#[37, 84, 79, 46, 78, 44, 97, 32, 98, 42, 37, 10]⟩] : List ByteArray) k1 (fun X => X.size ≤ 100 ∧ LineOk X) (by show k1 < 4; omega) (List.forall_mem_cons.2 ⟨⟨by decide, ok_grp (P := ⟨#[37, 84, 70, 46, 88, 44, 49]⟩) (lit_pct _ [84, 70, 46, 88, 44, 49] 20 rfl (by decide) (by decide) (by decide)) (by decide) rfl⟩, (List.forall_mem_cons.2 ⟨⟨by decide, ok_grp (P := ⟨#[37, 84, 68]⟩) (lit_pct _ [84, 68] 20 rfl (by decide) (by decide) (by decide)) (by decide) rfl⟩, (List.forall_mem_cons.2 ⟨⟨by decide, ok_grp (P := ⟨#[37, 84, 65, 46, 89]⟩) (lit_pct _ [84, 65, 46, 89] 20 rfl (by decide) (by decide) (by decide)) (by decide) rfl⟩, (List.forall_mem_cons.2 ⟨⟨by decide, ok_grp (P := ⟨#[37, 84, 79, 46, 78, 44, 97, 32, 98]⟩) (lit_pct _ [84, 79, 46, 78, 44, 97, 32, 98] 20 rfl (by decide) (by decide) (by decide)) (by decide) rfl⟩, (by intro X hX; cases hX)⟩)⟩)⟩)⟩)
    have HX := Lib.hid hX2
    clear hX2
    go_wp2_with fail
    go_ret
    exact ⟨⟨_, rfl, HX.out⟩, HL6.out.be⟩
  · skip
    go_wp2_with fail
    go_ret
    exact ⟨⟨_, rfl, ok_word (P := ⟨#[71, 55, 53]⟩) (lit_tok _ 20 (by decide) (by decide)) (by decide) (by decide) rfl⟩, HL.out.be⟩
  · skip
    have HL6 : Hid (LnAt w p l c (W5.alloc (.cells #[.string ⟨#[77, 48, 50, 42, 10]⟩, .string ⟨#[71, 55, 52, 42, 10]⟩, .string ⟨#[37, 76, 83, 88, 50, 42, 37, 10]⟩, .string ⟨#[68, 49, 42, 10]⟩, .string ⟨#[88, 42, 10]⟩, .string ⟨#[37, 70, 83, 76, 65, 88, 50, 51, 89, 50, 51, 42, 37, 10]⟩, .string ⟨#[37, 77, 79, 73, 78, 42, 37, 10]⟩, .string ⟨#[42, 10]⟩] 9))) := HL.out.below ((Below.refl _ _).alloc (Nat.le_refl _) _)
    go_wp2_with fail
    refine (at_x 0 (by decide) (by decide) HL6).mono ?_
    rintro e w' ⟨v, rfl, rfl⟩
    obtain ⟨k1, hk1, hk12⟩ : ∃ k : Nat, bits .and .i64 v 7 = (k : Int) ∧ k ≤ 7 := ⟨(v % 8).toNat, by rw [Bits.and7]; omega, by omega⟩
    have hki : (k1 : Int) < 8 := by omega
    obtain ⟨X, hsel, hX1, hX2⟩ : ∃ X, (W5.alloc (.cells #[.string ⟨#[77, 48, 50, 42, 10]⟩, .string ⟨#[71, 55, 52, 42, 10]⟩, .string ⟨#[37, 76, 83, 88, 50, 42, 37, 10]⟩, .string ⟨#[68, 49, 42, 10]⟩, .string ⟨#[88, 42, 10]⟩, .string ⟨#[37, 70, 83, 76, 65, 88, 50, 51, 89, 50, 51, 42, 37, 10]⟩, .string ⟨#[37, 77, 79, 73, 78, 42, 37, 10]⟩, .string ⟨#[42, 10]⟩] 9)).cell? ⟨W5.heap.size, k1, none⟩ = some (.string X) ∧ X.size ≤ 100 ∧ LineOk X := sel_gen W5 ([⟨#[77, 48, 50, 42, 10]⟩, ⟨#[71, 55, 52, 42, 10]⟩, ⟨#[37, 76, 83, 88, 50, 42, 37, 10]⟩, ⟨#[68, 49, 42, 10]⟩, ⟨#[88, 42, 10]⟩, ⟨#[37, 70, 83, 76, 65, 88, 50, 51, 89, 50, 51, 42, 37, 10]⟩, ⟨#[37, 77, 79, 73, 78, 42, 37, 10]⟩, ⟨#[42, 10]⟩] : List ByteArray) k1 (fun X => X.size ≤ 100 ∧ LineOk X) (by show k1 < 8; omega) (List.forall_mem_cons.2 ⟨⟨by decide, ok_word (P := ⟨#[77, 48, 50]⟩) (lit_tok _ 20 (by decide) (by decide)) (by decide) (by decide) rfl⟩, (List.forall_mem_cons.2 ⟨⟨by decide, ok_word (P := ⟨#[71, 55, 52]⟩) (lit_tok _ 20 (by decide) (by decide)) (by decide) (by decide) rfl⟩, (List.forall_mem_cons.2 ⟨⟨by decide, ok_grp (P := ⟨#[37, 76, 83, 88, 50]⟩) (lit_pct _ [76, 83, 88, 50] 20 rfl (by decide) (by decide) (by decide)) (by decide) rfl⟩, (List.forall_mem_cons.2 ⟨⟨by decide, ok_word (P := ⟨#[68, 49]⟩) (lit_tok _ 20 (by decide) (by decide)) (by decide) (by decide) rfl⟩, (List.forall_mem_cons.2 ⟨⟨by decide, ok_word (P := ⟨#[88]⟩) (lit_tok _ 20 (by decide) (by decide)) (by decide) (by decide) rfl⟩, (List.forall_mem_cons.2 ⟨⟨by decide, ok_grp (P := ⟨#[37, 70, 83, 76, 65, 88, 50, 51, 89, 50, 51]⟩) (lit_pct _ [70, 83, 76, 65, 88, 50, 51, 89, 50, 51] 20 rfl (by decide) (by decide) (by decide)) (by decide) rfl⟩, (List.forall_mem_cons.2 ⟨⟨by decide, ok_grp (P := ⟨#[37, 77, 79, 73, 78]⟩) (lit_pct _ [77, 79, 73, 78] 20 rfl (by decide) (by decide) (by decide)) (by decide) rfl⟩, (List.forall_mem_cons.2 ⟨⟨by decide, ok_star⟩, (by intro X hX; cases hX)⟩)⟩)⟩)⟩)⟩)⟩)⟩)⟩)
    have HX := Lib.hid hX2
    clear hX2
    go_wp2_with fail
    go_ret
    exact ⟨⟨_, rfl, HX.out⟩, HL6.out.be⟩
  · skip
    go_wp2_with fail
    go_ret
    exact ⟨⟨_, rfl, ok_word (P := ⟨#[71, 48, 49, 88, 49, 89, 49, 68, 48, 49]⟩) (lit_tok _ 20 (by decide) (by decide)) (by decide) (by decide) rfl⟩, HL.out.be⟩
end Go.Proofs.YtglmofeeggjemaaGreatDoor.GW
