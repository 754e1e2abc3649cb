/-
  Proved: for any sides near the greatest, with colours or not, an image of one byte less, as many bytes, or one or two bytes more is encoded just if its sides and the number of its bytes are right, and then it is decoded as it was (heliographlaw25.PnmSizes returns true). Conditions: the row's own (the package-level tables read as the program's text lays them, tied by the card).
-/
import Derived.Test.YtmclabehdjdpnaaDoorPnmA
import Derived.Test.YtmclabehdjdpnaaDoorBits
import Derived.OwnWalk
import Derived.ProofKit
namespace Go.Proofs.YtmclabehdjdpnaaDoor.PnmSizes
open Go.ChangeShapes Go.WideShapes Go.ChangeAt Go.WideMaps Go.WideElems Go.RowKit
open Go.Proofs.YtmclabehdjdpnaaDoor.Dp Go.Proofs.YtmclabehdjdpnaaDoor.Base Go.Proofs.YtmclabehdjdpnaaDoor.Mem Go.Proofs.YtmclabehdjdpnaaDoor.Pp Go.Proofs.YtmclabehdjdpnaaDoor.PnmW

theorem made_zero (n : Nat) : (madeCells (Value.int .u8 0).cells (n * 1)).toList = byteVs (List.replicate n 0) := by
  unfold madeCells byteVs
  apply List.ext_getElem
  · simp [Value.cells]
  · intro i h1 h2
    simp [Value.cells, Nat.mod_one]
theorem size_none {A B : Int} {c : Bool} (h : ¬ ((1 ≤ A ∧ A ≤ 256) ∧ 1 ≤ B ∧ B ≤ 256)) (m : Nat) : sizeV A B c ≠ some m := by
  unfold sizeV; rw [if_neg h]; intro h; cases h

theorem head_length (A B : Nat) (c : Bool) : 11 ≤ (headL A B c).length + 0 ∧ (headL A B c).length ≤ 3 + Lib.nDigits A + 1 + Lib.nDigits B + 5 := by
  unfold headL
  have h1 := decDigits_ne A
  have h2 := decDigits_ne B
  have h3 := Lib.decDigits_length A
  have h4 := Lib.decDigits_length B
  have h5 : (tagL c).length = 3 := by cases c <;> rfl
  have h6 : endL.length = 5 := rfl
  simp only [List.length_append, List.length_cons, List.length_nil]
  omega
theorem size_some {A B : Nat} {c : Bool} {n : Nat} (h1 : 1 ≤ A) (h2 : A ≤ 256) (h3 : 1 ≤ B) (h4 : B ≤ 256) (hn : (if c then 3 else 1) * A * B = n) : sizeV A B c = some n := by
  unfold sizeV; rw [if_pos ⟨⟨by omega, by omega⟩, by omega, by omega⟩, Int.toNat_natCast, Int.toNat_natCast, hn]
theorem size_part {A B : Nat} {c : Bool} {n m : Nat} (hn : (if c then 3 else 1) * A * B = n) (h : n ≠ m) : sizeV A B c ≠ some m := by
  unfold sizeV
  split
  · rw [Int.toNat_natCast, Int.toNat_natCast, hn]; intro e; injection e with e; exact h e
  · intro e; cases e

set_option maxRecDepth 100000 in
set_option maxHeartbeats 3200000 in
theorem walk (w0 : Int) (_hw0 : -9223372036854775808 ≤ w0) (_hw1 : w0 ≤ 9223372036854775807) (h0 : Int) (_hh0 : -9223372036854775808 ≤ h0) (_hh1 : h0 ≤ 9223372036854775807) (colour : Bool) (off : Int) (_ho0 : -9223372036854775808 ≤ off) (_ho1 : off ≤ 9223372036854775807) (w : World) (hT : Tab w) :
    Calls Tryd.prog 4 #[.int .i64 w0, .int .i64 h0, .bool colour, .int .i64 off] w fun e w' => e = .returned (.bool true) ∧ Below w.heap.size w w' := by
  clear _hw0 _hw1 _hh0 _hh1 _ho0 _ho1
  obtain ⟨a, ha, ha16⟩ : ∃ a : Nat, bits .and .i64 w0 15 = (a : Int) ∧ a < 16 := ⟨(w0 % 16).toNat, by rw [Bits.and15]; omega, by omega⟩
  obtain ⟨b, hb, hb8⟩ : ∃ b : Nat, bits .and .i64 h0 7 = (b : Int) ∧ b < 8 := ⟨(h0 % 8).toNat, by rw [Bits.and7]; omega, by omega⟩
  obtain ⟨o, ho, ho4⟩ : ∃ o : Nat, bits .and .i64 off 3 = (o : Int) ∧ o < 4 := ⟨(off % 4).toNat, by rw [Bits.and3]; omega, by omega⟩
  obtain ⟨i0, hi, hz0, hz1, hz2⟩ := info_parts info_u8
  have HI := Lib.hid (And.intro hi (And.intro hz0 (And.intro hz1 hz2)))
  have HT := Lib.hid hT
  clear hT hi hz0 hz1 hz2
  obtain ⟨B, hB⟩ : ∃ B : Nat, b - 1 = B := ⟨_, rfl⟩
  have e1 : max ((b : Int) - 1) 0 = (B : Int) := by omega
  have hB6 : B ≤ 6 := by omega
  obtain ⟨A, hA⟩ : ∃ A : Nat, 250 + a = A := ⟨_, rfl⟩
  have hAB : A * B ≤ 265 * 6 := Nat.mul_le_mul (by omega) hB6
  obtain ⟨N1, hN1⟩ : ∃ N1 : Nat, A * B = N1 := ⟨_, rfl⟩
  have e2 : IntKind.i64.wrap ((250 + (a : Int)) * (B : Int)) = (N1 : Int) := by
    rw [show (250 + (a : Int)) * (B : Int) = ((A * B : Nat) : Int) by rw [← hA]; simp, hN1]; exact IntWalk.i64_in _ (by omega)
  have hN1b : N1 ≤ 1590 := by omega
  obtain ⟨N, hN⟩ : ∃ N : Nat, (if colour then 3 else 1) * A * B = N := ⟨_, rfl⟩
  have hNc : N = if colour then 3 * N1 else N1 := by rw [← hN, ← hN1]; cases colour <;> simp [Nat.mul_assoc]
  have hNb : N ≤ 4770 := by rw [hNc]; split <;> omega
  obtain ⟨P, hP⟩ : ∃ P : Nat, N + o - 1 = P := ⟨_, rfl⟩
  have e3 : max ((N : Int) + ((o : Int) - 1)) 0 = (P : Int) := by omega
  have hPb : P ≤ 5000 := by omega
  have hpos : 0 < B → 0 < N := by
    intro h
    have : 1 * 1 ≤ A * B := Nat.mul_le_mul (by omega) h
    rw [hNc, ← hN1]; split <;> omega
  have HPOS := Lib.hid hpos
  have HNC := Lib.hid hNc
  have HFN := Lib.hid hN
  have HP := Lib.hid hP
  have HA : Hid (A = 250 + a ∧ b - 1 = B) := ⟨hA.symm, hB⟩
  clear hpos hNc hN hAB hN1 hP hA hB
  go_enter Tryd.func4, Tryd.ntmps4
  go_upto_if 28 with fail
  go_cut [9] (fun s wx => s = .int .i64 (N : Int) ∧ w = wx)
  case first =>
    cases colour with
    | true =>
      have hv : (3 * (N1 : Int)) = (N : Int) := by rw [HNC.out]; simp
      go_wp2_with fail
      go_meet
      exact ⟨rfl, rfl⟩
    | false =>
      obtain rfl : N = N1 := HNC.out
      go_wp2_with fail
      go_meet
      exact ⟨rfl, rfl⟩
  case rest =>
  obtain ⟨rfl, rfl⟩ := hcut
  clear e1 e2
  by_cases c1 : (250 + (a : Int)) ≤ 256
  · by_cases c2 : 1 ≤ (b : Int) - 1
    · by_cases c3 : o = 1
      · subst c3
        obtain rfl : N = P := by have := HP.out; omega
        clear e3
        have HY : Hid (sizeV (250 + (a : Int)) ((b : Int) - 1) colour = some N) := by
          show _ = _
          have hx := size_some (c := colour) (n := N) (A := A) (B := B) (by have := HA.out; omega) (by have := HA.out; omega) (by have := HA.out; omega) (by omega) HFN.out
          rw [show (250 + (a : Int)) = (A : Int) by have := HA.out; omega, show (b : Int) - 1 = (B : Int) by have := HA.out; omega, hx]
        have c3b : (((1 : Nat) : Int) - 1 == 0) = true := rfl
        go_wp2_with (refine wpList_make_full _ rfl _ _ _ rfl w.heap.size 5 i0 (.int .u8 0) 1 Tryd.underlying29 HI.out.1 HI.out.2.1 HI.out.2.2.1 .i64 .i64 (N : Int) (N : Int) N (by rfl) (by rfl) rfl rfl (by rw [HI.out.2.2.2]; omega) (by unfold maxLen; omega) (Nat.le_refl _) ?_; intro w1 hown1 hgrow1; have HB1 := Lib.hid ((Below.refl w.heap.size w).grown hgrow1 (Nat.le_refl _) (fun k hk => by cases hk)); have HO1 := Lib.hid hown1; clear hown1 hgrow1)
        have hro := (own_ownsRow (l := List.replicate N 0) (by rw [← made_zero]; exact HO1.out)).2
        have HRO := Lib.hid hro.reads
        clear hro
        have HLP : Hid (N = (List.replicate N (0 : UInt8)).length) := by show _ = _; rw [List.length_replicate]
        with_reducible refine (enc_yes _ _ colour _ N N (List.replicate N 0) HLP HY _ (HT.out.below HB1.out) HRO.out ?bb).mono ?_
        case bb => show _ ≤ _; omega
        generalize hL : headL (250 + (a : Int)).toNat ((b : Int) - 1).toNat colour ++ List.replicate N 0 = L
        have hLl : L.length = (headL A B colour).length + N := by
          rw [← hL, List.length_append, List.length_replicate, show (250 + (a : Int)).toNat = A by have := HA.out; omega, show ((b : Int) - 1).toNat = B by have := HA.out; omega]
        have hhd := head_length A B colour
        have hd1 := Lib.nDigits_le20 A (by have := HA.out; omega)
        have hd2 := Lib.nDigits_le20 B (by omega)
        have hD : decV L = some (A, B, colour, List.replicate N 0) := by
          rw [← hL, show (250 + (a : Int)).toNat = A by have := HA.out; omega, show ((b : Int) - 1).toNat = B by have := HA.out; omega, dec_head (by have := HA.out; omega) (by have := HA.out; omega), if_pos]
          rw [← HLP.out, show (A : Int) = 250 + (a : Int) by have := HA.out; omega, show (B : Int) = (b : Int) - 1 by have := HA.out; omega]
          exact HY.out
        have HD := Lib.hid hD
        have hL9 : N + 9 < L.length := by omega
        have hLm : L.length ≤ 10000 := by omega
        clear hL hLl hhd hd1 hd2 hD
        rintro e w2 ⟨g, cap, rfl, hown2, hb2⟩
        have hcap := hown2.cap_le
        have HR2 := Lib.hid hown2.reads
        have HB2 := Lib.hid (HB1.out.trans (hb2.mono HB1.out.size))
        clear hb2 hown2
        go_wp2_with fail
        with_reducible refine (dec_yes _ _ _ L (Lib.hid (Eq.refl _)) hcap.1 hcap.2 _ HR2.out A B colour (List.replicate N 0) HD).mono ?_
        rintro e w3 ⟨q, d, rfl, hr3, hd3, hb3⟩
        have HB3 := Lib.hid (HB2.out.trans (hb3.mono HB2.out.size))
        rw [← HLP.out]
        rw [show (A : Int) = 250 + (a : Int) by have := HA.out; omega, show (B : Int) = (b : Int) - 1 by have := HA.out; omega]
        clear hb3 hr3
        go_wp2_with fail
        with_reducible refine (awake_any _ ((HT.out.below HB3.out).alloc _)).mono ?_
        rintro e w4 ⟨rfl, hb4⟩
        have HB4 := Lib.hid hb4
        clear hb4
        go_wp2_with fail
        go_ret
        exact ⟨rfl, (HB3.out.alloc HB3.out.size _).trans (HB4.out.mono (by have := HB3.out.size; simp; omega))⟩
      · have c3b : (((o : Int) - 1) == 0) = false := by simp; omega
        have HN : Hid (sizeV (250 + (a : Int)) ((b : Int) - 1) colour ≠ some P) := by
          show _ ≠ _
          have hx := size_part (m := P) HFN.out (by have := HP.out; have := HPOS.out (by have := HA.out; omega); omega)
          rw [show (250 + (a : Int)) = (A : Int) by have := HA.out; omega, show (b : Int) - 1 = (B : Int) by have := HA.out; omega]
          exact hx
        go_wp2_with (refine wpList_make_full _ rfl _ _ _ rfl w.heap.size 5 i0 (.int .u8 0) 1 Tryd.underlying29 HI.out.1 HI.out.2.1 HI.out.2.2.1 .i64 .i64 (P : Int) (P : Int) P (by rfl) (by rfl) rfl rfl (by rw [HI.out.2.2.2]; omega) (by unfold maxLen; omega) (Nat.le_refl _) ?_; intro w1 hown1 hgrow1; have HB1 := Lib.hid ((Below.refl w.heap.size w).grown hgrow1 (Nat.le_refl _) (fun k hk => by cases hk)); have HO1 := Lib.hid hown1; clear hown1 hgrow1)
        with_reducible refine (enc_no _ _ colour _ P P HN _).mono ?_
        rintro e w2 ⟨rfl, hb2⟩
        have HB2 := Lib.hid (HB1.out.trans (hb2.mono HB1.out.size))
        clear hb2
        go_wp2_with fail
        with_reducible refine (dec_no none 0 0 [] (Lib.hid (Eq.refl _)) (Nat.le_refl _) (by unfold maxLen; omega) _ (RB.nil _ _) (Lib.hid dec_nil)).mono ?_
        rintro e w3 ⟨rfl, hb3⟩
        have HB3 := Lib.hid (HB2.out.trans (hb3.mono HB2.out.size))
        clear hb3
        go_wp2_with fail
        with_reducible refine (awake_any _ ((HT.out.below HB3.out).alloc _)).mono ?_
        rintro e w4 ⟨rfl, hb4⟩
        have HB4 := Lib.hid hb4
        clear hb4
        go_wp2_with fail
        go_ret
        exact ⟨rfl, (HB3.out.alloc HB3.out.size _).trans (HB4.out.mono (by have := HB3.out.size; simp; omega))⟩
    · have HN : Hid (sizeV (250 + (a : Int)) ((b : Int) - 1) colour ≠ some P) := size_none (by omega) P
      go_wp2_with (refine wpList_make_full _ rfl _ _ _ rfl w.heap.size 5 i0 (.int .u8 0) 1 Tryd.underlying29 HI.out.1 HI.out.2.1 HI.out.2.2.1 .i64 .i64 (P : Int) (P : Int) P (by rfl) (by rfl) rfl rfl (by rw [HI.out.2.2.2]; omega) (by unfold maxLen; omega) (Nat.le_refl _) ?_; intro w1 hown1 hgrow1; have HB1 := Lib.hid ((Below.refl w.heap.size w).grown hgrow1 (Nat.le_refl _) (fun k hk => by cases hk)); have HO1 := Lib.hid hown1; clear hown1 hgrow1)
      with_reducible refine (enc_no _ _ colour _ P P HN _).mono ?_
      rintro e w2 ⟨rfl, hb2⟩
      have HB2 := Lib.hid (HB1.out.trans (hb2.mono HB1.out.size))
      clear hb2
      go_wp2_with fail
      with_reducible refine (dec_no none 0 0 [] (Lib.hid (Eq.refl _)) (Nat.le_refl _) (by unfold maxLen; omega) _ (RB.nil _ _) (Lib.hid dec_nil)).mono ?_
      rintro e w3 ⟨rfl, hb3⟩
      have HB3 := Lib.hid (HB2.out.trans (hb3.mono HB2.out.size))
      clear hb3
      go_wp2_with fail
      with_reducible refine (awake_any _ ((HT.out.below HB3.out).alloc _)).mono ?_
      rintro e w4 ⟨rfl, hb4⟩
      have HB4 := Lib.hid hb4
      clear hb4
      go_wp2_with fail
      go_ret
      exact ⟨rfl, (HB3.out.alloc HB3.out.size _).trans (HB4.out.mono (by have := HB3.out.size; simp; omega))⟩
  · have HN : Hid (sizeV (250 + (a : Int)) ((b : Int) - 1) colour ≠ some P) := size_none (by omega) P
    go_wp2_with (refine wpList_make_full _ rfl _ _ _ rfl w.heap.size 5 i0 (.int .u8 0) 1 Tryd.underlying29 HI.out.1 HI.out.2.1 HI.out.2.2.1 .i64 .i64 (P : Int) (P : Int) P (by rfl) (by rfl) rfl rfl (by rw [HI.out.2.2.2]; omega) (by unfold maxLen; omega) (Nat.le_refl _) ?_; intro w1 hown1 hgrow1; have HB1 := Lib.hid ((Below.refl w.heap.size w).grown hgrow1 (Nat.le_refl _) (fun k hk => by cases hk)); have HO1 := Lib.hid hown1; clear hown1 hgrow1)
    with_reducible refine (enc_no _ _ colour _ P P HN _).mono ?_
    rintro e w2 ⟨rfl, hb2⟩
    have HB2 := Lib.hid (HB1.out.trans (hb2.mono HB1.out.size))
    clear hb2
    go_wp2_with fail
    with_reducible refine (dec_no none 0 0 [] (Lib.hid (Eq.refl _)) (Nat.le_refl _) (by unfold maxLen; omega) _ (RB.nil _ _) (Lib.hid dec_nil)).mono ?_
    rintro e w3 ⟨rfl, hb3⟩
    have HB3 := Lib.hid (HB2.out.trans (hb3.mono HB2.out.size))
    clear hb3
    go_wp2_with fail
    with_reducible refine (awake_any _ ((HT.out.below HB3.out).alloc _)).mono ?_
    rintro e w4 ⟨rfl, hb4⟩
    have HB4 := Lib.hid hb4
    clear hb4
    go_wp2_with fail
    go_ret
    exact ⟨rfl, (HB3.out.alloc HB3.out.size _).trans (HB4.out.mono (by have := HB3.out.size; simp; omega))⟩
end Go.Proofs.YtmclabehdjdpnaaDoor.PnmSizes
