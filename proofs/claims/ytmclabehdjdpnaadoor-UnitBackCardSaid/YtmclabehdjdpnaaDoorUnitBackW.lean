/-
  Proved: digits are read as the grains that they were told of, and of what was read the digits are as short as may be, for every format and number (heliographlaw3.UnitBack returns true). Conditions: the row's own (the package-level tables read as the program's text lays them, tied by the card).
-/
import Derived.Test.YtmclabehdjdpnaaDoorUnitA
import Derived.Test.YtmclabehdjdpnaaDoorUr
import Derived.Test.YtmclabehdjdpnaaDoorFmtAt
import Derived.Test.YtmclabehdjdpnaaDoorRefN
import Derived.ProofKit
import Derived.Lib.SmallJoins
namespace Go.Proofs.YtmclabehdjdpnaaDoor.UnitBack
open Go.ChangeShapes Go.WideShapes Go.ChangeAt Go.WideMaps Go.WideElems Go.RowKit
open Go.ChangeMaps (open_string)
open Go.Joins
open Go.Proofs.YtmclabehdjdpnaaDoor.Dp Go.Proofs.YtmclabehdjdpnaaDoor.Base Go.Proofs.YtmclabehdjdpnaaDoor.DeciW Go.Proofs.YtmclabehdjdpnaaDoor.Up Go.Proofs.YtmclabehdjdpnaaDoor.UnitW Go.Proofs.YtmclabehdjdpnaaDoor.UnitB

set_option maxRecDepth 100000 in
set_option maxHeartbeats 800000 in
theorem walk (u i d : Int) (t : Bool) (n : Int) (z : Int) (w : World) (hT : Tab w) :
    Calls Tryd.prog 13 #[fmtVal u i d t, .int .i64 n, .int .i64 z] w fun e w' => e = .returned (.bool true) ∧ Below w.heap.size w w' := by
  obtain ⟨U, I, D, hF, hTame⟩ := tame_ex u i d t
  have hF' := (fmtOk_iff _ _ _).1 hF
  obtain ⟨hU, hI0, hI6, hD0, hD6, hID⟩ := hF'
  have HF := Lib.hid hF
  have HTame := Lib.hid hTame
  have HU := Lib.hid hU
  clear hF hTame hU hI0 hD0
  go_enter Tryd.func13, Tryd.ntmps13
  go_wp2_with fail
  with_reducible refine (HTame.out _).mono ?_
  rintro e w1 ⟨rfl, hb1⟩
  have hbel : Below w.heap.size w w1 := ((Below.refl _ _).alloc (Nat.le_refl _) _).trans (hb1.mono (by simp))
  have hsz : w.heap.size < w1.heap.size := by have := hb1.size; simp at this; omega
  have hB := hb1.block w.heap.size (by simp)
  have hB' : w1.heap[w.heap.size]? = some (fmtObj u i d t) := hB.trans (by show (w.heap.push _)[w.heap.size]? = _; simp)
  obtain ⟨c0, c1, c2, c3, z0, z1, z2, z3⟩ := fmtAt_heap hB'
  have HB := Lib.hid hB'
  clear hb1
  clear hB hB'
  go_upto_region 2 with fail
  obtain ⟨W2, hW2⟩ : ∃ x, ((((w1.setCell { block := w.heap.size, off := 0 } (Value.int IntKind.i64 U)).setCell { block := w.heap.size, off := 1 } (Value.int IntKind.i64 ↑I)).setCell { block := w.heap.size, off := 2 } (Value.int IntKind.i64 ↑D)).setCell { block := w.heap.size, off := 3 } (Value.bool t)) = x := ⟨_, rfl⟩
  have hbel2 : Below w.heap.size w W2 := by rw [← hW2]; exact (((hbel.setCell (Nat.le_refl _) _).setCell (Nat.le_refl _) _).setCell (Nat.le_refl _) _).setCell (Nat.le_refl _) _
  have hF2 : W2.heap[w.heap.size]? = some (fmtObj U I D t) := by rw [← hW2]; exact heap_set HB.out
  rw [hW2]
  clear hW2 c0 c1 c2 c3 z0 z1 z2 z3 hbel hsz
  obtain ⟨c0, c1, c2, c3, _, _, _, _⟩ := fmtAt_heap hF2
  have HF2 := Lib.hid hF2
  clear hF2
  obtain ⟨N, hN⟩ : ∃ N : Nat, N = I + D := ⟨_, rfl⟩
  have hN12 : N ≤ 12 := by omega
  have hN1 : 1 ≤ N := by omega
  obtain ⟨K, hK⟩ : ∃ K : Int, ((10 ^ N : Nat) : Int) = K := ⟨_, rfl⟩
  have hKb : 1 ≤ K ∧ K ≤ 1000000000000 := by
    have h1 : 1 ≤ 10 ^ N := Nat.one_le_pow _ _ (by decide)
    have h2 := pow_le12 N hN12
    obtain ⟨y, hy⟩ : ∃ y, 10 ^ N = y := ⟨_, rfl⟩
    rw [hy] at hK h1 h2
    omega
  obtain ⟨hK0, hK1⟩ := hKb
  have HK := Lib.hid hK
  clear hK
  have hNI : (I : Int) + (D : Int) = (N : Int) := by omega
  have HN := Lib.hid hN
  clear hN
  go_upto_region 5 with fail
  go_loop [8, 9] (fun v i => ∃ (j : Nat) (x : Int), j ≤ N ∧ x = ((10 ^ j : Nat) : Int) ∧ i = .int .i64 j ∧ v = .int .i64 x) (fun _ i => N - (intOf i).toNat)
  case atStart => exact ⟨0, 1, Nat.zero_le _, by simp, rfl, rfl⟩
  case round =>
  obtain ⟨j, x, hj, hx, rfl, rfl⟩ := hrel
  by_cases hlt : j < N
  · have hp : (10 : Nat) ^ j ≤ 10 ^ 11 := Nat.pow_le_pow_right (by decide) (by omega)
    have hb23 : 0 ≤ x ∧ x ≤ 100000000000 := by
      obtain ⟨y, hy⟩ : ∃ y, 10 ^ j = y := ⟨_, rfl⟩
      rw [hy] at hx hp
      omega
    obtain ⟨hb2, hb3⟩ := hb23
    have HX : Hid (10 * x = ((10 ^ (j + 1) : Nat) : Int)) := by
      show _ = _
      rw [hx, Nat.pow_succ, Int.natCast_mul, Int.mul_comm]; rfl
    clear hx hp
    go_wp2
    go_round
    case rel => exact ⟨j + 1, 10 * x, by omega, HX.out, by go_num, rfl⟩
    case measure => simp [intOf]; omega
  obtain rfl : j = N := by omega
  obtain rfl : x = K := hx.trans HK.out
  clear hx hlt hj
  have hx0 : (x == 0) = false := by simp; omega
  have hx00 : ¬ x = 0 := by omega
  obtain ⟨q, hq⟩ : ∃ q, n.tmod x = q := ⟨_, rfl⟩
  have hq0 : -x < q := by rw [← hq]; exact Int.lt_tmod_of_pos n (by omega)
  have hq1 : q < x := by rw [← hq]; exact Int.tmod_lt_of_pos n (by omega)
  go_upto_if 37 with fail
  go_cut [1] (fun y wx => y = .int .i64 (q.natAbs : Int) ∧ W2 = wx)
  case first =>
    by_cases hneg : q < 0
    · have hna : -q = (q.natAbs : Int) := by omega
      go_wp2_with fail
      go_meet
      exact ⟨rfl, rfl⟩
    · have hna : (q.natAbs : Int) = q := by omega
      have HNA := Lib.hid hna
      clear hna
      go_wp2_with fail
      go_meet
      exact ⟨by rw [HNA.out], rfl⟩
  case rest =>
  obtain ⟨rfl, rfl⟩ := hcut
  obtain ⟨v, hv⟩ : ∃ v : Nat, q.natAbs = v := ⟨_, rfl⟩
  have hvx : (v : Int) < x := by omega
  have hvN : v < 10 ^ (I + D) := by rw [← HN.out]; have := HK.out; omega
  rw [hv]
  have HVN := Lib.hid hvN
  clear hv hq hq0 hq1 hvN
  have hv0 : 0 ≤ (v : Int) := by omega
  have hv1 : (v : Int) ≤ 9223372036854775807 := by omega
  have hNum : numL v j = pad v (I + D) := by rw [HN.out, numL_of_lt HVN.out]
  obtain ⟨P, hP⟩ : ∃ P, pad v (I + D) = P := ⟨_, rfl⟩
  obtain ⟨S, hS⟩ := str_ex P
  have HSN : Hid (S.data.toList = numL v j) := by show _ = _; rw [hS, hNum, hP]
  have HS := Lib.hid hS
  have hSz : S.size = j := by rw [← len_list, hS, ← hP, pad_length, HN.out]
  have hs1 : S.size ≤ 9223372036854775807 := by omega
  obtain ⟨g, hg⟩ : ∃ g, (coordV P U I D t).getD 0 = g := ⟨_, rfl⟩
  obtain ⟨b, hb⟩ : ∃ b, (coordV P U I D t).isSome = b := ⟨_, rfl⟩
  have HC : Hid ((coordV P U I D t).getD 0 = g ∧ (coordV P U I D t).isSome = b) := ⟨hg, hb⟩
  have HPP := Lib.hid hP
  have HJ : (j : Int) = ((j : Nat) : Int) := rfl
  clear hNum hP hS hg hb
  obtain ⟨X, hX⟩ : ∃ X : Int, X = (v : Int) := ⟨_, rfl⟩
  have HX := Lib.hid hX
  rw [← hX] at hv0 hv1 hvx ⊢
  clear hX HJ
  have hT2 : Tab W2 := hT.below hbel2
  go_wp2_with fail
  with_reducible refine (num_at v j j rfl (by omega) X HX hv0 hv1 S HSN _).mono ?_
  rintro e w' ⟨rfl, rfl⟩
  go_wp2_with fail
  with_reducible refine (coord_at S P HS U I D t g b HC hs1 _).mono ?_
  rintro e w3 ⟨rfl, hb3⟩
  have hT3 : Tab w3 := hT2.below hb3
  have HF3 := Lib.hid (one_below HF2.out hb3)
  have hbel3 := hbel2.trans (hb3.mono hbel2.size)
  cases b with
  | false =>
    go_wp2_with fail
    with_reducible refine (uawake_any _ hT3).mono ?_
    rintro e w4 ⟨rfl, hb4⟩
    go_wp2_with fail
    go_ret
    exact ⟨rfl, hbel3.trans (hb4.mono hbel3.size)⟩
  | true =>
    have hback := back_law HF.out HVN.out (t := t) (g := g) (by rw [HPP.out]; exact opt_of HC)
    obtain ⟨hneg, L, hL, hL1, hL2⟩ := hback
    obtain ⟨hg0, hg1⟩ := digits_range hL
    have hcd := coord_digits hL
    rw [HPP.out] at hneg
    obtain ⟨S2, hS2⟩ := str_ex L
    rw [← hS2, len_list] at hL1 hL2
    have HDG : Hid ((digitsV g U I D t).getD [] = L ∧ (digitsV g U I D t).isSome = true) := by show _ ∧ _; rw [hL]; exact ⟨rfl, rfl⟩
    have HC2 : Hid ((coordV L U I D t).getD 0 = g ∧ (coordV L U I D t).isSome = true) := by show _ ∧ _; rw [hcd]; exact ⟨rfl, rfl⟩
    have HC3 : Hid ((coordV (45 :: P) U I D t).getD 0 = -g ∧ (coordV (45 :: P) U I D t).isSome = true) := by show _ ∧ _; rw [hneg]; exact ⟨rfl, rfl⟩
    have HS2 := Lib.hid hS2
    have HSM : Hid (((⟨#[45]⟩ : ByteArray) ++ S).data.toList = 45 :: P) := by show _ = _; rw [app_list, HS.out]; rfl
    have hz2 : S2.size ≤ S.size := by rw [hSz, HN.out]; exact hL2
    have hs2 : S2.size ≤ 9223372036854775807 := by omega
    have hs3 : ((⟨#[45]⟩ : ByteArray) ++ S).size ≤ 9223372036854775807 := by rw [← len_list, HSM.out, List.length_cons, ← HS.out, len_list]; omega
    have hSz20 : S.size ≤ 20 := by omega
    clear hneg hL hcd hS2 hL2 hSz
    obtain ⟨a0, a1, a2, a3, _, _, _, _⟩ := fmtAt_heap HF3.out
    go_wp2_with fail
    with_reducible refine (udigits_any g U I D t L true HDG S2 HS2 _ hT3).mono ?_
    rintro e w4 ⟨rfl, hb4⟩
    have hT4 : Tab w4 := hT3.below hb4
    have HF4 := Lib.hid (one_below HF3.out hb4)
    have hbel4 := hbel3.trans (hb4.mono hbel3.size)
    obtain ⟨b0, b1, b2, b3, _, _, _, _⟩ := fmtAt_heap HF4.out
    go_wp2_with fail
    with_reducible refine (coord_at S2 L HS2 U I D t g true HC2 hs2 _).mono ?_
    rintro e w5 ⟨rfl, hb5⟩
    have hT5 : Tab w5 := hT4.below hb5
    have HF5 := Lib.hid (one_below HF4.out hb5)
    have hbel5 := hbel4.trans (hb5.mono hbel4.size)
    obtain ⟨d0, d1, d2, d3, _, _, _, _⟩ := fmtAt_heap HF5.out
    go_wp2_with fail
    with_reducible refine (coord_at _ (45 :: P) HSM U I D t (-g) true HC3 hs3 _).mono ?_
    rintro e w6 ⟨rfl, hb6⟩
    have hT6 : Tab w6 := hT5.below hb6
    have hbel6 := hbel5.trans (hb6.mono hbel5.size)
    go_wp2_with fail
    with_reducible refine (uawake_any _ hT6).mono ?_
    rintro e w7 ⟨rfl, hb7⟩
    go_wp2_with fail
    go_ret
    exact ⟨rfl, hbel6.trans (hb7.mono hbel6.size)⟩
end Go.Proofs.YtmclabehdjdpnaaDoor.UnitBack
