/-
  Proved: for every two numbers, deci's Text is read by Parse as the same number, two texts are one just if the numbers are, and signs ahead mean what the document says (heliographlaw2.DeciBack returns true). Conditions: the row's own (the package-level tables read as the program's text lays them, tied by the card).
-/
import Derived.Test.YtmclabehdjdpnaaDoorDeciA
import Derived.Test.YtmclabehdjdpnaaDoorDq
import Derived.ProofKit
namespace Go.Proofs.YtmclabehdjdpnaaDoor.DeciBack
open Go.ChangeShapes Go.WideShapes Go.ChangeAt Go.WideMaps Go.WideElems Go.RowKit
open Go.ChangeMaps (open_string)
open Go.Proofs.YtmclabehdjdpnaaDoor.Dp Go.Proofs.YtmclabehdjdpnaaDoor.Base Go.Proofs.YtmclabehdjdpnaaDoor.DeciW

theorem tmod_ok (n : Int) : okN (n.tmod 1000000000000) = true := by
  rw [okN_iff]
  have h1 := Int.tmod_lt_of_pos n (show (0 : Int) < 1000000000000 by decide)
  have h2 : -1000000000000 < n.tmod 1000000000000 := by
    have := Int.lt_tmod_of_pos n (show (0 : Int) < 1000000000000 by decide)
    simpa using this
  exact ⟨h2, h1⟩

set_option maxRecDepth 100000 in
set_option maxHeartbeats 800000 in
theorem walk (n : Int) (_hn0 : -9223372036854775808 ≤ n) (_hn1 : n ≤ 9223372036854775807) (m : Int) (_hm0 : -9223372036854775808 ≤ m) (_hm1 : m ≤ 9223372036854775807) (w : World) (hT : Tab w) :
    Calls Tryd.prog 9 #[.int .i64 n, .int .i64 m] w fun e w' => e = .returned (.bool true) ∧ Below w.heap.size w w' := by
  clear _hn0 _hn1 _hm0 _hm1
  obtain ⟨a, ha⟩ : ∃ a, n.tmod 1000000000000 = a := ⟨_, rfl⟩
  obtain ⟨b, hb⟩ : ∃ b, m.tmod 1000000000000 = b := ⟨_, rfl⟩
  have oka : okN a = true := by rw [← ha]; exact tmod_ok n
  have okb : okN b = true := by rw [← hb]; exact tmod_ok m
  have ia := (okN_iff a).1 oka
  have ib := (okN_iff b).1 okb
  obtain ⟨S, hS⟩ := str_ex (textL a)
  obtain ⟨T, hTT⟩ := str_ex (textL b)
  have hz : S.size ≤ 14 := by rw [← len_list, hS]; exact text_length oka
  have hd : dec S.data.toList = some a := by rw [hS]; exact dec_text oka
  have hP : Hid ((dec S.data.toList).getD 0 = a ∧ (dec S.data.toList).isSome = true) := by
    show _ ∧ _
    rw [hd]; exact ⟨rfl, rfl⟩
  have hm : S.size ≤ maxLen := by unfold maxLen; omega
  have heq : (S.toList == T.toList) = (a == b) := by
    rw [Lib.toList_data, Lib.toList_data, hS, hTT, Bool.eq_iff_iff, beq_iff_eq, beq_iff_eq]
    exact ⟨fun h => text_inj oka okb h, fun h => by rw [h]⟩
  have hsgn : (0 ≤ a → ∃ x : Nat, x < 1000000000000 ∧ a = x ∧ S.data.toList = bodyL x) ∧ (¬ 0 ≤ a → 0 < S.size ∧ ∀ h : 0 < S.size, S[0].toNat = 45) := by
    constructor
    · intro h
      exact ⟨a.toNat, by omega, by omega, by rw [hS, ← textL_nonneg _ (by omega)]; congr 1; omega⟩
    · intro h
      have e := textL_minus a.natAbs (by omega) (by omega)
      rw [show (-(a.natAbs : Int)) = a by omega, ← hS] at e
      have hp : 0 < S.size := by rw [← len_list, e]; simp
      refine ⟨hp, fun h => ?_⟩
      have := head_of S h
      rw [e] at this
      injection this with h1 _
      rw [← h1]; rfl
  have HG := Lib.hid hsgn
  have HS := Lib.hid hS
  have HT := Lib.hid hTT
  have r0 : -9223372036854775808 ≤ a := by omega
  have r1 : a ≤ 9223372036854775807 := by omega
  have r2 : -9223372036854775808 ≤ b := by omega
  have r3 : b ≤ 9223372036854775807 := by omega
  have R0 := Lib.hid r0
  have R1 := Lib.hid r1
  have R2 := Lib.hid r2
  have R3 := Lib.hid r3
  have HM := Lib.hid hm
  have IA := Lib.hid ia
  clear hsgn hS hTT hd ia ib oka okb r0 r1 r2 r3 hm
  by_cases h0 : 0 ≤ a
  · obtain ⟨x, hx1, hx2, hx3⟩ := HG.out.1 h0
    have hplus : Hid ((dec ((⟨#[43]⟩ : ByteArray) ++ S).data.toList).getD 0 = a ∧ (dec ((⟨#[43]⟩ : ByteArray) ++ S).data.toList).isSome = true) := by
      show _ ∧ _
      rw [app_list, hx3]
      show (dec (43 :: bodyL x)).getD 0 = a ∧ (dec (43 :: bodyL x)).isSome = true
      rw [dec_plus_body x hx1, hx2]; exact ⟨rfl, rfl⟩
    have hminus : Hid ((dec ((⟨#[45]⟩ : ByteArray) ++ S).data.toList).getD 0 = -a ∧ (dec ((⟨#[45]⟩ : ByteArray) ++ S).data.toList).isSome = true) := by
      show _ ∧ _
      rw [app_list, hx3]
      show (dec (45 :: bodyL x)).getD 0 = -a ∧ (dec (45 :: bodyL x)).isSome = true
      rw [dec_minus_body x hx1, hx2]; exact ⟨rfl, rfl⟩
    have hz1 : ((⟨#[43]⟩ : ByteArray) ++ S).size ≤ maxLen := by
      unfold maxLen
      rw [ByteArray.size_append]
      have : (⟨#[43]⟩ : ByteArray).size = 1 := rfl
      omega
    have hz2 : ((⟨#[45]⟩ : ByteArray) ++ S).size ≤ maxLen := by
      unfold maxLen
      rw [ByteArray.size_append]
      have : (⟨#[45]⟩ : ByteArray).size = 1 := rfl
      omega
    have HZ1 := Lib.hid hz1
    have HZ2 := Lib.hid hz2
    have ib1 : a < 1000000000000 := IA.out.2
    clear hz1 hz2 hx2 hx3 hx1
    go_enter Tryd.func9, Tryd.ntmps9
    go_wp2_with fail
    with_reducible refine (text_any a R0.out R1.out S HS _ hT).mono ?_
    rintro e w1 ⟨rfl, hb1⟩
    go_wp2_with fail
    with_reducible refine (text_any b R2.out R3.out T HT _ (hT.below hb1)).mono ?_
    rintro e w2 ⟨rfl, hb2⟩
    go_wp2_with fail
    with_reducible refine (parse_c S a true hP HM.out _).mono ?_
    rintro e w' ⟨rfl, rfl⟩
    go_wp2_with fail
    with_reducible refine (parse_c _ a true hplus HZ1.out _).mono ?_
    rintro e w' ⟨rfl, rfl⟩
    go_wp2_with fail
    with_reducible refine (parse_c _ (-a) true hminus HZ2.out _).mono ?_
    rintro e w' ⟨rfl, rfl⟩
    go_wp2_with fail
    with_reducible refine (awake_any _ ((hT.below hb1).below hb2)).mono ?_
    rintro e w3 ⟨rfl, hb3⟩
    go_wp2_with fail
    go_ret
    exact ⟨rfl, (hb1.trans (hb2.mono hb1.size)).trans (hb3.mono (Nat.le_trans hb1.size hb2.size))⟩
  · obtain ⟨hp, h45⟩ := HG.out.2 h0
    have h45b : ((S[0].toNat : Int) == 45) = true := by rw [h45 hp]; rfl
    clear h45
    go_enter Tryd.func9, Tryd.ntmps9
    go_wp2_with fail
    with_reducible refine (text_any a R0.out R1.out S HS _ hT).mono ?_
    rintro e w1 ⟨rfl, hb1⟩
    go_wp2_with fail
    with_reducible refine (text_any b R2.out R3.out T HT _ (hT.below hb1)).mono ?_
    rintro e w2 ⟨rfl, hb2⟩
    go_wp2_with fail
    with_reducible refine (parse_c S a true hP HM.out _).mono ?_
    rintro e w' ⟨rfl, rfl⟩
    go_wp2_with fail
    with_reducible refine (awake_any _ ((hT.below hb1).below hb2)).mono ?_
    rintro e w3 ⟨rfl, hb3⟩
    go_wp2_with fail
    go_ret
    exact ⟨rfl, (hb1.trans (hb2.mono hb1.size)).trans (hb3.mono (Nat.le_trans hb1.size hb2.size))⟩
end Go.Proofs.YtmclabehdjdpnaaDoor.DeciBack
