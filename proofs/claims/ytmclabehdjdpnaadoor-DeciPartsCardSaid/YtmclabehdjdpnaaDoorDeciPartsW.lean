/-
  Proved: for every whole part and every decimals, the text of the two with a point between them is read by deci's Parse as their number, with a sign or without, and with a seventh decimal it is none (heliographlaw2.DeciParts returns true). Conditions: the row's own (the package-level tables read as the program's text lays them, tied by the card).
-/
import Derived.Test.YtmclabehdjdpnaaDoorDeciA
import Derived.Test.YtmclabehdjdpnaaDoorRefN
import Derived.Test.YtmclabehdjdpnaaDoorDq
import Derived.ProofKit
namespace Go.Proofs.YtmclabehdjdpnaaDoor.DeciParts
open Go.ChangeShapes Go.WideShapes Go.ChangeAt Go.WideMaps Go.WideElems Go.RowKit
open Go.ChangeMaps (open_string)
open Go.Proofs.YtmclabehdjdpnaaDoor.Dp Go.Proofs.YtmclabehdjdpnaaDoor.Base Go.Proofs.YtmclabehdjdpnaaDoor.DeciW
open Go.Lib (decDigits nDigits)

theorem sz45 : (⟨#[45]⟩ : ByteArray).size = 1 := rfl
theorem sz46 : (⟨#[46]⟩ : ByteArray).size = 1 := rfl
theorem sz48 : (⟨#[48]⟩ : ByteArray).size = 1 := rfl
theorem rem_range (n : Int) : -1000000 < n.tmod 1000000 ∧ n.tmod 1000000 < 1000000 := by
  have h1 := Int.tmod_lt_of_pos n (show (0 : Int) < 1000000 by decide)
  have h2 : -1000000 < n.tmod 1000000 := by
    have := Int.lt_tmod_of_pos n (show (0 : Int) < 1000000 by decide)
    simpa using this
  exact ⟨h2, h1⟩
theorem decU_parts (a b : Nat) (ha : a < 1000000) (hb : b < 1000000) : decU (decDigits a ++ 46 :: pad b 6) = some (a * 1000000 + b) := by
  have hd : ∀ c ∈ decDigits a, isD c = true := by rw [dec_pad]; exact digits_pad _ _
  have hv : val (decDigits a) = a := by rw [dec_pad, val_pad]; exact Nat.mod_eq_of_lt (Lib.lt_pow_nDigits _)
  rw [decU_point _ _ hd (digits_pad _ _), pad_length, if_pos ⟨by rw [Lib.decDigits_length]; exact nDigits_le6 ha, by decide, by omega⟩, hv, val_pad, Nat.mod_eq_of_lt (by simpa using hb)]
  simp
theorem decU_more (a b : Nat) : decU (decDigits a ++ 46 :: (pad b 6 ++ [48])) = none := by
  have hd : ∀ c ∈ decDigits a, isD c = true := by rw [dec_pad]; exact digits_pad _ _
  have hp : ∀ c ∈ pad b 6 ++ [48], isD c = true := by
    intro c hc
    rcases List.mem_append.1 hc with h | h
    · exact digits_pad _ _ c h
    · obtain rfl := List.mem_singleton.1 h; decide
  rw [decU_point _ _ hd hp, if_neg]
  rintro ⟨_, h, _⟩
  rw [List.length_append, pad_length] at h
  simp at h
theorem strip_dec (a : Nat) (r : List UInt8) : strip (decDigits a ++ r) = (false, decDigits a ++ r) := by
  rw [dec_pad]
  obtain ⟨k, hk⟩ : ∃ k, nDigits a = k + 1 := ⟨nDigits a - 1, by have := Lib.nDigits_pos a; omega⟩
  rw [hk, pad_succ]
  exact strip_digit (isD_dg _ _) _
theorem dec_parts (a b : Nat) (ha : a < 1000000) (hb : b < 1000000) : dec (decDigits a ++ 46 :: pad b 6) = some ((a : Int) * 1000000 + b) := by
  unfold dec; rw [strip_dec]; simp [decU_parts a b ha hb]
theorem dec_parts_minus (a b : Nat) (ha : a < 1000000) (hb : b < 1000000) : dec (45 :: (decDigits a ++ 46 :: pad b 6)) = some (-((a : Int) * 1000000 + b)) := by
  unfold dec; rw [strip_minus]; simp [decU_parts a b ha hb]
theorem dec_more (a b : Nat) : dec (decDigits a ++ 46 :: (pad b 6 ++ [48])) = none := by
  unfold dec; rw [strip_dec]; simp [decU_more a b]
theorem dec_more_minus (a b : Nat) : dec (45 :: (decDigits a ++ 46 :: (pad b 6 ++ [48]))) = none := by
  unfold dec; rw [strip_minus]; simp [decU_more a b]

set_option maxRecDepth 100000 in
set_option maxHeartbeats 800000 in
theorem walk (n : Int) (_hn0 : -9223372036854775808 ≤ n) (_hn1 : n ≤ 9223372036854775807) (m : Int) (_hm0 : -9223372036854775808 ≤ m) (_hm1 : m ≤ 9223372036854775807) (minus : Bool) (w : World) (hT : Tab w) :
    Calls Tryd.prog 10 #[.int .i64 n, .int .i64 m, .bool minus] w fun e w' => e = .returned (.bool true) ∧ Below w.heap.size w w' := by
  clear _hn0 _hn1 _hm0 _hm1
  obtain ⟨a, ha⟩ : ∃ a, n.tmod 1000000 = a := ⟨_, rfl⟩
  obtain ⟨b, hb⟩ : ∃ b, m.tmod 1000000 = b := ⟨_, rfl⟩
  have ra := rem_range n
  have rb := rem_range m
  rw [ha] at ra
  rw [hb] at rb
  obtain ⟨ra0, ra1⟩ := ra
  obtain ⟨rb0, rb1⟩ := rb
  obtain ⟨c, hc⟩ : ∃ c, (a + 1000000) % 1000000 = c := ⟨_, rfl⟩
  obtain ⟨d, hd⟩ : ∃ d, (b + 1000000) % 1000000 = d := ⟨_, rfl⟩
  have rc0 : 0 ≤ c := by omega
  have rc1 : c < 1000000 := by omega
  have rd0 : 0 ≤ d := by omega
  have rd1 : d < 1000000 := by omega
  obtain ⟨x, hx⟩ : ∃ x : Nat, c = x := ⟨c.toNat, by omega⟩
  obtain ⟨y, hy⟩ : ∃ y : Nat, d = y := ⟨d.toNat, by omega⟩
  obtain ⟨S, hS⟩ := str_ex (numL x 1)
  obtain ⟨T, hTT⟩ := str_ex (numL y 6)
  have hS' : S.data.toList = decDigits x := by rw [hS, numL_one]
  have hT' : T.data.toList = pad y 6 := by rw [hTT]; exact numL_of_lt (by omega)
  have hz1 : S.size ≤ 6 := by rw [← len_list, hS', Lib.decDigits_length]; exact nDigits_le6 (by omega)
  have hz2 : T.size ≤ 6 := by rw [← len_list, hT', pad_length]; exact Nat.le_refl _
  have hl1 : ((S ++ (⟨#[46]⟩ : ByteArray)) ++ T).data.toList = decDigits x ++ 46 :: pad y 6 := by
    rw [app_list, app_list, hS', hT']; simp
  have hl2 : (((S ++ (⟨#[46]⟩ : ByteArray)) ++ T) ++ (⟨#[48]⟩ : ByteArray)).data.toList = decDigits x ++ 46 :: (pad y 6 ++ [48]) := by
    rw [app_list, hl1]; simp
  have hl3 : ((⟨#[45]⟩ : ByteArray) ++ ((S ++ (⟨#[46]⟩ : ByteArray)) ++ T)).data.toList = 45 :: (decDigits x ++ 46 :: pad y 6) := by
    rw [app_list, hl1]; rfl
  have hl4 : (((⟨#[45]⟩ : ByteArray) ++ ((S ++ (⟨#[46]⟩ : ByteArray)) ++ T)) ++ (⟨#[48]⟩ : ByteArray)).data.toList = 45 :: (decDigits x ++ 46 :: (pad y 6 ++ [48])) := by
    rw [app_list, hl3]; simp
  have k1 : Hid ((dec ((S ++ (⟨#[46]⟩ : ByteArray)) ++ T).data.toList).getD 0 = 1000000 * c + d ∧ (dec ((S ++ (⟨#[46]⟩ : ByteArray)) ++ T).data.toList).isSome = true) := by
    show _ ∧ _
    rw [hl1, dec_parts x y (by omega) (by omega), hx, hy]
    exact ⟨by show (x : Int) * 1000000 + y = _; omega, rfl⟩
  have k2 : Hid ((dec (((S ++ (⟨#[46]⟩ : ByteArray)) ++ T) ++ (⟨#[48]⟩ : ByteArray)).data.toList).getD 0 = 0 ∧ (dec (((S ++ (⟨#[46]⟩ : ByteArray)) ++ T) ++ (⟨#[48]⟩ : ByteArray)).data.toList).isSome = false) := by
    show _ ∧ _
    rw [hl2, dec_more]; exact ⟨rfl, rfl⟩
  have k3 : Hid ((dec ((⟨#[45]⟩ : ByteArray) ++ ((S ++ (⟨#[46]⟩ : ByteArray)) ++ T)).data.toList).getD 0 = -(1000000 * c + d) ∧ (dec ((⟨#[45]⟩ : ByteArray) ++ ((S ++ (⟨#[46]⟩ : ByteArray)) ++ T)).data.toList).isSome = true) := by
    show _ ∧ _
    rw [hl3, dec_parts_minus x y (by omega) (by omega), hx, hy]
    exact ⟨by show -((x : Int) * 1000000 + y) = _; omega, rfl⟩
  have k4 : Hid ((dec (((⟨#[45]⟩ : ByteArray) ++ ((S ++ (⟨#[46]⟩ : ByteArray)) ++ T)) ++ (⟨#[48]⟩ : ByteArray)).data.toList).getD 0 = 0 ∧ (dec (((⟨#[45]⟩ : ByteArray) ++ ((S ++ (⟨#[46]⟩ : ByteArray)) ++ T)) ++ (⟨#[48]⟩ : ByteArray)).data.toList).isSome = false) := by
    show _ ∧ _
    rw [hl4, dec_more_minus]; exact ⟨rfl, rfl⟩
  have HX := Lib.hid hx
  have HY := Lib.hid hy
  have HS := Lib.hid hS
  have HT := Lib.hid hTT
  clear hx hy hS hTT hS' hT' hl1 hl2 hl3 hl4
  cases minus with
  | false =>
    go_enter Tryd.func10, Tryd.ntmps10
    go_wp2_with fail
    with_reducible refine (num_at x 1 1 rfl (by decide) _ HX rc0 (by omega) S HS _).mono ?_
    rintro e w1 ⟨rfl, rfl⟩
    go_wp2_with fail
    with_reducible refine (num_at y 6 6 rfl (by decide) _ HY rd0 (by omega) T HT _).mono ?_
    rintro e w1 ⟨rfl, rfl⟩
    go_wp2_with fail
    with_reducible refine (parse_c _ _ true k1 (by have q1 := sz45; have q2 := sz46; have q3 := sz48; unfold maxLen; simp only [ByteArray.size_append]; omega) _).mono ?_
    rintro e w' ⟨rfl, rfl⟩
    go_wp2_with fail
    with_reducible refine (parse_c _ 0 false k2 (by have q1 := sz45; have q2 := sz46; have q3 := sz48; unfold maxLen; simp only [ByteArray.size_append]; omega) _).mono ?_
    rintro e w' ⟨rfl, rfl⟩
    go_wp2_with fail
    with_reducible refine (awake_any _ hT).mono ?_
    rintro e w3 ⟨rfl, hb3⟩
    go_wp2_with fail
    go_ret
    exact ⟨rfl, hb3⟩
  | true =>
    go_enter Tryd.func10, Tryd.ntmps10
    go_wp2_with fail
    with_reducible refine (num_at x 1 1 rfl (by decide) _ HX rc0 (by omega) S HS _).mono ?_
    rintro e w1 ⟨rfl, rfl⟩
    go_wp2_with fail
    with_reducible refine (num_at y 6 6 rfl (by decide) _ HY rd0 (by omega) T HT _).mono ?_
    rintro e w1 ⟨rfl, rfl⟩
    go_wp2_with fail
    with_reducible refine (parse_c _ _ true k3 (by have q1 := sz45; have q2 := sz46; have q3 := sz48; unfold maxLen; simp only [ByteArray.size_append]; omega) _).mono ?_
    rintro e w' ⟨rfl, rfl⟩
    go_wp2_with fail
    with_reducible refine (parse_c _ 0 false k4 (by have q1 := sz45; have q2 := sz46; have q3 := sz48; unfold maxLen; simp only [ByteArray.size_append]; omega) _).mono ?_
    rintro e w' ⟨rfl, rfl⟩
    go_wp2_with fail
    with_reducible refine (awake_any _ hT).mono ?_
    rintro e w3 ⟨rfl, hb3⟩
    go_wp2_with fail
    go_ret
    exact ⟨rfl, hb3⟩
end Go.Proofs.YtmclabehdjdpnaaDoor.DeciParts
