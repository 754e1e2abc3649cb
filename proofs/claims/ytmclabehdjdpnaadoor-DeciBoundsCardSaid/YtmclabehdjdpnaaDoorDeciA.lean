/-
  The walk of the decimal statements' awake.
-/
import Derived.Test.YtmclabehdjdpnaaDoorDeciT
namespace Go.Proofs.YtmclabehdjdpnaaDoor.DeciW
open Go.RowKit Go.Proofs.YtmclabehdjdpnaaDoor.Dp Go.Proofs.YtmclabehdjdpnaaDoor.Base

theorem text_a : Hid ((⟨#[49, 46, 50, 53]⟩ : ByteArray).data.toList = textL 1250000) := by
  show _ = _
  rw [show (1250000 : Int) = ((1250000 : Nat) : Int) from rfl, textL_pos _ (by decide), show 1250000 / 1000000 = 1 from rfl, Lib.decDigits_one (by decide)]
  decide +kernel
theorem text_b : Hid ((⟨#[45, 48, 46, 48, 48, 48, 48, 48, 49]⟩ : ByteArray).data.toList = textL (-1)) := by
  show _ = _
  rw [show (-1 : Int) = -((1 : Nat) : Int) from rfl, textL_neg _ (by decide) (by decide), show 1 / 1000000 = 0 from rfl, Lib.decDigits_one (by decide)]
  decide +kernel
theorem dec_a : dec [45, 46, 53] = some (-500000) := by decide +kernel
theorem dec_b : dec [] = none := by decide +kernel
theorem dec_c : dec [49, 50, 51, 52, 53, 54, 55] = none := by decide +kernel
theorem parse_c (s : ByteArray) (v : Int) (b : Bool) (hv : Hid ((dec s.data.toList).getD 0 = v ∧ (dec s.data.toList).isSome = b)) (hs : s.size ≤ maxLen) (w : World) :
    Calls Tryd.prog 24 #[.string s] w fun e w' => e = .returned (.tuple #[.int .i64 v, .bool b]) ∧ w = w' := by
  obtain ⟨h1, h2⟩ := hv.out
  subst h1; subst h2
  exact parse_any s w hs
theorem ok_c (n : Int) (b : Bool) (hb : Hid (okN n = b)) (w : World) : Calls Tryd.prog 25 #[.int .i64 n] w fun e w' => e = .returned (.bool b) ∧ w = w' := by
  have := hb.out; subst this; exact ok_any n w

theorem pa : Hid ((dec (⟨#[45, 46, 53]⟩ : ByteArray).data.toList).getD 0 = -500000 ∧ (dec (⟨#[45, 46, 53]⟩ : ByteArray).data.toList).isSome = true) := by
  show _ ∧ _
  rw [show (⟨#[45, 46, 53]⟩ : ByteArray).data.toList = [45, 46, 53] from rfl, dec_a]; exact ⟨rfl, rfl⟩
theorem pb : Hid ((dec (⟨#[]⟩ : ByteArray).data.toList).getD 0 = 0 ∧ (dec (⟨#[]⟩ : ByteArray).data.toList).isSome = false) := by
  show _ ∧ _
  rw [show (⟨#[]⟩ : ByteArray).data.toList = [] from rfl, dec_b]; exact ⟨rfl, rfl⟩
theorem pc : Hid ((dec (⟨#[49, 50, 51, 52, 53, 54, 55]⟩ : ByteArray).data.toList).getD 0 = 0 ∧ (dec (⟨#[49, 50, 51, 52, 53, 54, 55]⟩ : ByteArray).data.toList).isSome = false) := by
  show _ ∧ _
  rw [show (⟨#[49, 50, 51, 52, 53, 54, 55]⟩ : ByteArray).data.toList = [49, 50, 51, 52, 53, 54, 55] from rfl, dec_c]; exact ⟨rfl, rfl⟩
theorem oka : Hid (okN 999999999999 = true) := by show okN _ = _; decide
theorem okb : Hid (okN 1000000000000 = false) := by show okN _ = _; decide

set_option maxRecDepth 100000 in
set_option maxHeartbeats 800000 in
theorem awake_any (w : World) (hT : Tab w) : Calls Tryd.prog 26 #[] w fun e w' => e = .returned (.bool true) ∧ Below w.heap.size w w' := by
  go_enter Tryd.func26, Tryd.ntmps26
  go_wp2_with fail
  with_reducible refine (parse_c _ (-500000) true pa (by decide) _).mono ?_
  rintro e w' ⟨rfl, rfl⟩
  go_wp2_with fail
  with_reducible refine (parse_c _ 0 false pb (by decide) _).mono ?_
  rintro e w' ⟨rfl, rfl⟩
  go_wp2_with fail
  with_reducible refine (parse_c _ 0 false pc (by decide) _).mono ?_
  rintro e w' ⟨rfl, rfl⟩
  go_wp2_with fail
  with_reducible refine (text_any _ (by decide) (by decide) _ text_a _ hT).mono ?_
  rintro e w1 ⟨rfl, hb1⟩
  go_wp2_with fail
  with_reducible refine (text_any _ (by decide) (by decide) _ text_b _ (hT.below hb1)).mono ?_
  rintro e w2 ⟨rfl, hb2⟩
  go_wp2_with fail
  with_reducible refine (ok_c _ true oka _).mono ?_
  rintro e w' ⟨rfl, rfl⟩
  go_wp2_with fail
  with_reducible refine (ok_c _ false okb _).mono ?_
  rintro e w' ⟨rfl, rfl⟩
  go_wp2_with fail
  go_ret
  exact ⟨rfl, hb1.trans (hb2.mono hb1.size)⟩
#print axioms awake_any
end Go.Proofs.YtmclabehdjdpnaaDoor.DeciW
