/-
  The walks of the units' statements' helpers: Tame, awake.
-/
import Derived.Test.YtmclabehdjdpnaaDoorCoordW
import Derived.Test.YtmclabehdjdpnaaDoorDigitsW
import Derived.Test.YtmclabehdjdpnaaDoorBits
namespace Go.Proofs.YtmclabehdjdpnaaDoor.UnitW
open Go.RowKit Go.Proofs.YtmclabehdjdpnaaDoor.Dp Go.Proofs.YtmclabehdjdpnaaDoor.Base Go.Proofs.YtmclabehdjdpnaaDoor.DeciW Go.Proofs.YtmclabehdjdpnaaDoor.Up

set_option maxRecDepth 100000 in
set_option maxHeartbeats 800000 in
theorem tame_ex (u i d : Int) (t : Bool) : ∃ (U : Int) (I D : Nat), fmtOk U I D = true ∧ ∀ w : World,
    Calls Tryd.prog 32 #[fmtVal u i d t] w fun e w' => e = .returned (fmtVal U I D t) ∧ Below w.heap.size w w' := by
  obtain ⟨U, hU, hU2⟩ : ∃ U : Int, bits .and .i64 u 1 = U ∧ (U = 0 ∨ U = 1) := ⟨u % 2, by rw [Bits.and1], by omega⟩
  obtain ⟨A, hA, hA2⟩ : ∃ A : Int, bits .and .i64 i 255 = A ∧ 0 ≤ A := ⟨i % 256, by rw [Bits.and255], by omega⟩
  obtain ⟨B, hB, hB2⟩ : ∃ B : Int, bits .and .i64 d 255 = B ∧ 0 ≤ B := ⟨d % 256, by rw [Bits.and255], by omega⟩
  obtain ⟨I, hI, hI2⟩ : ∃ I : Nat, A % 7 = (I : Int) ∧ I < 7 := ⟨(A % 7).toNat, by omega, by omega⟩
  obtain ⟨D, hD, hD2⟩ : ∃ D : Nat, B % 7 = (D : Int) ∧ D < 7 := ⟨(B % 7).toNat, by omega, by omega⟩
  rcases hU2 with rfl | rfl
  · by_cases h0 : I + D = 0
    · obtain rfl : I = 0 := by omega
      obtain rfl : D = 0 := by omega
      refine ⟨1, 0, 6, by decide, fun w => ?_⟩
      · have hI' : A % 7 = 0 := hI
        have hD' : B % 7 = 0 := hD
        clear hI hD
        go_enter Tryd.func32, Tryd.ntmps32
        go_wp2
        exact bodyPost_ret (v := fmtVal 1 0 6 t) (by simp [results, Tryd.results32, go_sem]) rfl ⟨rfl, ((Below.refl _ _).alloc (Nat.le_refl _) _).alloc (by simp) _⟩
    · refine ⟨1, I, D, by rw [fmtOk_iff]; omega, fun w => ?_⟩
      · have hz : ((I : Int) + (D : Int) == 0) = false := by simp; omega
        go_enter Tryd.func32, Tryd.ntmps32
        go_wp2
        exact bodyPost_ret (v := fmtVal 1 I D t) (by simp [results, Tryd.results32, go_sem]) rfl ⟨rfl, ((Below.refl _ _).alloc (Nat.le_refl _) _).alloc (by simp) _⟩
  · by_cases h0 : I + D = 0
    · obtain rfl : I = 0 := by omega
      obtain rfl : D = 0 := by omega
      refine ⟨2, 0, 6, by decide, fun w => ?_⟩
      · have hI' : A % 7 = 0 := hI
        have hD' : B % 7 = 0 := hD
        clear hI hD
        go_enter Tryd.func32, Tryd.ntmps32
        go_wp2
        exact bodyPost_ret (v := fmtVal 2 0 6 t) (by simp [results, Tryd.results32, go_sem]) rfl ⟨rfl, ((Below.refl _ _).alloc (Nat.le_refl _) _).alloc (by simp) _⟩
    · refine ⟨2, I, D, by rw [fmtOk_iff]; omega, fun w => ?_⟩
      · have hz : ((I : Int) + (D : Int) == 0) = false := by simp; omega
        go_enter Tryd.func32, Tryd.ntmps32
        go_wp2
        exact bodyPost_ret (v := fmtVal 2 I D t) (by simp [results, Tryd.results32, go_sem]) rfl ⟨rfl, ((Below.refl _ _).alloc (Nat.le_refl _) _).alloc (by simp) _⟩

theorem g_a : Hid ((grainV 1000000 2).getD 0 = 254000000 ∧ (grainV 1000000 2).isSome = true) := by show _ ∧ _; decide
theorem g_b : Hid ((grainV 60000000 1).getD 0 = 0 ∧ (grainV 60000000 1).isSome = false) := by show _ ∧ _; decide
theorem c_a : Hid ((coordV (⟨#[45, 49, 53]⟩ : ByteArray).data.toList 1 2 4 false).getD 0 = -15000 ∧ (coordV (⟨#[45, 49, 53]⟩ : ByteArray).data.toList 1 2 4 false).isSome = true) := by show _ ∧ _; decide +kernel
theorem f_a : Hid (fmtOk 0 0 0 = false) := by show _ = _; decide
theorem d_a : digitsV (-15000) 1 2 4 false = some [45, 49, 53] := by
  unfold digitsV
  rw [if_pos (by refine ⟨by decide, by decide, by decide, by decide, by decide⟩), if_pos (by decide)]
  rw [show ((-15000 : Int) / lastG 1 4).natAbs = 15 by decide]
  unfold numL'
  rw [if_neg (by decide), Lib.decDigits_two (by decide) (by decide)]
  rfl
theorem d_b : Hid ((digitsV (-15000) 1 2 4 false).getD [] = [45, 49, 53] ∧ (digitsV (-15000) 1 2 4 false).isSome = true) := by show _ ∧ _; rw [d_a]; exact ⟨rfl, rfl⟩

set_option maxRecDepth 100000 in
set_option maxHeartbeats 800000 in
theorem uawake_any (w : World) (hT : Tab w) : Calls Tryd.prog 34 #[] w fun e w' => e = .returned (.bool true) ∧ Below w.heap.size w w' := by
  go_enter Tryd.func34, Tryd.ntmps34
  go_wp2_with fail
  with_reducible refine (grain_at _ _ _ _ g_a _).mono ?_
  rintro e w' ⟨rfl, rfl⟩
  go_wp2_with fail
  with_reducible refine (grain_at _ _ _ _ g_b _).mono ?_
  rintro e w' ⟨rfl, rfl⟩
  go_wp2_with fail
  with_reducible refine (coord_at _ _ (Lib.hid rfl) 1 2 4 false _ _ c_a (by decide) _).mono ?_
  rintro e w1 ⟨rfl, hb1⟩
  have hc0 : w1.cell? ⟨w.heap.size, 0, none⟩ = some (.int .i64 1) := by rw [hb1.cell (p := ⟨w.heap.size, 0, none⟩) (by simp)]; simp [go_sem]
  have hc1 : w1.cell? ⟨w.heap.size, 1, none⟩ = some (.int .i64 2) := by rw [hb1.cell (p := ⟨w.heap.size, 1, none⟩) (by simp)]; simp [go_sem]
  have hc2 : w1.cell? ⟨w.heap.size, 2, none⟩ = some (.int .i64 4) := by rw [hb1.cell (p := ⟨w.heap.size, 2, none⟩) (by simp)]; simp [go_sem]
  have hc3 : w1.cell? ⟨w.heap.size, 3, none⟩ = some (.bool false) := by rw [hb1.cell (p := ⟨w.heap.size, 3, none⟩) (by simp)]; simp [go_sem]
  have hbel : Below w.heap.size w w1 := ((Below.refl _ _).alloc (Nat.le_refl _) _).trans (hb1.mono (by simp))
  have hT1 : Tab w1 := hT.below hbel
  go_wp2_with fail
  with_reducible refine (udigits_any _ 1 2 4 false _ _ d_b ⟨#[45, 49, 53]⟩ (Lib.hid rfl) _ hT1).mono ?_
  rintro e w2 ⟨rfl, hb2⟩
  go_wp2_with fail
  with_reducible refine (uok_at 0 0 0 false false f_a _).mono ?_
  rintro e w3 ⟨rfl, rfl⟩
  go_wp2_with fail
  go_ret
  exact ⟨rfl, (hbel.trans (hb2.mono hbel.size)).alloc (Nat.le_trans hbel.size hb2.size) _⟩
end Go.Proofs.YtmclabehdjdpnaaDoor.UnitW
