/-
  Proved: 5 inches are 127 millimetres, and so is every part of them that counts in this statement's range; what is too far is refused alike (heliographlaw3.UnitMeets returns true). Conditions: the row's own (the package-level tables read as the program's text lays them, tied by the card).
-/
import Derived.Test.YtmclabehdjdpnaaDoorUnitA
import Derived.ProofKit
namespace Go.Proofs.YtmclabehdjdpnaaDoor.UnitMeets
open Go.ChangeShapes Go.WideShapes Go.ChangeAt Go.WideMaps Go.WideElems Go.RowKit
open Go.ChangeMaps (open_string)
open Go.Proofs.YtmclabehdjdpnaaDoor.Dp Go.Proofs.YtmclabehdjdpnaaDoor.Base Go.Proofs.YtmclabehdjdpnaaDoor.DeciW Go.Proofs.YtmclabehdjdpnaaDoor.Up Go.Proofs.YtmclabehdjdpnaaDoor.UnitW

theorem rem_range (n : Int) : -400000 < n.tmod 400000 ∧ n.tmod 400000 < 400000 := by
  have h1 := Int.tmod_lt_of_pos n (show (0 : Int) < 400000 by decide)
  have h2 : -400000 < n.tmod 400000 := by
    have := Int.lt_tmod_of_pos n (show (0 : Int) < 400000 by decide)
    simpa using this
  exact ⟨h2, h1⟩
theorem grain_in {m u : Int} (hu : u = 1 ∨ u = 2) (hok : okN m = true) : grainV m u = if -536870912 ≤ m * per u ∧ m * per u ≤ 536870912 then some (m * per u) else none := by
  unfold grainV
  by_cases h : -536870912 ≤ m * per u ∧ m * per u ≤ 536870912
  · rw [if_pos ⟨hok, hu, h⟩, if_pos h]
  · rw [if_neg (fun hh => h hh.2.2), if_neg h]

set_option maxRecDepth 100000 in
set_option maxHeartbeats 800000 in
theorem walk (n : Int) (_hn0 : -9223372036854775808 ≤ n) (_hn1 : n ≤ 9223372036854775807) (w : World) (hT : Tab w) :
    Calls Tryd.prog 14 #[.int .i64 n] w fun e w' => e = .returned (.bool true) ∧ Below w.heap.size w w' := by
  clear _hn0 _hn1
  obtain ⟨a, ha⟩ : ∃ a, n.tmod 400000 = a := ⟨_, rfl⟩
  have ra := rem_range n
  rw [ha] at ra
  obtain ⟨ra0, ra1⟩ := ra
  have g1 := grain_in (m := 5 * a) (.inr rfl) ((okN_iff _).2 ⟨by omega, by omega⟩)
  have g2 := grain_in (m := 127 * a) (.inl rfl) ((okN_iff _).2 ⟨by omega, by omega⟩)
  have g3 := grain_in (m := a + 53687091) (.inl rfl) ((okN_iff _).2 ⟨by omega, by omega⟩)
  rw [show per 2 = 254 from rfl] at g1
  rw [show per 1 = 10 from rfl] at g2 g3
  by_cases c1 : 127 * a ≤ 53687091
  · by_cases c2 : -53687091 ≤ 127 * a
    · by_cases c3 : a ≤ 0
      · have k1 : Hid ((grainV (5 * a) 2).getD 0 = (1270 * a) ∧ (grainV (5 * a) 2).isSome = true) := by
          show _ ∧ _
          rw [g1, if_pos ⟨by omega, by omega⟩]; exact ⟨by show (5 * a) * 254 = _; omega, rfl⟩
        have k2 : Hid ((grainV (127 * a) 1).getD 0 = (1270 * a) ∧ (grainV (127 * a) 1).isSome = true) := by
          show _ ∧ _
          rw [g2, if_pos ⟨by omega, by omega⟩]; exact ⟨by show (127 * a) * 10 = _; omega, rfl⟩
        have k3 : Hid ((grainV (a + 53687091) 1).getD 0 = (10 * (a + 53687091)) ∧ (grainV (a + 53687091) 1).isSome = true) := by
          show _ ∧ _
          rw [g3, if_pos ⟨by omega, by omega⟩]; exact ⟨by show (a + 53687091) * 10 = _; omega, rfl⟩
        clear g1 g2 g3
        go_enter Tryd.func14, Tryd.ntmps14
        go_wp2_with fail
        with_reducible refine (grain_at _ _ _ _ k1 _).mono ?_
        rintro e w' ⟨rfl, rfl⟩
        go_wp2_with fail
        with_reducible refine (grain_at _ _ _ _ k2 _).mono ?_
        rintro e w' ⟨rfl, rfl⟩
        go_wp2_with fail
        with_reducible refine (grain_at _ _ _ _ k3 _).mono ?_
        rintro e w' ⟨rfl, rfl⟩
        go_wp2_with fail
        with_reducible refine (uawake_any _ hT).mono ?_
        rintro e w3 ⟨rfl, hb3⟩
        go_wp2_with fail
        go_ret
        exact ⟨rfl, hb3⟩
      · have k1 : Hid ((grainV (5 * a) 2).getD 0 = (1270 * a) ∧ (grainV (5 * a) 2).isSome = true) := by
          show _ ∧ _
          rw [g1, if_pos ⟨by omega, by omega⟩]; exact ⟨by show (5 * a) * 254 = _; omega, rfl⟩
        have k2 : Hid ((grainV (127 * a) 1).getD 0 = (1270 * a) ∧ (grainV (127 * a) 1).isSome = true) := by
          show _ ∧ _
          rw [g2, if_pos ⟨by omega, by omega⟩]; exact ⟨by show (127 * a) * 10 = _; omega, rfl⟩
        have k3 : Hid ((grainV (a + 53687091) 1).getD 0 = 0 ∧ (grainV (a + 53687091) 1).isSome = false) := by
          show _ ∧ _
          rw [g3, if_neg (by omega)]; exact ⟨by rfl, rfl⟩
        clear g1 g2 g3
        have d3 : decide (a ≤ 0) = false := by simp; omega
        go_enter Tryd.func14, Tryd.ntmps14
        go_wp2_with fail
        with_reducible refine (grain_at _ _ _ _ k1 _).mono ?_
        rintro e w' ⟨rfl, rfl⟩
        go_wp2_with fail
        with_reducible refine (grain_at _ _ _ _ k2 _).mono ?_
        rintro e w' ⟨rfl, rfl⟩
        go_wp2_with fail
        with_reducible refine (grain_at _ _ _ _ k3 _).mono ?_
        rintro e w' ⟨rfl, rfl⟩
        go_wp2_with fail
        with_reducible refine (uawake_any _ hT).mono ?_
        rintro e w3 ⟨rfl, hb3⟩
        go_wp2_with fail
        go_ret
        exact ⟨rfl, hb3⟩
    · have c3 : a ≤ 0 := by omega
      have k1 : Hid ((grainV (5 * a) 2).getD 0 = 0 ∧ (grainV (5 * a) 2).isSome = false) := by
        show _ ∧ _
        rw [g1, if_neg (by omega)]; exact ⟨by rfl, rfl⟩
      have k2 : Hid ((grainV (127 * a) 1).getD 0 = 0 ∧ (grainV (127 * a) 1).isSome = false) := by
        show _ ∧ _
        rw [g2, if_neg (by omega)]; exact ⟨by rfl, rfl⟩
      have k3 : Hid ((grainV (a + 53687091) 1).getD 0 = (10 * (a + 53687091)) ∧ (grainV (a + 53687091) 1).isSome = true) := by
        show _ ∧ _
        rw [g3, if_pos ⟨by omega, by omega⟩]; exact ⟨by show (a + 53687091) * 10 = _; omega, rfl⟩
      clear g1 g2 g3
      have d2 : decide (-53687091 ≤ 127 * a) = false := by simp; omega
      go_enter Tryd.func14, Tryd.ntmps14
      go_wp2_with fail
      with_reducible refine (grain_at _ _ _ _ k1 _).mono ?_
      rintro e w' ⟨rfl, rfl⟩
      go_wp2_with fail
      with_reducible refine (grain_at _ _ _ _ k2 _).mono ?_
      rintro e w' ⟨rfl, rfl⟩
      go_wp2_with fail
      with_reducible refine (grain_at _ _ _ _ k3 _).mono ?_
      rintro e w' ⟨rfl, rfl⟩
      go_wp2_with fail
      with_reducible refine (uawake_any _ hT).mono ?_
      rintro e w3 ⟨rfl, hb3⟩
      go_wp2_with fail
      go_ret
      exact ⟨rfl, hb3⟩
  · have c3 : ¬ a ≤ 0 := by omega
    have k1 : Hid ((grainV (5 * a) 2).getD 0 = 0 ∧ (grainV (5 * a) 2).isSome = false) := by
      show _ ∧ _
      rw [g1, if_neg (by omega)]; exact ⟨by rfl, rfl⟩
    have k2 : Hid ((grainV (127 * a) 1).getD 0 = 0 ∧ (grainV (127 * a) 1).isSome = false) := by
      show _ ∧ _
      rw [g2, if_neg (by omega)]; exact ⟨by rfl, rfl⟩
    have k3 : Hid ((grainV (a + 53687091) 1).getD 0 = 0 ∧ (grainV (a + 53687091) 1).isSome = false) := by
      show _ ∧ _
      rw [g3, if_neg (by omega)]; exact ⟨by rfl, rfl⟩
    clear g1 g2 g3
    have d1 : decide (127 * a ≤ 53687091) = false := by simp; omega
    have d3 : decide (a ≤ 0) = false := by simp; omega
    go_enter Tryd.func14, Tryd.ntmps14
    go_wp2_with fail
    with_reducible refine (grain_at _ _ _ _ k1 _).mono ?_
    rintro e w' ⟨rfl, rfl⟩
    go_wp2_with fail
    with_reducible refine (grain_at _ _ _ _ k2 _).mono ?_
    rintro e w' ⟨rfl, rfl⟩
    go_wp2_with fail
    with_reducible refine (grain_at _ _ _ _ k3 _).mono ?_
    rintro e w' ⟨rfl, rfl⟩
    go_wp2_with fail
    with_reducible refine (uawake_any _ hT).mono ?_
    rintro e w3 ⟨rfl, hb3⟩
    go_wp2_with fail
    go_ret
    exact ⟨rfl, hb3⟩
end Go.Proofs.YtmclabehdjdpnaaDoor.UnitMeets
