/-
  The walks of package unit's small functions and of the reference's: grains, tens, Ok, Grain.
-/
import Derived.Test.YtecpmnkgikcpnaaDoorDeciV
import Derived.Test.YtecpmnkgikcpnaaDoorBase
import Derived.Test.YtecpmnkgikcpnaaDoorUp
namespace Go.Proofs.YtecpmnkgikcpnaaDoor.UnitW
open Go.RowKit Go.Proofs.YtecpmnkgikcpnaaDoor.Dp Go.Proofs.YtecpmnkgikcpnaaDoor.Base Go.Proofs.YtecpmnkgikcpnaaDoor.DeciW Go.Proofs.YtecpmnkgikcpnaaDoor.Up

/-- A format as a value. -/
abbrev fmtVal (u i d : Int) (t : Bool) : Value := .agg #[.int .i64 u, .int .i64 i, .int .i64 d, .bool t]
abbrev fmtObj (u i d : Int) (t : Bool) : Obj := .cells #[.int .i64 u, .int .i64 i, .int .i64 d, .bool t] 82

set_option maxHeartbeats 400000 in
theorem grains_any (u : Int) (w : World) : Calls Tryd.prog 100 #[.int .i64 u] w fun e w' => e = .returned (.int .i64 (per u)) ∧ w = w' := by
  go_enter Tryd.func100, Tryd.ntmps100
  by_cases h1 : u = 1
  · subst h1
    go_wp2
    go_ret
    exact ⟨rfl, rfl⟩
  · by_cases h2 : u = 2
    · subst h2
      go_wp2
      go_ret
      exact ⟨rfl, rfl⟩
    · have hp : per u = 0 := by simp [per, h1, h2]
      have HP := Lib.hid hp
      have b1 : (u == 1) = false := by simp [h1]
      have b2 : (u == 2) = false := by simp [h2]
      clear hp
      go_wp2
      go_ret
      rw [HP.out]; exact ⟨rfl, rfl⟩
theorem grains_at (u p : Int) (hp : Hid (per u = p)) (w : World) : Calls Tryd.prog 100 #[.int .i64 u] w fun e w' => e = .returned (.int .i64 p) ∧ w = w' := by
  have := hp.out; subst this; exact grains_any u w

theorem ret_i {k : IntKind} {a b : Int} (h : a = b) : Ending.returned (.int k a) = .returned (.int k b) := by rw [h]
set_option maxHeartbeats 400000 in
theorem tens_any (n : Int) (k : Nat) (hk : k ≤ 18) (hb : n.natAbs * 10 ^ k ≤ 1000000000000000000) (v : Int) (hv : Hid (n * ((10 ^ k : Nat) : Int) = v)) (w : World) :
    Calls Tryd.prog 114 #[.int .i64 n, .int .i64 k] w fun e w' => e = .returned (.int .i64 v) ∧ w = w' := by
  have HB := Lib.hid hb
  clear hb
  go_enter Tryd.func114, Tryd.ntmps114
  go_wp2
  go_loop [0, 6] (fun v i => ∃ (j : Nat) (x : Int), j ≤ k ∧ x = n * ((10 ^ j : Nat) : Int) ∧ i = .int .i64 j ∧ v = .int .i64 x) (fun _ i => k - (intOf i).toNat)
  case atStart => exact ⟨0, n, Nat.zero_le _, by simp, rfl, rfl⟩
  case round =>
    obtain ⟨j, x, hj, hx, rfl, rfl⟩ := hrel
    by_cases hlt : j < k
    · have hb1 : x.natAbs * 10 ≤ 1000000000000000000 := by
        have h1 : x.natAbs = n.natAbs * 10 ^ j := by rw [hx, Int.natAbs_mul, Int.natAbs_natCast]
        rw [h1, Nat.mul_assoc, ← Nat.pow_succ]
        exact Nat.le_trans (Nat.mul_le_mul_left _ (Nat.pow_le_pow_right (by decide) hlt)) HB.out
      have hb2 : -100000000000000000 ≤ x := by omega
      have hb3 : x ≤ 100000000000000000 := by omega
      have HX : Hid (x * 10 = n * ((10 ^ (j + 1) : Nat) : Int)) := by
        show _ = _
        rw [hx, Nat.pow_succ, Int.natCast_mul, Int.mul_assoc]; rfl
      clear hx hb1
      go_wp2
      go_round
      case rel => exact ⟨j + 1, x * 10, by omega, HX.out, by go_num, rfl⟩
      case measure => simp [intOf]; omega
    · obtain rfl : j = k := by omega
      have HX := Lib.hid hx
      clear hx
      go_wp2
      go_ret
      exact ⟨ret_i (HX.out.trans hv.out), rfl⟩
theorem tens_at (n : Int) (i : Int) (k : Nat) (hi : i = k) (hk : k ≤ 18) (hb : n.natAbs * 10 ^ k ≤ 1000000000000000000) (v : Int) (hv : Hid (n * ((10 ^ k : Nat) : Int) = v)) (w : World) :
    Calls Tryd.prog 114 #[.int .i64 n, .int .i64 i] w fun e w' => e = .returned (.int .i64 v) ∧ w = w' := by
  subst hi; exact tens_any n k hk hb v hv w

set_option maxHeartbeats 800000 in
theorem uok_any (u i d : Int) (t : Bool) (w : World) : Calls Tryd.prog 113 #[fmtVal u i d t] w fun e w' => e = .returned (.bool (fmtOk u i d)) ∧ w.alloc (fmtObj u i d t) = w' := by
  cases hf : fmtOk u i d with
  | true =>
    obtain ⟨h1, h2, h3, h4, h5, h6⟩ := (fmtOk_iff u i d).1 hf
    clear hf
    rcases h1 with rfl | rfl
    all_goals
      go_enter Tryd.func113, Tryd.ntmps113
      by_cases h7 : 0 < i
      · go_wp2
        go_ret
        exact ⟨rfl, rfl⟩
      · have h8 : 0 < d := by omega
        go_wp2
        go_ret
        exact ⟨rfl, rfl⟩
  | false =>
    have hn : ¬ ((u = 1 ∨ u = 2) ∧ 0 ≤ i ∧ i ≤ 6 ∧ 0 ≤ d ∧ d ≤ 6 ∧ 0 < i + d) := fun h => by rw [(fmtOk_iff u i d).2 h] at hf; cases hf
    clear hf
    by_cases h1 : u = 1 ∨ u = 2
    · have hn2 : ¬ (0 ≤ i ∧ i ≤ 6 ∧ 0 ≤ d ∧ d ≤ 6 ∧ 0 < i + d) := fun h => hn ⟨h1, h⟩
      clear hn
      rcases h1 with rfl | rfl
      all_goals
        by_cases c1 : 0 ≤ i
        · by_cases c2 : i ≤ 6
          · by_cases c3 : 0 ≤ d
            · by_cases c4 : d ≤ 6
              · have c5 : ¬ 0 < i := by omega
                have c6 : ¬ 0 < d := by omega
                clear hn2
                go_enter Tryd.func113, Tryd.ntmps113
                go_wp2
                go_ret
                exact ⟨rfl, rfl⟩
              · clear hn2
                go_enter Tryd.func113, Tryd.ntmps113
                go_wp2
                go_ret
                exact ⟨rfl, rfl⟩
            · clear hn2
              go_enter Tryd.func113, Tryd.ntmps113
              go_wp2
              go_ret
              exact ⟨rfl, rfl⟩
          · clear hn2
            go_enter Tryd.func113, Tryd.ntmps113
            go_wp2
            go_ret
            exact ⟨rfl, rfl⟩
        · clear hn2
          go_enter Tryd.func113, Tryd.ntmps113
          go_wp2
          go_ret
          exact ⟨rfl, rfl⟩
    · clear hn
      have b1 : (u == 1) = false := by simp; omega
      have b2 : (u == 2) = false := by simp; omega
      have b3 : (u != 1) = true := by simp; omega
      have b4 : (u != 2) = true := by simp; omega
      clear h1
      go_enter Tryd.func113, Tryd.ntmps113
      go_wp2
      go_ret
      exact ⟨rfl, rfl⟩
theorem uok_at (u i d : Int) (t : Bool) (b : Bool) (hb : Hid (fmtOk u i d = b)) (w : World) : Calls Tryd.prog 113 #[fmtVal u i d t] w fun e w' => e = .returned (.bool b) ∧ w.alloc (fmtObj u i d t) = w' := by
  have := hb.out; subst this; exact uok_any u i d t w

theorem grainV_val (n u : Int) : ∃ (v : Int) (b : Bool), (grainV n u).getD 0 = v ∧ (grainV n u).isSome = b := ⟨_, _, rfl, rfl⟩
theorem okN_bound {n : Int} (h : okN n = true) : -1000000000000 < n ∧ n < 1000000000000 := (okN_iff n).1 h

set_option maxHeartbeats 800000 in
theorem grain_any (n u : Int) (w : World) :
    Calls Tryd.prog 82 #[.int .i64 n, .int .i64 u] w fun e w' => e = .returned (.tuple #[.int .i64 ((grainV n u).getD 0), .bool (grainV n u).isSome]) ∧ w = w' := by
  cases hok : okN n with
  | false =>
    have hg : grainV n u = none := by unfold grainV; rw [if_neg]; rintro ⟨h, _⟩; rw [hok] at h; cases h
    have HG := Lib.hid hg
    have HOK := Lib.hid hok
    clear hg hok
    go_enter Tryd.func82, Tryd.ntmps82
    go_wp2_with fail
    refine (grains_any u _).mono ?_
    rintro e w' ⟨rfl, rfl⟩
    generalize per u = p
    go_wp2_with fail
    refine (ok_any n _).mono ?_
    rintro e w' ⟨rfl, rfl⟩
    rw [HOK.out]
    go_wp2_with fail
    go_ret2
    rw [HG.out]; exact ⟨rfl, rfl⟩
  | true =>
    have hb := okN_bound hok
    obtain ⟨hb1, hb2⟩ := hb
    by_cases hu : u = 1 ∨ u = 2
    · have hp := per_cases hu
      obtain ⟨p, hpp⟩ : ∃ p, per u = p := ⟨_, rfl⟩
      rw [hpp] at hp
      have HP := Lib.hid hpp
      have HOK := Lib.hid hok
      by_cases hr : -536870912 ≤ n * p ∧ n * p ≤ 536870912
      · have hg : grainV n u = some (n * p) := by unfold grainV; rw [hpp, if_pos ⟨hok, hu, hr⟩]
        have HG := Lib.hid hg
        obtain ⟨r1, r2⟩ := hr
        clear hg hok hpp hu
        rcases hp with rfl | rfl
        all_goals
          go_enter Tryd.func82, Tryd.ntmps82
          go_wp2_with fail
          refine (grains_at u _ HP _).mono ?_
          rintro e w' ⟨rfl, rfl⟩
          go_wp2_with fail
          refine (ok_any n _).mono ?_
          rintro e w' ⟨rfl, rfl⟩
          rw [HOK.out]
          go_wp2_with fail
          go_ret2
          rw [HG.out]; exact ⟨rfl, rfl⟩
      · have hg : grainV n u = none := by unfold grainV; rw [hpp, if_neg]; rintro ⟨_, _, h⟩; exact hr h
        have HG := Lib.hid hg
        clear hg hok hpp hu
        by_cases r1 : -536870912 ≤ n * p
        · have r2 : ¬ n * p ≤ 536870912 := fun h => hr ⟨r1, h⟩
          clear hr
          rcases hp with rfl | rfl
          all_goals
            go_enter Tryd.func82, Tryd.ntmps82
            go_wp2_with fail
            refine (grains_at u _ HP _).mono ?_
            rintro e w' ⟨rfl, rfl⟩
            go_wp2_with fail
            refine (ok_any n _).mono ?_
            rintro e w' ⟨rfl, rfl⟩
            rw [HOK.out]
            go_wp2_with fail
            go_ret2
            rw [HG.out]; exact ⟨rfl, rfl⟩
        · clear hr
          rcases hp with rfl | rfl
          all_goals
            go_enter Tryd.func82, Tryd.ntmps82
            go_wp2_with fail
            refine (grains_at u _ HP _).mono ?_
            rintro e w' ⟨rfl, rfl⟩
            go_wp2_with fail
            refine (ok_any n _).mono ?_
            rintro e w' ⟨rfl, rfl⟩
            rw [HOK.out]
            go_wp2_with fail
            go_ret2
            rw [HG.out]; exact ⟨rfl, rfl⟩
    · have hg : grainV n u = none := by unfold grainV; rw [if_neg]; rintro ⟨_, h, _⟩; exact hu h
      have hp : per u = 0 := by unfold per; rw [if_neg (fun h => hu (.inl h)), if_neg (fun h => hu (.inr h))]
      have HG := Lib.hid hg
      have HP := Lib.hid hp
      have HOK := Lib.hid hok
      clear hg hok hp hu
      go_enter Tryd.func82, Tryd.ntmps82
      go_wp2_with fail
      refine (grains_at u _ HP _).mono ?_
      rintro e w' ⟨rfl, rfl⟩
      go_wp2_with fail
      refine (ok_any n _).mono ?_
      rintro e w' ⟨rfl, rfl⟩
      rw [HOK.out]
      go_wp2_with fail
      go_ret2
      rw [HG.out]; exact ⟨rfl, rfl⟩
theorem grain_at (n u v : Int) (b : Bool) (hv : Hid ((grainV n u).getD 0 = v ∧ (grainV n u).isSome = b)) (w : World) :
    Calls Tryd.prog 82 #[.int .i64 n, .int .i64 u] w fun e w' => e = .returned (.tuple #[.int .i64 v, .bool b]) ∧ w = w' := by
  obtain ⟨h1, h2⟩ := hv.out
  subst h1; subst h2; exact grain_any n u w

end Go.Proofs.YtecpmnkgikcpnaaDoor.UnitW
