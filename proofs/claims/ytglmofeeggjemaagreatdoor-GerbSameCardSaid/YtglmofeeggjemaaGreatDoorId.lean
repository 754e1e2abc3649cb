/-
  The walks of slices.Equal and of the document's SameNums, SameOps.
-/
import Derived.Test.YtglmofeeggjemaaGreatDoorIb
import Derived.BigQuiet
set_option linter.unusedVariables false
namespace Go.Proofs.YtglmofeeggjemaaGreatDoor.GW
open Go.RowKit Go.Proofs.YtglmofeeggjemaaGreatDoor.Base Go.Proofs.YtglmofeeggjemaaGreatDoor.Dp Go.Proofs.YtglmofeeggjemaaGreatDoor.DeciW Go.Proofs.YtglmofeeggjemaaGreatDoor.Mem Go.Proofs.YtglmofeeggjemaaGreatDoor.RdW Go.Proofs.YtglmofeeggjemaaGreatDoor.Gp

theorem Drew.trans {a b c : World} (h : Drew a b) (h2 : Drew b c) : Drew a c := by
  obtain ⟨n, rfl⟩ := h
  obtain ⟨m, rfl⟩ := h2
  exact ⟨n + m, by simp [World.drewN, Nat.add_assoc]⟩

set_option maxRecDepth 100000 in
set_option maxHeartbeats 1600000 in
theorem eqn_c (B B' : Nat) (p q : Option Addr) (l m : List Int) (c d : Nat) (hl : l.length ≤ 1000000000) (w : World) (H1 : Hid (NumsIn B w p l)) (H2 : Hid (NumsIn B' w q m)) (b : Bool) (hb : Hid (decide (l = m) = b)) :
    Calls Tryz.prog 32 #[.slice p l.length c, .slice q m.length d] w fun e w' => e = .returned (.bool b) ∧ Drew w w' := by
  by_cases hlm : l.length = m.length
  · have hlmi : ((l.length : Int) == (m.length : Int)) = true := by rw [hlm]; exact beq_self_eq_true _
    have HLM := Lib.hid hlm
    rw [← hlm]
    clear hlm hlmi
    go_enter Tryz.func32, Tryz.ntmps32
    go_wp2_with fail
    go_loopw [13] (fun i wr => ∃ (j n : Nat), j ≤ l.length ∧ Hid (∀ k (h : k < l.length) (h2 : k < m.length), k < j → l[k] = m[k]) ∧ i = .int .i64 j ∧ wr = w.drewN n) (fun i _ => l.length - (intOf i).toNat)
    case atStart => exact ⟨0, 0, Nat.zero_le _, fun k _ _ h => absurd h (Nat.not_lt_zero _), rfl, rfl⟩
    case round =>
    obtain ⟨j, n, hj, HJ, rfl, rfl⟩ := hrel
    by_cases hlt : j < l.length
    · obtain ⟨b1, o1, c1, rfl, _, hh1, hc1⟩ := H1.out (by omega)
      obtain ⟨b2, o2, c2, rfl, _, hh2, hc2⟩ := H2.out (by have := HLM.out; omega)
      have hlt2 : j < m.length := by have := HLM.out; omega
      obtain ⟨x, hx⟩ : ∃ x, l[j] = x := ⟨_, rfl⟩
      obtain ⟨y, hy⟩ : ∃ y, m[j] = y := ⟨_, rfl⟩
      have x1 : w.cell? ⟨b1, o1 + j, none⟩ = some (.int .i64 x) := by
        have := hc1 j hlt
        rw [hx] at this
        simp [World.cell?, hh1, this]
      have y1 : w.cell? ⟨b2, o2 + j, none⟩ = some (.int .i64 y) := by
        have := hc2 j hlt2
        rw [hy] at this
        simp [World.cell?, hh2, this]
      clear hh1 hh2 hc1 hc2
      have hlti : (j : Int) < (l.length : Int) := by omega
      by_cases hxy : x = y
      · subst hxy
        have HJ2 : Hid (∀ k (h : k < l.length) (h2 : k < m.length), k < j + 1 → l[k] = m[k]) := by
          intro k h h2 hk
          by_cases hkj : k = j
          · subst hkj; rw [hx, hy]
          · exact HJ.out k h h2 (by omega)
        clear hx hy
        go_wp2_with fail
        go_quiet (fail)
        go_wp2_with fail
        go_round <;> first | exact ⟨j + 1, _, by omega, HJ2.out, by go_num, rfl⟩ | (simp [intOf] <;> omega)
      · have hne : (x == y) = false := beq_eq_false_iff_ne.2 hxy
        have HB : Hid (false = b) := by
          show _ = _
          rw [← hb.out]
          refine (decide_eq_false ?_).symm
          intro e
          subst e
          exact hxy (hx.symm.trans hy)
        clear hx hy hxy
        go_wp2_with fail
        go_quiet (fail)
        go_wp2_with fail
        go_ret
        exact ⟨ret_b HB.out, Drew.trans ⟨n, rfl⟩ ⟨_, rfl⟩⟩
    · have HB : Hid (true = b) := by
        show _ = _
        rw [← hb.out]
        refine (decide_eq_true ?_).symm
        exact List.ext_getElem HLM.out (fun k h h2 => HJ.out k h h2 (by omega))
      have hlti : ¬ ((j : Int) < (l.length : Int)) := by omega
      go_wp2_with fail
      go_ret
      exact ⟨ret_b HB.out, ⟨_, rfl⟩⟩
  · have hlmi : ((l.length : Int) == (m.length : Int)) = false := by rw [beq_eq_false_iff_ne]; omega
    have HB : Hid (false = b) := by
      show _ = _
      rw [← hb.out]
      refine (decide_eq_false ?_).symm
      intro e
      exact hlm (by rw [e])
    go_enter Tryz.func32, Tryz.ntmps32
    go_wp2_with fail
    go_ret
    exact ⟨ret_b HB.out, ⟨0, rfl⟩⟩

set_option maxRecDepth 100000 in
set_option maxHeartbeats 1600000 in
theorem eqo_c (B B' : Nat) (p q : Option Addr) (l m : List (Int × Int)) (c d : Nat) (hl : l.length ≤ 1000000000) (w : World) (H1 : Hid (OpsIn B w p l)) (H2 : Hid (OpsIn B' w q m)) (b : Bool) (hb : Hid (decide (l = m) = b)) :
    Calls Tryz.prog 53 #[.slice p l.length c, .slice q m.length d] w fun e w' => e = .returned (.bool b) ∧ Drew w w' := by
  by_cases hlm : l.length = m.length
  · have hlmi : ((l.length : Int) == (m.length : Int)) = true := by rw [hlm]; exact beq_self_eq_true _
    have HLM := Lib.hid hlm
    rw [← hlm]
    clear hlm hlmi
    go_enter Tryz.func53, Tryz.ntmps53
    go_wp2_with fail
    go_loopw [13] (fun i wr => ∃ (j n : Nat), j ≤ l.length ∧ Hid (∀ k (h : k < l.length) (h2 : k < m.length), k < j → l[k] = m[k]) ∧ i = .int .i64 j ∧ wr = w.drewN n) (fun i _ => l.length - (intOf i).toNat)
    case atStart => exact ⟨0, 0, Nat.zero_le _, fun k _ _ h => absurd h (Nat.not_lt_zero _), rfl, rfl⟩
    case round =>
    obtain ⟨j, n, hj, HJ, rfl, rfl⟩ := hrel
    by_cases hlt : j < l.length
    · obtain ⟨b1, o1, c1, rfl, _, hh1, hc1⟩ := H1.out (by omega)
      obtain ⟨b2, o2, c2, rfl, _, hh2, hc2⟩ := H2.out (by have := HLM.out; omega)
      have hlt2 : j < m.length := by have := HLM.out; omega
      obtain ⟨x, hx⟩ : ∃ x, l[j] = x := ⟨_, rfl⟩
      obtain ⟨y, hy⟩ : ∃ y, m[j] = y := ⟨_, rfl⟩
      obtain ⟨xk, xn⟩ := x
      obtain ⟨yk, yn⟩ := y
      have x1 : w.cell? ⟨b1, o1 + j * 2, none⟩ = some (.int .i64 xk) := by
        have := (hc1 j hlt).1
        rw [hx] at this
        simp [World.cell?, hh1, this]
      have x2 : w.cell? ⟨b1, o1 + j * 2 + 1, none⟩ = some (.int .i64 xn) := by
        have := (hc1 j hlt).2
        rw [hx] at this
        simp [World.cell?, hh1, this]
      have y1 : w.cell? ⟨b2, o2 + j * 2, none⟩ = some (.int .i64 yk) := by
        have := (hc2 j hlt2).1
        rw [hy] at this
        simp [World.cell?, hh2, this]
      have y2 : w.cell? ⟨b2, o2 + j * 2 + 1, none⟩ = some (.int .i64 yn) := by
        have := (hc2 j hlt2).2
        rw [hy] at this
        simp [World.cell?, hh2, this]
      clear hh1 hh2 hc1 hc2
      have hlti : (j : Int) < (l.length : Int) := by omega
      by_cases hxy : ((xk, xn) : Int × Int) = (yk, yn)
      · have hxy2 := hxy
        simp only [Prod.mk.injEq] at hxy2
        obtain ⟨rfl, rfl⟩ := hxy2
        have HJ2 : Hid (∀ k (h : k < l.length) (h2 : k < m.length), k < j + 1 → l[k] = m[k]) := by
          intro k h h2 hk
          by_cases hkj : k = j
          · subst hkj; rw [hx, hy]
          · exact HJ.out k h h2 (by omega)
        clear hx hy
        go_wp2_with fail
        go_quiet (fail)
        go_wp2_with fail
        go_round <;> first | exact ⟨j + 1, _, by omega, HJ2.out, by go_num, rfl⟩ | (simp [intOf] <;> omega)
      · skip
        have HB : Hid (false = b) := by
          show _ = _
          rw [← hb.out]
          refine (decide_eq_false ?_).symm
          intro e
          subst e
          exact hxy (hx.symm.trans hy)
        clear hx hy
        by_cases hk : xk = yk
        · have hn : xn ≠ yn := fun h => hxy (by rw [hk, h])
          have hnb : (xn == yn) = false := beq_eq_false_iff_ne.2 hn
          have hkb : (xk == yk) = true := beq_iff_eq.2 hk
          subst hk
          clear hxy
          go_wp2_with fail
          go_quiet (fail)
          go_wp2_with fail
          go_ret
          exact ⟨ret_b HB.out, Drew.trans ⟨n, rfl⟩ ⟨_, rfl⟩⟩
        · have hkb : (xk == yk) = false := beq_eq_false_iff_ne.2 hk
          clear hxy
          go_wp2_with fail
          go_quiet (fail)
          go_wp2_with fail
          go_ret
          exact ⟨ret_b HB.out, Drew.trans ⟨n, rfl⟩ ⟨_, rfl⟩⟩
    · have HB : Hid (true = b) := by
        show _ = _
        rw [← hb.out]
        refine (decide_eq_true ?_).symm
        exact List.ext_getElem HLM.out (fun k h h2 => HJ.out k h h2 (by omega))
      have hlti : ¬ ((j : Int) < (l.length : Int)) := by omega
      go_wp2_with fail
      go_ret
      exact ⟨ret_b HB.out, ⟨_, rfl⟩⟩
  · have hlmi : ((l.length : Int) == (m.length : Int)) = false := by rw [beq_eq_false_iff_ne]; omega
    have HB : Hid (false = b) := by
      show _ = _
      rw [← hb.out]
      refine (decide_eq_false ?_).symm
      intro e
      exact hlm (by rw [e])
    go_enter Tryz.func53, Tryz.ntmps53
    go_wp2_with fail
    go_ret
    exact ⟨ret_b HB.out, ⟨0, rfl⟩⟩

set_option maxRecDepth 100000 in
set_option maxHeartbeats 1600000 in
theorem rnums_c (B B' : Nat) (p q : Option Addr) (l m : List Int) (c d : Nat) (hl : l.length ≤ 1000000000) (w : World) (H1 : Hid (NumsIn B w p l)) (H2 : Hid (NumsIn B' w q m)) (b : Bool) (hb : Hid (decide (l = m) = b)) :
    Calls Tryz.prog 16 #[.slice p l.length c, .slice q m.length d] w fun e w' => e = .returned (.bool b) ∧ Drew w w' := by
  by_cases hlm : l.length = m.length
  · have hlmi : ((l.length : Int) == (m.length : Int)) = true := by rw [hlm]; exact beq_self_eq_true _
    have HLM := Lib.hid hlm
    rw [← hlm]
    clear hlm hlmi
    go_enter Tryz.func16, Tryz.ntmps16
    go_wp2_with fail
    go_loopw [5] (fun i wr => ∃ (j n : Nat), j ≤ l.length ∧ Hid (∀ k (h : k < l.length) (h2 : k < m.length), k < j → l[k] = m[k]) ∧ i = .int .i64 j ∧ wr = w.drewN n) (fun i _ => l.length - (intOf i).toNat)
    case atStart => exact ⟨0, 0, Nat.zero_le _, fun k _ _ h => absurd h (Nat.not_lt_zero _), rfl, rfl⟩
    case round =>
    obtain ⟨j, n, hj, HJ, rfl, rfl⟩ := hrel
    by_cases hlt : j < l.length
    · obtain ⟨b1, o1, c1, rfl, _, hh1, hc1⟩ := H1.out (by omega)
      obtain ⟨b2, o2, c2, rfl, _, hh2, hc2⟩ := H2.out (by have := HLM.out; omega)
      have hlt2 : j < m.length := by have := HLM.out; omega
      obtain ⟨x, hx⟩ : ∃ x, l[j] = x := ⟨_, rfl⟩
      obtain ⟨y, hy⟩ : ∃ y, m[j] = y := ⟨_, rfl⟩
      have x1 : w.cell? ⟨b1, o1 + j, none⟩ = some (.int .i64 x) := by
        have := hc1 j hlt
        rw [hx] at this
        simp [World.cell?, hh1, this]
      have y1 : w.cell? ⟨b2, o2 + j, none⟩ = some (.int .i64 y) := by
        have := hc2 j hlt2
        rw [hy] at this
        simp [World.cell?, hh2, this]
      clear hh1 hh2 hc1 hc2
      have hlti : (j : Int) < (l.length : Int) := by omega
      by_cases hxy : x = y
      · subst hxy
        have HJ2 : Hid (∀ k (h : k < l.length) (h2 : k < m.length), k < j + 1 → l[k] = m[k]) := by
          intro k h h2 hk
          by_cases hkj : k = j
          · subst hkj; rw [hx, hy]
          · exact HJ.out k h h2 (by omega)
        clear hx hy
        go_wp2_with fail
        go_quiet (fail)
        go_wp2_with fail
        go_round <;> first | exact ⟨j + 1, _, by omega, HJ2.out, by go_num, rfl⟩ | (simp [intOf] <;> omega)
      · have hne : (x == y) = false := beq_eq_false_iff_ne.2 hxy
        have HB : Hid (false = b) := by
          show _ = _
          rw [← hb.out]
          refine (decide_eq_false ?_).symm
          intro e
          subst e
          exact hxy (hx.symm.trans hy)
        clear hx hy hxy
        go_wp2_with fail
        go_quiet (fail)
        go_wp2_with fail
        go_ret
        exact ⟨ret_b HB.out, Drew.trans ⟨n, rfl⟩ ⟨_, rfl⟩⟩
    · have HB : Hid (true = b) := by
        show _ = _
        rw [← hb.out]
        refine (decide_eq_true ?_).symm
        exact List.ext_getElem HLM.out (fun k h h2 => HJ.out k h h2 (by omega))
      have hlti : ¬ ((j : Int) < (l.length : Int)) := by omega
      go_wp2_with fail
      go_ret
      exact ⟨ret_b HB.out, ⟨_, rfl⟩⟩
  · have hlmi : ((l.length : Int) == (m.length : Int)) = false := by rw [beq_eq_false_iff_ne]; omega
    have HB : Hid (false = b) := by
      show _ = _
      rw [← hb.out]
      refine (decide_eq_false ?_).symm
      intro e
      exact hlm (by rw [e])
    go_enter Tryz.func16, Tryz.ntmps16
    go_wp2_with fail
    go_ret
    exact ⟨ret_b HB.out, ⟨0, rfl⟩⟩

set_option maxRecDepth 100000 in
set_option maxHeartbeats 1600000 in
theorem rops_c (B B' : Nat) (p q : Option Addr) (l m : List (Int × Int)) (c d : Nat) (hl : l.length ≤ 1000000000) (w : World) (H1 : Hid (OpsIn B w p l)) (H2 : Hid (OpsIn B' w q m)) (b : Bool) (hb : Hid (decide (l = m) = b)) :
    Calls Tryz.prog 35 #[.slice p l.length c, .slice q m.length d] w fun e w' => e = .returned (.bool b) ∧ Drew w w' := by
  by_cases hlm : l.length = m.length
  · have hlmi : ((l.length : Int) == (m.length : Int)) = true := by rw [hlm]; exact beq_self_eq_true _
    have HLM := Lib.hid hlm
    rw [← hlm]
    clear hlm hlmi
    go_enter Tryz.func35, Tryz.ntmps35
    go_wp2_with fail
    go_loopw [5] (fun i wr => ∃ (j n : Nat), j ≤ l.length ∧ Hid (∀ k (h : k < l.length) (h2 : k < m.length), k < j → l[k] = m[k]) ∧ i = .int .i64 j ∧ wr = w.drewN n) (fun i _ => l.length - (intOf i).toNat)
    case atStart => exact ⟨0, 0, Nat.zero_le _, fun k _ _ h => absurd h (Nat.not_lt_zero _), rfl, rfl⟩
    case round =>
    obtain ⟨j, n, hj, HJ, rfl, rfl⟩ := hrel
    by_cases hlt : j < l.length
    · obtain ⟨b1, o1, c1, rfl, _, hh1, hc1⟩ := H1.out (by omega)
      obtain ⟨b2, o2, c2, rfl, _, hh2, hc2⟩ := H2.out (by have := HLM.out; omega)
      have hlt2 : j < m.length := by have := HLM.out; omega
      obtain ⟨x, hx⟩ : ∃ x, l[j] = x := ⟨_, rfl⟩
      obtain ⟨y, hy⟩ : ∃ y, m[j] = y := ⟨_, rfl⟩
      obtain ⟨xk, xn⟩ := x
      obtain ⟨yk, yn⟩ := y
      have x1 : w.cell? ⟨b1, o1 + j * 2, none⟩ = some (.int .i64 xk) := by
        have := (hc1 j hlt).1
        rw [hx] at this
        simp [World.cell?, hh1, this]
      have x2 : w.cell? ⟨b1, o1 + j * 2 + 1, none⟩ = some (.int .i64 xn) := by
        have := (hc1 j hlt).2
        rw [hx] at this
        simp [World.cell?, hh1, this]
      have y1 : w.cell? ⟨b2, o2 + j * 2, none⟩ = some (.int .i64 yk) := by
        have := (hc2 j hlt2).1
        rw [hy] at this
        simp [World.cell?, hh2, this]
      have y2 : w.cell? ⟨b2, o2 + j * 2 + 1, none⟩ = some (.int .i64 yn) := by
        have := (hc2 j hlt2).2
        rw [hy] at this
        simp [World.cell?, hh2, this]
      clear hh1 hh2 hc1 hc2
      have hlti : (j : Int) < (l.length : Int) := by omega
      by_cases hxy : ((xk, xn) : Int × Int) = (yk, yn)
      · have hxy2 := hxy
        simp only [Prod.mk.injEq] at hxy2
        obtain ⟨rfl, rfl⟩ := hxy2
        have HJ2 : Hid (∀ k (h : k < l.length) (h2 : k < m.length), k < j + 1 → l[k] = m[k]) := by
          intro k h h2 hk
          by_cases hkj : k = j
          · subst hkj; rw [hx, hy]
          · exact HJ.out k h h2 (by omega)
        clear hx hy
        go_wp2_with fail
        go_quiet (fail)
        go_wp2_with fail
        go_round <;> first | exact ⟨j + 1, _, by omega, HJ2.out, by go_num, rfl⟩ | (simp [intOf] <;> omega)
      · skip
        have HB : Hid (false = b) := by
          show _ = _
          rw [← hb.out]
          refine (decide_eq_false ?_).symm
          intro e
          subst e
          exact hxy (hx.symm.trans hy)
        clear hx hy
        by_cases hk : xk = yk
        · have hn : xn ≠ yn := fun h => hxy (by rw [hk, h])
          have hnb : (xn == yn) = false := beq_eq_false_iff_ne.2 hn
          have hkb : (xk == yk) = true := beq_iff_eq.2 hk
          subst hk
          clear hxy
          go_wp2_with fail
          go_quiet (fail)
          go_wp2_with fail
          go_ret
          exact ⟨ret_b HB.out, Drew.trans ⟨n, rfl⟩ ⟨_, rfl⟩⟩
        · have hkb : (xk == yk) = false := beq_eq_false_iff_ne.2 hk
          clear hxy
          go_wp2_with fail
          go_quiet (fail)
          go_wp2_with fail
          go_ret
          exact ⟨ret_b HB.out, Drew.trans ⟨n, rfl⟩ ⟨_, rfl⟩⟩
    · have HB : Hid (true = b) := by
        show _ = _
        rw [← hb.out]
        refine (decide_eq_true ?_).symm
        exact List.ext_getElem HLM.out (fun k h h2 => HJ.out k h h2 (by omega))
      have hlti : ¬ ((j : Int) < (l.length : Int)) := by omega
      go_wp2_with fail
      go_ret
      exact ⟨ret_b HB.out, ⟨_, rfl⟩⟩
  · have hlmi : ((l.length : Int) == (m.length : Int)) = false := by rw [beq_eq_false_iff_ne]; omega
    have HB : Hid (false = b) := by
      show _ = _
      rw [← hb.out]
      refine (decide_eq_false ?_).symm
      intro e
      exact hlm (by rw [e])
    go_enter Tryz.func35, Tryz.ntmps35
    go_wp2_with fail
    go_ret
    exact ⟨ret_b HB.out, ⟨0, rfl⟩⟩
end Go.Proofs.YtglmofeeggjemaaGreatDoor.GW
