/-
  Several texts in one: HwA, HwB, HwC, HwD, HwE, HwF.
-/
import Derived.Test.YtecpmnkgikcpnaaDoorXwR
import Derived.Test.YtecpmnkgikcpnaaDoorHp
import Derived.Test.YtecpmnkgikcpnaaDoorHoW
import Derived.Test.YtecpmnkgikcpnaaDoorXwP
import Derived.Maps.OwnSet
import Derived.Maps.OwnOps
import Derived.Deep.AppendLies
import Derived.Deep.RegionLaw
import Derived.Deep.RegionHeld3
import Derived.StillTailTactics
import Derived.RegionTactic
import Derived.BigRegion
set_option linter.unusedVariables false
namespace Go.Proofs.YtecpmnkgikcpnaaDoor.HW
open Go.RowKit Go.Proofs.YtecpmnkgikcpnaaDoor.Base Go.Proofs.YtecpmnkgikcpnaaDoor.Dp Go.Proofs.YtecpmnkgikcpnaaDoor.DeciW Go.Proofs.YtecpmnkgikcpnaaDoor.Xp Go.Proofs.YtecpmnkgikcpnaaDoor.Hp Go.Proofs.YtecpmnkgikcpnaaDoor.XW

abbrev ptVal (x y : Int) : Value := .agg #[.int .i64 x, .int .i64 y]
abbrev ptObj (x y : Int) : Obj := .cells #[.int .i64 x, .int .i64 y] 29
abbrev shCells (s : Sh) : Array Value := #[.int .i64 s.k, .int .i64 s.ax, .int .i64 s.ay, .int .i64 s.bx, .int .i64 s.bz, .int .i64 s.cx, .int .i64 s.cy, .int .i64 s.r, nils, nils]
abbrev shVal (s : Sh) : Value := .agg (shCells s)
abbrev shObj (s : Sh) : Obj := .cells (shCells s) 33
theorem ret_b {a b : Bool} (h : a = b) : Ending.returned (.bool a) = .returned (.bool b) := by rw [h]

set_option maxHeartbeats 800000 in
theorem near_c (x y : Int) (b : Bool) (hb : Hid (near x y = b)) (w : World) :
    Calls Tryd.prog 121 #[.agg #[.int .i64 x, .int .i64 y]] w fun e w' => e = .returned (.bool b) ∧ w.alloc (ptObj x y) = w' := by
  by_cases h1 : -536870912 ≤ x
  · by_cases h2 : x ≤ 536870912
    · by_cases h3 : -536870912 ≤ y
      · by_cases h4 : y ≤ 536870912
        · have HB : Hid (true = b) := by show _ = _; rw [← hb.out]; simp [near, h1, h2, h3, h4]
          clear hb
          go_enter Tryd.func121, Tryd.ntmps121
          go_wp2_with fail
          go_ret
          exact ⟨ret_b HB.out, rfl⟩
        · have HB : Hid (false = b) := by show _ = _; rw [← hb.out]; simp [near, h4]
          clear hb
          go_enter Tryd.func121, Tryd.ntmps121
          go_wp2_with fail
          go_ret
          exact ⟨ret_b HB.out, rfl⟩
      · have HB : Hid (false = b) := by show _ = _; rw [← hb.out]; simp [near, h3]
        clear hb
        go_enter Tryd.func121, Tryd.ntmps121
        go_wp2_with fail
        go_ret
        exact ⟨ret_b HB.out, rfl⟩
    · have HB : Hid (false = b) := by show _ = _; rw [← hb.out]; simp [near, h2]
      clear hb
      go_enter Tryd.func121, Tryd.ntmps121
      go_wp2_with fail
      go_ret
      exact ⟨ret_b HB.out, rfl⟩
  · have HB : Hid (false = b) := by show _ = _; rw [← hb.out]; simp [near, h1]
    clear hb
    go_enter Tryd.func121, Tryd.ntmps121
    go_wp2_with fail
    go_ret
    exact ⟨ret_b HB.out, rfl⟩
theorem width_c (r : Int) (b : Bool) (hb : Hid (wide r = b)) (w : World) :
    Calls Tryd.prog 122 #[.int .i64 r] w fun e w' => e = .returned (.bool b) ∧ w = w' := by
  by_cases h1 : 1 ≤ r
  · by_cases h2 : r ≤ 536870912
    · have HB : Hid (true = b) := by show _ = _; rw [← hb.out]; simp [wide, h1, h2]
      clear hb
      go_enter Tryd.func122, Tryd.ntmps122
      go_wp2_with fail
      go_ret
      exact ⟨ret_b HB.out, rfl⟩
    · have HB : Hid (false = b) := by show _ = _; rw [← hb.out]; simp [wide, h2]
      clear hb
      go_enter Tryd.func122, Tryd.ntmps122
      go_wp2_with fail
      go_ret
      exact ⟨ret_b HB.out, rfl⟩
  · have HB : Hid (false = b) := by show _ = _; rw [← hb.out]; simp [wide, h1]
    clear hb
    go_enter Tryd.func122, Tryd.ntmps122
    go_wp2_with fail
    go_ret
    exact ⟨ret_b HB.out, rfl⟩
set_option maxHeartbeats 800000 in
theorem bare_disc (x y r : Int) (w : World) :
    Calls Tryd.prog 120 #[.agg #[.int .i64 1, .int .i64 x, .int .i64 y, .int .i64 0, .int .i64 0, .int .i64 0, .int .i64 0, .int .i64 r, .slice none 0 0, .slice none 0 0]] w fun e w' => e = .returned (.bool true) ∧ Below w.heap.size w w' := by
  go_enter Tryd.func120, Tryd.ntmps120
  go_wp2_with fail
  go_ret
  exact ⟨rfl, ((Below.refl _ _).alloc (Nat.le_refl _) _).alloc (by simp) _⟩
set_option maxHeartbeats 800000 in
theorem bare_line (x y p q r : Int) (w : World) :
    Calls Tryd.prog 120 #[.agg #[.int .i64 3, .int .i64 x, .int .i64 y, .int .i64 p, .int .i64 q, .int .i64 0, .int .i64 0, .int .i64 r, .slice none 0 0, .slice none 0 0]] w fun e w' => e = .returned (.bool true) ∧ Below w.heap.size w w' := by
  go_enter Tryd.func120, Tryd.ntmps120
  go_wp2_with fail
  go_ret
  exact ⟨rfl, ((Below.refl _ _).alloc (Nat.le_refl _) _).alloc (by simp) _⟩

theorem nine_at {w : World} {b : Nat} {v0 v1 v2 v3 v4 v5 v6 v7 v8 v9 : Value} {t : TypeId} (h : w.heap[b]? = some (.cells #[v0, v1, v2, v3, v4, v5, v6, v7, v8, v9] t)) :
    w.cell? ⟨b, 0, none⟩ = some v0 ∧ w.cell? ⟨b, 1, none⟩ = some v1 ∧ w.cell? ⟨b, 2, none⟩ = some v2 ∧ w.cell? ⟨b, 3, none⟩ = some v3 ∧ w.cell? ⟨b, 4, none⟩ = some v4 ∧ w.cell? ⟨b, 5, none⟩ = some v5 ∧ w.cell? ⟨b, 6, none⟩ = some v6 ∧ w.cell? ⟨b, 7, none⟩ = some v7 ∧ w.cell? ⟨b, 8, none⟩ = some v8 ∧ w.cell? ⟨b, 9, none⟩ = some v9 := by
  refine ⟨?_, ?_, ?_, ?_, ?_, ?_, ?_, ?_, ?_, ?_⟩ <;> simp [World.cell?, h]
set_option maxRecDepth 100000 in
set_option maxHeartbeats 1600000 in
theorem valid_disc (x y r : Int) (b : Bool) (hb : Hid (okS (discS x y r) = b)) (w : World) (p : Nat) (hp : w.heap[p]? = some (.cells #[.int .i64 1000] 3)) :
    Calls Tryd.prog 115 #[.agg #[.int .i64 1, .int .i64 x, .int .i64 y, .int .i64 0, .int .i64 0, .int .i64 0, .int .i64 0, .int .i64 r, .slice none 0 0, .slice none 0 0], .int .i64 0, .pointer (some ⟨p, 0, none⟩)] w fun e w' => e = .returned (.bool b) ∧ Below p w w' := by
  have hlt := (Array.getElem?_eq_some_iff.1 hp).1
  have c0 : w.cell? ⟨p, 0, none⟩ = some (.int .i64 1000) := by simp [World.cell?, hp]
  have f0 : w.frozen? ⟨p, 0, none⟩ = false := by simp [World.frozen?, hp]
  have HLT := Lib.hid hlt
  have HS : Hid (((w.setCell ⟨p, 0, none⟩ (.int .i64 999)).alloc (.cells #[.int .i64 1, .int .i64 x, .int .i64 y, .int .i64 0, .int .i64 0, .int .i64 0, .int .i64 0, .int .i64 r, .slice none 0 0, .slice none 0 0] 33)).heap[w.heap.size]? = some (.cells #[.int .i64 1, .int .i64 x, .int .i64 y, .int .i64 0, .int .i64 0, .int .i64 0, .int .i64 0, .int .i64 r, .slice none 0 0, .slice none 0 0] 33)) := by
    show _ = _
    have h := heap_alloc_new (w.setCell ⟨p, 0, none⟩ (.int .i64 999)) (.cells #[.int .i64 1, .int .i64 x, .int .i64 y, .int .i64 0, .int .i64 0, .int .i64 0, .int .i64 0, .int .i64 r, .slice none 0 0, .slice none 0 0] 33)
    rwa [show (w.setCell ⟨p, 0, none⟩ (.int .i64 999)).heap.size = w.heap.size by simp] at h
  have HB0 : Hid (Below p w ((w.setCell ⟨p, 0, none⟩ (.int .i64 999)).alloc (.cells #[.int .i64 1, .int .i64 x, .int .i64 y, .int .i64 0, .int .i64 0, .int .i64 0, .int .i64 0, .int .i64 r, .slice none 0 0, .slice none 0 0] 33))) := by
    have h1 : Below p w (w.setCell ⟨p, 0, none⟩ (.int .i64 999)) := Below.setCell (Below.refl _ _) (p := ⟨p, 0, none⟩) (Nat.le_refl p) _
    exact h1.alloc (by rw [show (w.setCell ⟨p, 0, none⟩ (.int .i64 999)).heap.size = w.heap.size by simp]; omega) _
  clear hp
  go_enter Tryd.func115, Tryd.ntmps115
  go_upto_region 4 with fail
  generalize ((w.setCell ⟨p, 0, none⟩ (.int .i64 999)).alloc (.cells #[.int .i64 1, .int .i64 x, .int .i64 y, .int .i64 0, .int .i64 0, .int .i64 0, .int .i64 0, .int .i64 r, .slice none 0 0, .slice none 0 0] 33)) = W at HS HB0 ⊢
  obtain ⟨g0, g1, g2, g3, g4, g5, g6, g7, g8, g9⟩ := nine_at HS.out
  clear c0 f0 hlt
  go_wp2_with fail
  refine (bare_disc x y r W).mono ?_
  rintro e w1 ⟨rfl, hb1⟩
  have HS1 := Lib.hid (one_below HS.out hb1)
  have HB1 := Lib.hid (HB0.out.trans (hb1.mono (Nat.le_trans (Nat.le_of_lt HLT.out) HB0.out.size)))
  clear hb1 g0 g1 g2 g3 g4 g5 g6 g7 g8 g9 HS HB0
  obtain ⟨g0, g1, g2, g3, g4, g5, g6, g7, g8, g9⟩ := nine_at HS1.out
  go_wp2_with fail
  obtain ⟨bn, hbn⟩ : ∃ bn, near x y = bn := ⟨_, rfl⟩
  have HBN := Lib.hid hbn
  refine (near_c x y bn HBN w1).mono ?_
  rintro e w2 ⟨rfl, rfl⟩
  have HB2 : Hid (Below p w (w1.alloc (ptObj x y))) := HB1.out.alloc (Nat.le_trans (Nat.le_of_lt HLT.out) HB1.out.size) _
  have HS2 : Hid ((w1.alloc (ptObj x y)).heap[w.heap.size]? = some (.cells #[.int .i64 1, .int .i64 x, .int .i64 y, .int .i64 0, .int .i64 0, .int .i64 0, .int .i64 0, .int .i64 r, .slice none 0 0, .slice none 0 0] 33)) := one_below HS1.out ((Below.refl _ _).alloc (Nat.le_refl _) _)
  clear g0 g1 g2 g3 g4 g5 g6 g7 g8 g9 HS1 HB1
  generalize w1.alloc (ptObj x y) = w2 at HB2 HS2 ⊢
  obtain ⟨g0, g1, g2, g3, g4, g5, g6, g7, g8, g9⟩ := nine_at HS2.out
  cases bn with
  | true =>
    have HW : Hid (wide r = b) := by
      show _ = _
      rw [← hb.out]
      show _ = (near x y && wide r)
      rw [hbn]; rfl
    clear hbn
    go_wp2_with fail
    refine (width_c r b HW w2).mono ?_
    rintro e w3 ⟨rfl, rfl⟩
    go_wp2_with fail
    go_ret
    exact ⟨rfl, HB2.out⟩
  | false =>
    have HW : Hid (false = b) := by
      show _ = _
      rw [← hb.out]
      show _ = (near x y && wide r)
      rw [hbn]; rfl
    clear hbn
    go_wp2_with fail
    go_ret
    exact ⟨ret_b HW.out, HB2.out⟩
set_option maxRecDepth 100000 in
set_option maxHeartbeats 1600000 in
theorem valid_line (x y q s r : Int) (b : Bool) (hb : Hid (okS (lineS x y q s r) = b)) (w : World) (p : Nat) (hp : w.heap[p]? = some (.cells #[.int .i64 1000] 3)) :
    Calls Tryd.prog 115 #[.agg #[.int .i64 3, .int .i64 x, .int .i64 y, .int .i64 q, .int .i64 s, .int .i64 0, .int .i64 0, .int .i64 r, .slice none 0 0, .slice none 0 0], .int .i64 0, .pointer (some ⟨p, 0, none⟩)] w fun e w' => e = .returned (.bool b) ∧ Below p w w' := by
  have hlt := (Array.getElem?_eq_some_iff.1 hp).1
  have c0 : w.cell? ⟨p, 0, none⟩ = some (.int .i64 1000) := by simp [World.cell?, hp]
  have f0 : w.frozen? ⟨p, 0, none⟩ = false := by simp [World.frozen?, hp]
  have HLT := Lib.hid hlt
  have HS : Hid (((w.setCell ⟨p, 0, none⟩ (.int .i64 999)).alloc (.cells #[.int .i64 3, .int .i64 x, .int .i64 y, .int .i64 q, .int .i64 s, .int .i64 0, .int .i64 0, .int .i64 r, .slice none 0 0, .slice none 0 0] 33)).heap[w.heap.size]? = some (.cells #[.int .i64 3, .int .i64 x, .int .i64 y, .int .i64 q, .int .i64 s, .int .i64 0, .int .i64 0, .int .i64 r, .slice none 0 0, .slice none 0 0] 33)) := by
    show _ = _
    have h := heap_alloc_new (w.setCell ⟨p, 0, none⟩ (.int .i64 999)) (.cells #[.int .i64 3, .int .i64 x, .int .i64 y, .int .i64 q, .int .i64 s, .int .i64 0, .int .i64 0, .int .i64 r, .slice none 0 0, .slice none 0 0] 33)
    rwa [show (w.setCell ⟨p, 0, none⟩ (.int .i64 999)).heap.size = w.heap.size by simp] at h
  have HB0 : Hid (Below p w ((w.setCell ⟨p, 0, none⟩ (.int .i64 999)).alloc (.cells #[.int .i64 3, .int .i64 x, .int .i64 y, .int .i64 q, .int .i64 s, .int .i64 0, .int .i64 0, .int .i64 r, .slice none 0 0, .slice none 0 0] 33))) := by
    have h1 : Below p w (w.setCell ⟨p, 0, none⟩ (.int .i64 999)) := Below.setCell (Below.refl _ _) (p := ⟨p, 0, none⟩) (Nat.le_refl p) _
    exact h1.alloc (by rw [show (w.setCell ⟨p, 0, none⟩ (.int .i64 999)).heap.size = w.heap.size by simp]; omega) _
  clear hp
  go_enter Tryd.func115, Tryd.ntmps115
  go_upto_region 4 with fail
  generalize ((w.setCell ⟨p, 0, none⟩ (.int .i64 999)).alloc (.cells #[.int .i64 3, .int .i64 x, .int .i64 y, .int .i64 q, .int .i64 s, .int .i64 0, .int .i64 0, .int .i64 r, .slice none 0 0, .slice none 0 0] 33)) = W at HS HB0 ⊢
  obtain ⟨g0, g1, g2, g3, g4, g5, g6, g7, g8, g9⟩ := nine_at HS.out
  clear c0 f0 hlt
  go_wp2_with fail
  refine (bare_line x y q s r W).mono ?_
  rintro e w1 ⟨rfl, hb1⟩
  have HS1 := Lib.hid (one_below HS.out hb1)
  have HB1 := Lib.hid (HB0.out.trans (hb1.mono (Nat.le_trans (Nat.le_of_lt HLT.out) HB0.out.size)))
  clear hb1 g0 g1 g2 g3 g4 g5 g6 g7 g8 g9 HS HB0
  obtain ⟨g0, g1, g2, g3, g4, g5, g6, g7, g8, g9⟩ := nine_at HS1.out
  go_wp2_with fail
  obtain ⟨bn, hbn⟩ : ∃ bn, near x y = bn := ⟨_, rfl⟩
  have HBN := Lib.hid hbn
  refine (near_c x y bn HBN w1).mono ?_
  rintro e w2 ⟨rfl, rfl⟩
  have HB2 : Hid (Below p w (w1.alloc (ptObj x y))) := HB1.out.alloc (Nat.le_trans (Nat.le_of_lt HLT.out) HB1.out.size) _
  have HS2 : Hid ((w1.alloc (ptObj x y)).heap[w.heap.size]? = some (.cells #[.int .i64 3, .int .i64 x, .int .i64 y, .int .i64 q, .int .i64 s, .int .i64 0, .int .i64 0, .int .i64 r, .slice none 0 0, .slice none 0 0] 33)) := one_below HS1.out ((Below.refl _ _).alloc (Nat.le_refl _) _)
  clear g0 g1 g2 g3 g4 g5 g6 g7 g8 g9 HS1 HB1
  generalize w1.alloc (ptObj x y) = w2 at HB2 HS2 ⊢
  obtain ⟨g0, g1, g2, g3, g4, g5, g6, g7, g8, g9⟩ := nine_at HS2.out
  cases bn with
  | true =>
    obtain ⟨bm, hbm⟩ : ∃ bm, near q s = bm := ⟨_, rfl⟩
    have HBM := Lib.hid hbm
    have HW : Hid ((bm && wide r) = b) := by
      show _ = _
      rw [← hb.out]
      show _ = (near x y && (near q s && wide r))
      rw [hbn, hbm]; rfl
    clear hbn hbm
    go_wp2_with fail
    refine (near_c q s bm HBM w2).mono ?_
    rintro e w3 ⟨rfl, rfl⟩
    have HB3 : Hid (Below p w (w2.alloc (ptObj q s))) := HB2.out.alloc (Nat.le_trans (Nat.le_of_lt HLT.out) HB2.out.size) _
    have HS3 : Hid ((w2.alloc (ptObj q s)).heap[w.heap.size]? = some (.cells #[.int .i64 3, .int .i64 x, .int .i64 y, .int .i64 q, .int .i64 s, .int .i64 0, .int .i64 0, .int .i64 r, .slice none 0 0, .slice none 0 0] 33)) := one_below HS2.out ((Below.refl _ _).alloc (Nat.le_refl _) _)
    clear g0 g1 g2 g3 g4 g5 g6 g7 g8 g9 HS2 HB2
    generalize w2.alloc (ptObj q s) = w3 at HB3 HS3 ⊢
    obtain ⟨g0, g1, g2, g3, g4, g5, g6, g7, g8, g9⟩ := nine_at HS3.out
    cases bm with
    | true =>
      have HW2 : Hid (wide r = b) := HW.out
      go_wp2_with fail
      refine (width_c r b HW2 w3).mono ?_
      rintro e w4 ⟨rfl, rfl⟩
      go_wp2_with fail
      go_ret
      exact ⟨rfl, HB3.out⟩
    | false =>
      have HW2 : Hid (false = b) := HW.out
      go_wp2_with fail
      go_ret
      exact ⟨ret_b HW2.out, HB3.out⟩
  | false =>
    have HW : Hid (false = b) := by
      show _ = _
      rw [← hb.out]
      show _ = (near x y && (near q s && wide r))
      rw [hbn]; rfl
    clear hbn
    go_wp2_with fail
    go_ret
    exact ⟨ret_b HW.out, HB2.out⟩
/-- A disc or a line, its other fields none. -/
def Plain (s : Sh) : Prop := (∃ x y r, s = discS x y r) ∨ ∃ x y p q r, s = lineS x y p q r
set_option maxHeartbeats 800000 in
theorem ok_c (s : Sh) (hs : Plain s) (b : Bool) (hb : Hid (okS s = b)) (w : World) :
    Calls Tryd.prog 103 #[shVal s] w fun e w' => e = .returned (.bool b) ∧ Below w.heap.size w w' := by
  rcases hs with ⟨x, y, r, rfl⟩ | ⟨x, y, p, q, r, rfl⟩
  · have HP : Hid (((w.alloc (.cells #[.int .i64 1, .int .i64 x, .int .i64 y, .int .i64 0, .int .i64 0, .int .i64 0, .int .i64 0, .int .i64 r, .slice none 0 0, .slice none 0 0] 33)).alloc (.cells #[.int .i64 1000] 3)).heap[w.heap.size + 1]? = some (.cells #[.int .i64 1000] 3)) := by
      have h := heap_alloc_new (w.alloc (.cells #[.int .i64 1, .int .i64 x, .int .i64 y, .int .i64 0, .int .i64 0, .int .i64 0, .int .i64 0, .int .i64 r, .slice none 0 0, .slice none 0 0] 33)) (.cells #[.int .i64 1000] 3)
      rwa [show (w.alloc (.cells #[.int .i64 1, .int .i64 x, .int .i64 y, .int .i64 0, .int .i64 0, .int .i64 0, .int .i64 0, .int .i64 r, .slice none 0 0, .slice none 0 0] 33)).heap.size = w.heap.size + 1 by simp] at h
    go_enter Tryd.func103, Tryd.ntmps103
    go_wp2_with fail
    refine (valid_disc x y r b hb _ _ HP.out).mono ?_
    rintro e w' ⟨rfl, hw⟩
    go_wp2_with fail
    go_ret
    exact ⟨rfl, (((Below.refl _ _).alloc (Nat.le_refl _) _).alloc (by simp) _).trans (hw.mono (by omega))⟩
  · have HP : Hid (((w.alloc (shObj (lineS x y p q r))).alloc (.cells #[.int .i64 1000] 3)).heap[w.heap.size + 1]? = some (.cells #[.int .i64 1000] 3)) := by
      have h := heap_alloc_new (w.alloc (shObj (lineS x y p q r))) (.cells #[.int .i64 1000] 3)
      rwa [show (w.alloc (shObj (lineS x y p q r))).heap.size = w.heap.size + 1 by simp] at h
    go_enter Tryd.func103, Tryd.ntmps103
    go_wp2_with fail
    refine (valid_line x y p q r b hb _ _ HP.out).mono ?_
    rintro e w' ⟨rfl, hw⟩
    go_wp2_with fail
    go_ret
    exact ⟨rfl, (((Below.refl _ _).alloc (Nat.le_refl _) _).alloc (by simp) _).trans (hw.mono (by omega))⟩
end Go.Proofs.YtecpmnkgikcpnaaDoor.HW
namespace Go.Proofs.YtecpmnkgikcpnaaDoor.HW
open Go.RowKit Go.Proofs.YtecpmnkgikcpnaaDoor.Base Go.Proofs.YtecpmnkgikcpnaaDoor.Dp Go.Proofs.YtecpmnkgikcpnaaDoor.DeciW Go.Proofs.YtecpmnkgikcpnaaDoor.Xp Go.Proofs.YtecpmnkgikcpnaaDoor.Hp Go.Proofs.YtecpmnkgikcpnaaDoor.XW
open Go.Proofs.YtecpmnkgikcpnaaDoor.UnitW (grain_at coord_at fmtVal fmtObj)

abbrev mCells (sv : Value) (r : Nat) (m : M) : Array Value := #[sv, .int .i64 m.budget, .int .i64 m.stage, .int .i64 m.u, .int .i64 m.i, .int .i64 m.d, .bool m.t, .map (some r), .int .i64 m.tool, .int .i64 m.x, .int .i64 m.y, .bool m.routing, .bool m.down, .bool m.hit]
abbrev mObj (sv : Value) (r : Nat) (m : M) : Obj := .cells (mCells sv r m) 84
def shsV (l : List Sh) : List Value := l.flatMap fun s => (shCells s).toList
/-- The radii in memory. -/
def RadAt (w : World) (r n : Nat) (rad : Int → Option Int) : Prop :=
  ∃ D : DataW Unit, w.ownsMap Tryd.prog 3 (plainElem Tryd.prog 2) r n D ∧ Maps.IsMap D ∧ ∀ k : Int, Maps.has D (.int .i64 k) = (rad k).isSome ∧ D.atKey (.int .i64 k) (.lit (.int .i64 0)) = .lit (.int .i64 ((rad k).getD 0))
/-- The machine in memory. -/
structure Mach (B b r n : Nat) (m : M) (w : World) : Prop where
  bB : B ≤ b
  rB : B ≤ r
  cells : ∃ sv, w.heap[b]? = some (mObj sv r m) ∧ w.ownsRow B 33 10 sv m.sh.length (shsV m.sh)
  rad : RadAt w r n m.rad
  fine : Fine m
  t0 : 0 ≤ m.tool
  t1 : m.tool ≤ 9999
theorem RadAt.below {w w' : World} {r n : Nat} {rad : Int → Option Int} (h : RadAt w r n rad) (hb : Below w.heap.size w w') : RadAt w' r n rad := by
  obtain ⟨D, h1, h2, h3⟩ := h
  exact ⟨D, h1.kept (row := none) ⟨hb.os, hb.tape, hb.output, hb.size, fun k hk _ => hb.block k hk⟩ (by simp), h2, h3⟩
theorem row_below {w w' : World} {B : Nat} {e : TypeId} {sz n : Nat} {v : Value} {xs : List Value} (h : w.ownsRow B e sz v n xs) (hb : Below w.heap.size w w') : w'.ownsRow B e sz v n xs :=
  h.kept (row := none) ⟨hb.os, hb.tape, hb.output, hb.size, fun k hk _ => hb.block k hk⟩ (by cases v.ownBlock <;> simp)
theorem Mach.below {B b r n : Nat} {m : M} {w w' : World} (h : Mach B b r n m w) (hb : Below w.heap.size w w') : Mach B b r n m w' := by
  obtain ⟨sv, h1, h2⟩ := h.cells
  exact ⟨h.bB, h.rB, ⟨sv, one_below h1 hb, row_below h2 hb⟩, h.rad.below hb, h.fine, h.t0, h.t1⟩
/-- The machine's cells, one by one. -/
structure MC (w : World) (b r : Nat) (sv : Value) (m : M) : Prop where
  c0 : w.cell? ⟨b, 0, none⟩ = some sv
  c1 : w.cell? ⟨b, 1, none⟩ = some (.int .i64 m.budget)
  c2 : w.cell? ⟨b, 2, none⟩ = some (.int .i64 m.stage)
  c3 : w.cell? ⟨b, 3, none⟩ = some (.int .i64 m.u)
  c4 : w.cell? ⟨b, 4, none⟩ = some (.int .i64 m.i)
  c5 : w.cell? ⟨b, 5, none⟩ = some (.int .i64 m.d)
  c6 : w.cell? ⟨b, 6, none⟩ = some (.bool m.t)
  c7 : w.cell? ⟨b, 7, none⟩ = some (.map (some r))
  c8 : w.cell? ⟨b, 8, none⟩ = some (.int .i64 m.tool)
  c9 : w.cell? ⟨b, 9, none⟩ = some (.int .i64 m.x)
  c10 : w.cell? ⟨b, 10, none⟩ = some (.int .i64 m.y)
  c11 : w.cell? ⟨b, 11, none⟩ = some (.bool m.routing)
  c12 : w.cell? ⟨b, 12, none⟩ = some (.bool m.down)
  c13 : w.cell? ⟨b, 13, none⟩ = some (.bool m.hit)
  f : ∀ i, w.frozen? ⟨b, i, none⟩ = false
theorem mc_of {w : World} {b r : Nat} {sv : Value} {m : M} (h : w.heap[b]? = some (mObj sv r m)) : MC w b r sv m := by
  refine ⟨?_, ?_, ?_, ?_, ?_, ?_, ?_, ?_, ?_, ?_, ?_, ?_, ?_, ?_, fun i => ?_⟩ <;> simp [World.cell?, World.frozen?, h]
def LenOut (o : Option Int) (w : World) (e : Ending) (w' : World) : Prop := e = .returned (.tuple #[.int .i64 (o.getD 0), .bool o.isSome]) ∧ Below w.heap.size w w'

set_option maxRecDepth 100000 in
set_option maxHeartbeats 1600000 in
theorem len_c (B b r n : Nat) (m : M) (S : ByteArray) (hs : S.size ≤ maxLen) (w : World) (H : Hid (Mach B b r n m w)) (o : Option Int) (ho : Hid (lenV m S.data.toList = o)) :
    Calls Tryd.prog 83 #[.pointer (some ⟨b, 0, none⟩), .string S] w (LenOut o w) := by
  have HSM := Lib.hid hs
  obtain ⟨sv, h1, h2⟩ := H.out.cells
  obtain ⟨c0, c1, c2, c3, c4, c5, c6, c7, c8, c9, c10, c11, c12, c13, _⟩ := mc_of h1
  clear h1 h2 c0 c1 c2 c7 c8 c9 c10 c11 c12 c13
  have hl := ho.out
  unfold lenV at hl
  clear ho
  by_cases hc : S.data.toList.contains 46 = true
  · rw [if_pos hc] at hl
    have HC : Hid (decide (0 ≤ Lib.indexByte S.data.toList 46) = true) := by show _ = _; rw [index_contains]; exact hc
    obtain ⟨d, hd⟩ : ∃ d, dec S.data.toList = d := ⟨_, rfl⟩
    rw [hd] at hl
    have HD : Hid (dec S.data.toList = d) := hd
    clear hc hd
    cases d with
    | none =>
      have HO : Hid (none = o) := hl
      clear hl
      go_enter Tryd.func83, Tryd.ntmps83
      go_wp2_with fail
      with_reducible refine (Tryd.strings_Contains_one _ 46 _).mono ?_
      rintro e w' ⟨rfl, rfl⟩
      rw [HC.out]
      go_wp2_with fail
      with_reducible refine (parse_any S _ HSM.out).mono ?_
      rintro e w2 ⟨rfl, rfl⟩
      rw [HD.out]
      go_wp2_with fail
      go_ret2
      rw [← HO.out]
      exact ⟨rfl, Below.refl _ _⟩
    | some z =>
      have HO : Hid ((Up.grainV z m.u).getD 0 = o.getD 0 ∧ (Up.grainV z m.u).isSome = o.isSome) := by rw [← hl]; exact ⟨rfl, rfl⟩
      clear hl
      go_enter Tryd.func83, Tryd.ntmps83
      go_wp2_with fail
      with_reducible refine (Tryd.strings_Contains_one _ 46 _).mono ?_
      rintro e w' ⟨rfl, rfl⟩
      rw [HC.out]
      go_wp2_with fail
      with_reducible refine (parse_any S _ HSM.out).mono ?_
      rintro e w2 ⟨rfl, rfl⟩
      rw [HD.out]
      go_wp2_with fail
      with_reducible refine (grain_at z m.u _ _ HO _).mono ?_
      rintro e w3 ⟨rfl, rfl⟩
      go_wp2_with fail
      go_ret2
      exact ⟨rfl, Below.refl _ _⟩
  · rw [if_neg hc] at hl
    have HC : Hid (decide (0 ≤ Lib.indexByte S.data.toList 46) = false) := by show _ = _; rw [index_contains]; exact Bool.eq_false_iff.2 hc
    have HO : Hid ((Up.coordV S.data.toList m.u m.i m.d m.t).getD 0 = o.getD 0 ∧ (Up.coordV S.data.toList m.u m.i m.d m.t).isSome = o.isSome) := by rw [← hl]; exact ⟨rfl, rfl⟩
    clear hl hc
    go_enter Tryd.func83, Tryd.ntmps83
    go_wp2_with fail
    with_reducible refine (Tryd.strings_Contains_one _ 46 _).mono ?_
    rintro e w' ⟨rfl, rfl⟩
    rw [HC.out]
    go_wp2_with fail
    with_reducible refine (coord_at S S.data.toList (Lib.hid (Eq.refl _)) m.u m.i m.d m.t _ _ HO (by have h := HSM.out; unfold maxLen at h; omega) _).mono ?_
    rintro e w2 ⟨rfl, hb⟩
    go_wp2_with fail
    go_ret2
    exact ⟨rfl, hb⟩

/-! ### A place -/
theorem pt_at {w : World} {b : Nat} {v0 v1 : Value} {t : TypeId} (h : w.heap[b]? = some (.cells #[v0, v1] t)) : (w.cell? ⟨b, 0, none⟩ = some v0 ∧ w.cell? ⟨b, 1, none⟩ = some v1) ∧ w.frozen? ⟨b, 0, none⟩ = false ∧ w.frozen? ⟨b, 1, none⟩ = false := by
  refine ⟨⟨?_, ?_⟩, ?_, ?_⟩ <;> simp [World.cell?, World.frozen?, h]
theorem set0 {x : World} {b : Nat} {v0 v1 : Value} {t : TypeId} (h : x.heap[b]? = some (.cells #[v0, v1] t)) (u : Value) : (x.setCell ⟨b, 0, none⟩ u).heap[b]? = some (.cells #[u, v1] t) := here h 0 u
theorem set1 {x : World} {b : Nat} {v0 v1 : Value} {t : TypeId} (h : x.heap[b]? = some (.cells #[v0, v1] t)) (u : Value) : (x.setCell ⟨b, 1, none⟩ u).heap[b]? = some (.cells #[v0, u] t) := here h 1 u
/-- The result and the place, in memory. -/
structure PW (w0 : World) (a b c d : Int) (W : World) : Prop where
  r : W.heap[w0.heap.size + 1]? = some (ptObj c d)
  p : W.heap[w0.heap.size + 2]? = some (ptObj a b)
  bel : Below w0.heap.size w0 W
theorem PW.below {w0 W W' : World} {a b c d : Int} (h : PW w0 a b c d W) (hb : Below W.heap.size W W') : PW w0 a b c d W' := ⟨one_below h.r hb, one_below h.p hb, h.bel.trans (hb.mono h.bel.size)⟩
theorem PW.p0 {w0 W : World} {a b c d : Int} (h : PW w0 a b c d W) (u : Int) : PW w0 u b c d (W.setCell ⟨w0.heap.size + 2, 0, none⟩ (.int .i64 u)) :=
  ⟨(Below.heap_setCell _ _ _ _ (by show w0.heap.size + 1 ≠ w0.heap.size + 2; omega)).trans h.r, set0 h.p _, h.bel.setCell (by show w0.heap.size ≤ w0.heap.size + 2; omega) _⟩
theorem PW.p1 {w0 W : World} {a b c d : Int} (h : PW w0 a b c d W) (u : Int) : PW w0 a u c d (W.setCell ⟨w0.heap.size + 2, 1, none⟩ (.int .i64 u)) :=
  ⟨(Below.heap_setCell _ _ _ _ (by show w0.heap.size + 1 ≠ w0.heap.size + 2; omega)).trans h.r, set1 h.p _, h.bel.setCell (by show w0.heap.size ≤ w0.heap.size + 2; omega) _⟩
theorem PW.rr {w0 W : World} {a b c d : Int} (h : PW w0 a b c d W) (u v : Int) : PW w0 a b u v ((W.setCell ⟨w0.heap.size + 1, 0, none⟩ (.int .i64 u)).setCell ⟨w0.heap.size + 1, 1, none⟩ (.int .i64 v)) :=
  ⟨set1 (set0 h.r _) _, (Below.heap_setCell _ _ _ _ (by show w0.heap.size + 2 ≠ w0.heap.size + 1; omega)).trans ((Below.heap_setCell _ _ _ _ (by show w0.heap.size + 2 ≠ w0.heap.size + 1; omega)).trans h.p), (h.bel.setCell (by show w0.heap.size ≤ w0.heap.size + 1; omega) _).setCell (by show w0.heap.size ≤ w0.heap.size + 1; omega) _⟩
theorem pw_new (w : World) (a b : Int) : PW w a b 0 0 (((w.alloc (ptObj a b)).alloc (ptObj 0 0)).alloc (ptObj a b)) := by
  have e1 : (w.alloc (ptObj a b)).heap.size = w.heap.size + 1 := by simp
  have e2 : ((w.alloc (ptObj a b)).alloc (ptObj 0 0)).heap.size = w.heap.size + 2 := by simp
  refine ⟨?_, ?_, (((Below.refl _ _).alloc (Nat.le_refl _) _).alloc (by omega) _).alloc (by omega) _⟩
  · rw [Below.heap_alloc _ _ _ (by omega)]
    have h := heap_alloc_new (w.alloc (ptObj a b)) (ptObj 0 0)
    rwa [e1] at h
  · have h := heap_alloc_new ((w.alloc (ptObj a b)).alloc (ptObj 0 0)) (ptObj a b)
    rwa [e2] at h
def PtOut (o : Option (Int × Int)) (w : World) (e : Ending) (w' : World) : Prop := e = .returned (.tuple #[ptVal (o.getD (0, 0)).1 (o.getD (0, 0)).2, .bool o.isSome]) ∧ Below w.heap.size w w'

set_option maxRecDepth 100000 in
set_option maxHeartbeats 3200000 in
theorem pt_c (B b r n : Nat) (m : M) (X Y : ByteArray) (hx : X.size ≤ maxLen) (hy : Y.size ≤ maxLen) (px py : Int) (w : World) (H : Hid (Mach B b r n m w)) (o : Option (Int × Int)) (ho : Hid (ptV m X.data.toList Y.data.toList px py = o)) :
    Calls Tryd.prog 69 #[.pointer (some ⟨b, 0, none⟩), .string X, .string Y, .agg #[.int .i64 px, .int .i64 py]] w (PtOut o w) := by
  have HX := Lib.hid hx
  have HY := Lib.hid hy
  have HP : Hid (PW w px py 0 0 (((w.alloc (ptObj px py)).alloc (ptObj 0 0)).alloc (ptObj px py))) := pw_new w px py
  have hl := ho.out
  unfold ptV at hl
  clear ho hx hy
  go_enter Tryd.func69, Tryd.ntmps69
  go_upto_region 3 with fail
  generalize (((w.alloc (.cells #[.int .i64 px, .int .i64 py] 29)).alloc (.cells #[.int .i64 0, .int .i64 0] 29)).alloc (.cells #[.int .i64 px, .int .i64 py] 29)) = W at HP ⊢
  obtain ⟨⟨r0, r1⟩, z0, z1⟩ := pt_at HP.out.r
  obtain ⟨⟨p0, p1⟩, y0, y1⟩ := pt_at HP.out.p
  by_cases xe : X.data.toList = []
  · rw [if_pos xe] at hl
    have hxe : X.toList.isEmpty = true := by rw [Lib.toList_data, xe]; rfl
    clear xe
    simp only [] at hl
    by_cases ye : Y.data.toList = []
    · rw [if_pos ye] at hl
      have HO : Hid (some (px, py) = o) := hl
      have hye : Y.toList.isEmpty = true := by rw [Lib.toList_data, ye]; rfl
      clear hl ye
      have HF := Lib.hid (HP.out.rr px py)
      go_wp2_with fail
      refine bodyPost_ret (v := .tuple #[ptVal (px) (py), .bool true]) ?_ rfl ⟨by rw [← HO.out]; rfl, HF.out.bel⟩
      obtain ⟨⟨q0, q1⟩, _⟩ := pt_at HF.out.r
      clear r0 r1 z0 z1 p0 p1 y0 y1
      simp [results, Tryd.results69, go_sem, q0, q1] <;> rfl
    · rw [if_neg ye] at hl
      have hye : Y.toList.isEmpty = false := by
        rw [Lib.toList_data]
        cases hq : Y.data.toList with
        | nil => exact absurd hq ye
        | cons _ _ => rfl
      obtain ⟨oy, hoy⟩ : ∃ oy, lenV m Y.data.toList = oy := ⟨_, rfl⟩
      have Hoy := Lib.hid hoy
      rw [hoy] at hl
      clear ye hoy
      go_wp2_with fail
      with_reducible refine (len_c B b r n m Y HY.out _ (Lib.hid (H.out.below HP.out.bel)) oy Hoy).mono ?_
      rintro e w2 ⟨rfl, hb2⟩
      have HP2 := Lib.hid (HP.out.below hb2)
      clear r0 r1 z0 z1 p0 p1 y0 y1 hb2 HP
      have HP := HP2
      clear HP2
      obtain ⟨⟨r0, r1⟩, z0, z1⟩ := pt_at HP.out.r
      obtain ⟨⟨p0, p1⟩, y0, y1⟩ := pt_at HP.out.p
      cases oy with
      | none =>
        have HO : Hid (none = o) := hl
        clear hl
        have HF := Lib.hid ((HP.out.p1 0).rr 0 0)
        go_wp2_with fail
        refine bodyPost_ret (v := .tuple #[ptVal (0) (0), .bool false]) ?_ rfl ⟨by rw [← HO.out]; rfl, HF.out.bel⟩
        obtain ⟨⟨q0, q1⟩, _⟩ := pt_at HF.out.r
        clear r0 r1 z0 z1 p0 p1 y0 y1
        simp [results, Tryd.results69, go_sem, q0, q1] <;> rfl
      | some vy =>
        have HO : Hid (some (px, vy) = o) := hl
        clear hl
        have HF := Lib.hid ((HP.out.p1 vy).rr px vy)
        go_wp2_with fail
        refine bodyPost_ret (v := .tuple #[ptVal (px) (vy), .bool true]) ?_ rfl ⟨by rw [← HO.out]; rfl, HF.out.bel⟩
        obtain ⟨⟨q0, q1⟩, _⟩ := pt_at HF.out.r
        clear r0 r1 z0 z1 p0 p1 y0 y1
        simp [results, Tryd.results69, go_sem, q0, q1] <;> rfl
  · rw [if_neg xe] at hl
    have hxe : X.toList.isEmpty = false := by
      rw [Lib.toList_data]
      cases hq : X.data.toList with
      | nil => exact absurd hq xe
      | cons _ _ => rfl
    obtain ⟨ox, hox⟩ : ∃ ox, lenV m X.data.toList = ox := ⟨_, rfl⟩
    have Hox := Lib.hid hox
    rw [hox] at hl
    clear xe hox
    go_wp2_with fail
    with_reducible refine (len_c B b r n m X HX.out _ (Lib.hid (H.out.below HP.out.bel)) ox Hox).mono ?_
    rintro e w2 ⟨rfl, hb2⟩
    have HP2 := Lib.hid (HP.out.below hb2)
    clear r0 r1 z0 z1 p0 p1 y0 y1 hb2 HP
    have HP := HP2
    clear HP2
    obtain ⟨⟨r0, r1⟩, z0, z1⟩ := pt_at HP.out.r
    obtain ⟨⟨p0, p1⟩, y0, y1⟩ := pt_at HP.out.p
    cases ox with
    | none =>
      have HO : Hid (none = o) := hl
      clear hl
      have HF := Lib.hid ((HP.out.p0 0).rr 0 0)
      go_wp2_with fail
      refine bodyPost_ret (v := .tuple #[ptVal (0) (0), .bool false]) ?_ rfl ⟨by rw [← HO.out]; rfl, HF.out.bel⟩
      obtain ⟨⟨q0, q1⟩, _⟩ := pt_at HF.out.r
      clear r0 r1 z0 z1 p0 p1 y0 y1
      simp [results, Tryd.results69, go_sem, q0, q1] <;> rfl
    | some vx =>
      simp only [] at hl
      have HPX := Lib.hid (HP.out.p0 vx)
      go_upto_region 7 with fail
      clear r0 r1 z0 z1 p0 p1 y0 y1 HP
      generalize w2.setCell _ _ = W3 at *
      have HP := HPX
      clear HPX
      obtain ⟨⟨r0, r1⟩, z0, z1⟩ := pt_at HP.out.r
      obtain ⟨⟨p0, p1⟩, y0, y1⟩ := pt_at HP.out.p
      by_cases ye : Y.data.toList = []
      · rw [if_pos ye] at hl
        have HO : Hid (some (vx, py) = o) := hl
        have hye : Y.toList.isEmpty = true := by rw [Lib.toList_data, ye]; rfl
        clear hl ye
        have HF := Lib.hid (HP.out.rr vx py)
        go_wp2_with fail
        refine bodyPost_ret (v := .tuple #[ptVal (vx) (py), .bool true]) ?_ rfl ⟨by rw [← HO.out]; rfl, HF.out.bel⟩
        obtain ⟨⟨q0, q1⟩, _⟩ := pt_at HF.out.r
        clear r0 r1 z0 z1 p0 p1 y0 y1
        simp [results, Tryd.results69, go_sem, q0, q1] <;> rfl
      · rw [if_neg ye] at hl
        have hye : Y.toList.isEmpty = false := by
          rw [Lib.toList_data]
          cases hq : Y.data.toList with
          | nil => exact absurd hq ye
          | cons _ _ => rfl
        obtain ⟨oy, hoy⟩ : ∃ oy, lenV m Y.data.toList = oy := ⟨_, rfl⟩
        have Hoy := Lib.hid hoy
        rw [hoy] at hl
        clear ye hoy
        go_wp2_with fail
        with_reducible refine (len_c B b r n m Y HY.out _ (Lib.hid (H.out.below HP.out.bel)) oy Hoy).mono ?_
        rintro e w2 ⟨rfl, hb2⟩
        have HP2 := Lib.hid (HP.out.below hb2)
        clear r0 r1 z0 z1 p0 p1 y0 y1 hb2 HP
        have HP := HP2
        clear HP2
        obtain ⟨⟨r0, r1⟩, z0, z1⟩ := pt_at HP.out.r
        obtain ⟨⟨p0, p1⟩, y0, y1⟩ := pt_at HP.out.p
        cases oy with
        | none =>
          have HO : Hid (none = o) := hl
          clear hl
          have HF := Lib.hid ((HP.out.p1 0).rr 0 0)
          go_wp2_with fail
          refine bodyPost_ret (v := .tuple #[ptVal (0) (0), .bool false]) ?_ rfl ⟨by rw [← HO.out]; rfl, HF.out.bel⟩
          obtain ⟨⟨q0, q1⟩, _⟩ := pt_at HF.out.r
          clear r0 r1 z0 z1 p0 p1 y0 y1
          simp [results, Tryd.results69, go_sem, q0, q1] <;> rfl
        | some vy =>
          have HO : Hid (some (vx, vy) = o) := hl
          clear hl
          have HF := Lib.hid ((HP.out.p1 vy).rr vx vy)
          go_wp2_with fail
          refine bodyPost_ret (v := .tuple #[ptVal (vx) (vy), .bool true]) ?_ rfl ⟨by rw [← HO.out]; rfl, HF.out.bel⟩
          obtain ⟨⟨q0, q1⟩, _⟩ := pt_at HF.out.r
          clear r0 r1 z0 z1 p0 p1 y0 y1
          simp [results, Tryd.results69, go_sem, q0, q1] <;> rfl
end Go.Proofs.YtecpmnkgikcpnaaDoor.HW
namespace Go.Proofs.YtecpmnkgikcpnaaDoor.HW
open Go.RowKit Go.Proofs.YtecpmnkgikcpnaaDoor.Base Go.Proofs.YtecpmnkgikcpnaaDoor.Dp Go.Proofs.YtecpmnkgikcpnaaDoor.DeciW Go.Proofs.YtecpmnkgikcpnaaDoor.Xp Go.Proofs.YtecpmnkgikcpnaaDoor.Hp Go.Proofs.YtecpmnkgikcpnaaDoor.XW

/-- What a method of the machine returns. -/
def MOut (B b r n : Nat) (w : World) (res : Except Nat M) (e : Ending) (w' : World) : Prop := Below B w w' ∧ match res with
  | .ok m' => e = .returned (.int .i64 0) ∧ Mach B b r n m' w'
  | .error k => e = .returned (.int .i64 (k : Int))
theorem shsV_snoc (l : List Sh) (s : Sh) : shsV (l ++ [s]) = shsV l ++ (shCells s).toList := by simp [shsV]
theorem Mach.lt {B b r n : Nat} {m : M} {w : World} (h : Mach B b r n m w) : b < w.heap.size ∧ r < w.heap.size := by
  obtain ⟨sv, h1, _⟩ := h.cells
  obtain ⟨D, h2, _⟩ := h.rad
  exact ⟨(Array.getElem?_eq_some_iff.1 h1).1, h2.lt⟩
theorem own_map {w : World} {B : Nat} {e : TypeId} {sz n : Nat} {v : Value} {xs : List Value} (h : w.ownsRow B e sz v n xs) {b : Nat} {es : Array MapEntry} {c : Nat} (hb : w.heap[b]? = some (.map es c)) : v.ownBlock ≠ some b := by
  rcases h.2 with ⟨rfl, _⟩ | ⟨g, cap, cur, rfl, _, hh, _⟩
  · simp [Value.ownBlock]
  · intro h2
    have : g = b := by simpa [Value.ownBlock] using h2
    subst this
    rw [hb] at hh
    cases hh
theorem lit_inj {a c : Int} (h : (DataW.lit (.int .i64 a) : DataW Unit) = .lit (.int .i64 c)) : a = c := by
  injection h with h
  injection h
theorem own_ne' {w : World} {B : Nat} {e t : TypeId} {sz n : Nat} {v : Value} {xs : List Value} (h : w.ownsRow B e sz v n xs) {b : Nat} {cs : Array Value} {fz : Nat × Nat} (hb : w.heap[b]? = some (.cells cs t fz)) (he : e ≠ t) : v.ownBlock ≠ some b := own_ne h hb he
/-- A radius looked up. -/
theorem rad_look {w : World} {r n : Nat} {rad : Int → Option Int} (h : RadAt w r n rad) (k : Int) (h0 : 0 ≤ k) (h1 : k ≤ 9999) : (Instr.lookup 80 (.map (some r)) (.int .i64 k) false).run Tryd.prog w = .ok (.int .i64 ((rad k).getD 0)) w := by
  obtain ⟨D, hown, _, h3⟩ := h
  obtain ⟨c, hr, hat, _⟩ := hown.lookup_int (Maps.int_keyed Tryd.underlying3) Tryd.underlying80 Tryd.underlying2 (by kernel_rfl) (Maps.keyOf_int_mk Tryd.underlying3 (WalkArith.wf_i64 (by omega : -9223372036854775808 ≤ k ∧ k ≤ 9223372036854775807)))
  have e : (rad k).getD 0 = c := lit_inj ((h3 k).2.symm.trans hat)
  rw [hr, e]
theorem rad_look2 {w : World} {r n : Nat} {rad : Int → Option Int} (h : RadAt w r n rad) (k : Int) (h0 : 0 ≤ k) (h1 : k ≤ 9999) : (Instr.lookup 80 (.map (some r)) (.int .i64 k) true).run Tryd.prog w = .ok (.tuple #[.int .i64 ((rad k).getD 0), .bool (rad k).isSome]) w := by
  obtain ⟨D, hown, _, h3⟩ := h
  obtain ⟨v, ps, hr, hv⟩ := hown.look_ok (Maps.int_keyed Tryd.underlying3) Tryd.underlying80 (z := .int .i64 0) (by kernel_rfl) (plainElem_int (H := Unit) Tryd.underlying2 (by decide)) (Maps.keyOf_int_mk Tryd.underlying3 (WalkArith.wf_i64 (by omega : -9223372036854775808 ≤ k ∧ k ≤ 9223372036854775807)))
  obtain ⟨c, rfl, hc, _⟩ := plainElem_int_inv Tryd.underlying2 hv
  have e : (rad k).getD 0 = c := lit_inj ((h3 k).2.symm.trans (congrArg Prod.fst hc))
  rw [hr, (h3 k).1, e]
/-- What is no machine's and no shape's is as it was. -/
def Keep (w w' : World) : Prop := w.heap.size ≤ w'.heap.size ∧ ∀ (k : Nat) (cs : Array Value) (t : TypeId) (fz : Nat × Nat), w.heap[k]? = some (Obj.cells cs t fz) → t ≠ 84 → t ≠ 33 → w'.heap[k]? = some (.cells cs t fz)
theorem Keep.of_below {w w' : World} (h : Below w.heap.size w w') : Keep w w' := ⟨h.size, fun k cs t fz hk _ _ => one_below hk h⟩
theorem Keep.trans {a b c : World} (h : Keep a b) (g : Keep b c) : Keep a c := ⟨Nat.le_trans h.1 g.1, fun k cs t fz hk h1 h2 => g.2 k cs t fz (h.2 k cs t fz hk h1 h2) h1 h2⟩
theorem keep_push {B b r : Nat} {m : M} {W X w1 : World} {sv sv' : Value} {xs : List Value} {N : Nat} (hs : W.heap[b]? = some (mObj sv r m)) (hr : W.ownsRow B 33 10 sv N xs) (hX : Below W.heap.size W X) (hg : X.grownBy w1 sv.ownBlock) : Keep W (w1.setCell ⟨b, 0, none⟩ sv') := by
  have hXr := row_below hr hX
  refine ⟨Nat.le_trans hX.size (Nat.le_trans hg.size (by simp [World.setCell])), fun k cs t fz hk h1 h2 => ?_⟩
  have hk1 := one_below hk hX
  have hkb : k ≠ b := by
    intro e
    rw [e, hs] at hk
    injection hk with hk
    injection hk with _ e2 _
    exact h1 e2.symm
  rw [Below.heap_setCell _ _ _ _ hkb]
  exact (hg.block k (Array.getElem?_eq_some_iff.1 hk1).1 (Ne.symm (own_ne' hXr hk1 (Ne.symm h2)))).trans hk1
/-- The machine's row has grown. -/
theorem Mach.push {B b r n : Nat} {m : M} {W X w1 : World} {sv sv' : Value} {s : Sh} (h : Mach B b r n m W) (hs : W.heap[b]? = some (mObj sv r m)) (hr : W.ownsRow B 33 10 sv m.sh.length (shsV m.sh)) (hX : Below W.heap.size W X) (hg : X.grownBy w1 sv.ownBlock)
    (ho : w1.ownsRow B 33 10 sv' (m.sh.length + 1) (shsV m.sh ++ (shCells s).toList)) (hf : Fine { m with sh := m.sh ++ [s] }) (hB : B ≤ W.heap.size) :
    Mach B b r n { m with sh := m.sh ++ [s] } (w1.setCell ⟨b, 0, none⟩ sv') ∧ Below B W (w1.setCell ⟨b, 0, none⟩ sv') := by
  have hX1 : X.heap[b]? = some (mObj sv r m) := one_below hs hX
  have hXr := row_below hr hX
  have hlt := (Array.getElem?_eq_some_iff.1 hX1).1
  have hb1 : w1.heap[b]? = some (mObj sv r m) := (hg.block b hlt (Ne.symm (own_ne hXr hX1 (by decide)))).trans hX1
  have hb2 : (w1.setCell ⟨b, 0, none⟩ sv').heap[b]? = some (mObj sv' r { m with sh := m.sh ++ [s] }) := here hb1 0 sv'
  have hgs : w1.grownBy (w1.setCell ⟨b, 0, none⟩ sv') (some b) := ⟨rfl, rfl, rfl, by simp [World.setCell], fun k hk hne => Below.heap_setCell _ _ _ _ (by show k ≠ b; intro e; exact hne (by rw [e]))⟩
  have hBX : Below B W X := hX.mono hB
  have hB1 : Below B W w1 := hBX.grown hg (Nat.le_trans hB hX.size) (fun k hk => (hXr.lt _ hk).1)
  refine ⟨⟨h.bB, h.rB, ⟨sv', hb2, ?_⟩, ?_, hf, h.t0, h.t1⟩, hB1.setCell h.bB _⟩
  · show World.ownsRow _ B _ 10 sv' (m.sh ++ [s]).length (shsV (m.sh ++ [s]))
    rw [shsV_snoc, show (m.sh ++ [s]).length = m.sh.length + 1 by simp]
    exact ho.kept hgs (.inr (own_ne ho hb1 (by decide)))
  · obtain ⟨D, h1, h2, h3⟩ := h.rad.below hX
    have hne : some r ≠ sv.ownBlock := by
      obtain ⟨es, c, hes, _⟩ := h1
      exact Ne.symm (own_map hXr hes)
    refine ⟨D, (h1.kept hg hne).kept hgs ?_, h2, h3⟩
    intro e
    injection e with e
    obtain ⟨es, c, hes, _⟩ := h1
    rw [e, hX1] at hes
    cases hes
theorem info_sh : (Tryd.prog.info? 33).map (fun i => (i.zero, i.size, i.bytes)) = some (some (.agg #[.int .i64 0, .int .i64 0, .int .i64 0, .int .i64 0, .int .i64 0, .int .i64 0, .int .i64 0, .int .i64 0, .slice none 0 0, .slice none 0 0]), 10, 112) := by kernel_rfl
end Go.Proofs.YtecpmnkgikcpnaaDoor.HW
namespace Go.Proofs.YtecpmnkgikcpnaaDoor.HW
open Go.RowKit Go.Proofs.YtecpmnkgikcpnaaDoor.Base Go.Proofs.YtecpmnkgikcpnaaDoor.Dp Go.Proofs.YtecpmnkgikcpnaaDoor.DeciW Go.Proofs.YtecpmnkgikcpnaaDoor.Xp Go.Proofs.YtecpmnkgikcpnaaDoor.Hp Go.Proofs.YtecpmnkgikcpnaaDoor.XW

theorem sh_set7 {x : World} {b : Nat} {v0 v1 v2 v3 v4 v5 v6 v7 v8 v9 : Value} {t : TypeId} (h : x.heap[b]? = some (.cells #[v0, v1, v2, v3, v4, v5, v6, v7, v8, v9] t)) (u : Value) : (x.setCell ⟨b, 7, none⟩ u).heap[b]? = some (.cells #[v0, v1, v2, v3, v4, v5, v6, u, v8, v9] t) := here h 7 u
theorem row_form {w : World} {B : Nat} {e : TypeId} {sz n : Nat} {v : Value} {xs : List Value} (h : w.ownsRow B e sz v n xs) : ∃ p cap, v = .slice p n cap := by
  rcases h.2 with ⟨rfl, rfl⟩ | ⟨g, cap, cur, rfl, _⟩
  · exact ⟨_, _, rfl⟩
  · exact ⟨_, _, rfl⟩
theorem grown_block {W X w' : World} {row : Option Nat} {b : Nat} {o : Obj} (hX : Below W.heap.size W X) (hg : X.grownBy w' row) (h : W.heap[b]? = some o) (hne : row ≠ some b) : w'.heap[b]? = some o := by
  have h1 := one_below h hX
  exact (hg.block b (Array.getElem?_eq_some_iff.1 h1).1 (Ne.symm hne)).trans h1
theorem _root_.Go.Proofs.YtecpmnkgikcpnaaDoor.Hp.Fine.more {m : M} (hm : Fine m) (h : ¬ m.budget ≤ (m.sh.length : Int)) (s : Sh) : Fine { m with sh := m.sh ++ [s] } :=
  ⟨hm.b0, hm.b1, by show (((m.sh ++ [s]).length : Nat) : Int) ≤ m.budget; rw [List.length_append]; simp; omega, hm.x0, hm.x1, hm.y0, hm.y1⟩
/-- Of a plain shape, with another radius. -/
def SP (s : Sh) : Prop := ∀ g, Plain { s with r := g }
theorem sp_disc (x y : Int) : SP (discS x y 0) := fun g => .inl ⟨x, y, g, rfl⟩
theorem sp_line (x y p q : Int) : SP (lineS x y p q 0) := fun g => .inr ⟨x, y, p, q, g, rfl⟩

set_option maxRecDepth 100000 in
set_option maxHeartbeats 3200000 in
theorem add_c (B b r n : Nat) (m : M) (s : Sh) (hs : SP s) (w : World) (hB : B ≤ w.heap.size) (H : Hid (Mach B b r n m w)) (res : Except Nat M) (hres : Hid (addV m s = res)) :
    Calls Tryd.prog 84 #[.pointer (some ⟨b, 0, none⟩), .agg #[.int .i64 s.k, .int .i64 s.ax, .int .i64 s.ay, .int .i64 s.bx, .int .i64 s.bz, .int .i64 s.cx, .int .i64 s.cy, .int .i64 s.r, .slice none 0 0, .slice none 0 0]] w (fun e w' => MOut B b r n w res e w' ∧ Keep w w') := by
  obtain ⟨k, ax, ay, bx, bz, cx, cy, r0⟩ := s
  have HSP := Lib.hid hs
  have HBB := Lib.hid hB
  have HB1 : Hid (Below w.heap.size w (w.alloc (.cells #[.int .i64 k, .int .i64 ax, .int .i64 ay, .int .i64 bx, .int .i64 bz, .int .i64 cx, .int .i64 cy, .int .i64 r0, .slice none 0 0, .slice none 0 0] 33))) := (Below.refl _ _).alloc (Nat.le_refl _) _
  have HM1 : Hid (Mach B b r n m (w.alloc (.cells #[.int .i64 k, .int .i64 ax, .int .i64 ay, .int .i64 bx, .int .i64 bz, .int .i64 cx, .int .i64 cy, .int .i64 r0, .slice none 0 0, .slice none 0 0] 33))) := H.out.below HB1.out
  have HS1 : Hid ((w.alloc (.cells #[.int .i64 k, .int .i64 ax, .int .i64 ay, .int .i64 bx, .int .i64 bz, .int .i64 cx, .int .i64 cy, .int .i64 r0, .slice none 0 0, .slice none 0 0] 33)).heap[w.heap.size]? = some (.cells #[.int .i64 k, .int .i64 ax, .int .i64 ay, .int .i64 bx, .int .i64 bz, .int .i64 cx, .int .i64 cy, .int .i64 r0, .slice none 0 0, .slice none 0 0] 33)) := heap_alloc_new w _
  have HLT := Lib.hid H.out.lt
  clear hs hB
  go_enter Tryd.func84, Tryd.ntmps84
  go_upto_region 1 with fail
  generalize w.alloc (.cells #[.int .i64 k, .int .i64 ax, .int .i64 ay, .int .i64 bx, .int .i64 bz, .int .i64 cx, .int .i64 cy, .int .i64 r0, .slice none 0 0, .slice none 0 0] 33) = W at HB1 HM1 HS1 ⊢
  obtain ⟨sv, h1, h2⟩ := HM1.out.cells
  obtain ⟨_, _, _, _, _, _, _, c7, c8, _⟩ := mc_of h1
  have hlook := rad_look (w := W.drew) (HM1.out.rad.below ⟨rfl, rfl, rfl, Nat.le_refl _, fun _ _ => rfl⟩) m.tool HM1.out.t0 HM1.out.t1
  have f7 : W.frozen? ⟨w.heap.size, 7, none⟩ = false := by have h := HS1.out; simp [World.frozen?, h]
  obtain ⟨_, _, _, _, _, _, _, g7, _, _⟩ := nine_at HS1.out
  clear h1 h2
  go_region
  obtain ⟨v, hv⟩ : ∃ v, (m.rad m.tool).getD 0 = v := ⟨_, rfl⟩
  have hl := hres.out
  unfold addV at hl
  rw [hv] at hl ⊢
  have HB2 : Hid (Below w.heap.size w ((W.setCell ⟨w.heap.size, 7, none⟩ (.int .i64 v)).drew)) := (HB1.out.setCell (p := ⟨w.heap.size, 7, none⟩) (Nat.le_refl _) _).drew
  have HS2 : Hid (((W.setCell ⟨w.heap.size, 7, none⟩ (.int .i64 v)).drew).heap[w.heap.size]? = some (.cells #[.int .i64 k, .int .i64 ax, .int .i64 ay, .int .i64 bx, .int .i64 bz, .int .i64 cx, .int .i64 cy, .int .i64 v, .slice none 0 0, .slice none 0 0] 33)) := sh_set7 HS1.out _
  clear hlook f7 g7 c7 c8 HM1 HS1 HB1 hres hv
  generalize (W.setCell ⟨w.heap.size, 7, none⟩ (.int .i64 v)).drew = W2 at HB2 HS2 ⊢
  obtain ⟨g0, g1, g2, g3, g4, g5, g6, g7, g8, g9⟩ := nine_at HS2.out
  obtain ⟨bo, hbo⟩ : ∃ bo, okS ⟨k, ax, ay, bx, bz, cx, cy, v⟩ = bo := ⟨_, rfl⟩
  have HBO := Lib.hid hbo
  go_wp2_with fail
  refine (ok_c ⟨k, ax, ay, bx, bz, cx, cy, v⟩ (HSP.out v) bo HBO W2).mono ?_
  rintro e W3 ⟨rfl, hb3⟩
  have HS3 := Lib.hid (one_below HS2.out hb3)
  have HB3 := Lib.hid (HB2.out.trans (hb3.mono HB2.out.size))
  clear g0 g1 g2 g3 g4 g5 g6 g7 g8 g9 hb3 HS2 HB2 HBO
  cases bo with
  | false =>
    have HR : Hid (.error 5 = res) := by
      show _ = _
      rw [← hl]
      exact (if_pos hbo).symm
    clear hl hbo
    go_wp2_with fail
    go_ret
    rw [← HR.out]
    exact ⟨⟨HB3.out.mono HBB.out, rfl⟩, Keep.of_below HB3.out⟩
  | true =>
    have hl2 : (if m.budget ≤ (m.sh.length : Int) then Except.error 6 else Except.ok { m with sh := m.sh ++ [⟨k, ax, ay, bx, bz, cx, cy, v⟩] }) = res := by
      rw [← hl]
      exact (if_neg (show ¬ (okS ⟨k, ax, ay, bx, bz, cx, cy, v⟩ = false) by rw [hbo]; decide)).symm
    have HN0 := Lib.hid hbo
    have HM3 := Lib.hid (H.out.below HB3.out)
    obtain ⟨sv, h1, h2⟩ := HM3.out.cells
    obtain ⟨c0, c1, _⟩ := mc_of h1
    obtain ⟨p, cap, rfl⟩ := row_form h2
    have HH := Lib.hid h1
    have HO := Lib.hid h2
    have hlen : (m.sh.length : Int) ≤ 100000 := by have := HM3.out.fine.n; have := HM3.out.fine.b1; omega
    clear hl hbo h1 h2
    by_cases hbud : m.budget ≤ (m.sh.length : Int)
    · have HR : Hid (.error 6 = res) := by
        show _ = _
        rw [← hl2]
        exact (if_pos hbud).symm
      clear hl2
      go_wp2_with fail
      go_quiet (fail)
      go_wp2_with fail
      go_ret
      rw [← HR.out]
      exact ⟨⟨below_drewN (HB3.out.mono HBB.out) _, rfl⟩, Keep.of_below (below_drewN HB3.out _)⟩
    · have HR : Hid (.ok { m with sh := m.sh ++ [⟨k, ax, ay, bx, bz, cx, cy, v⟩] } = res) := by
        show _ = _
        rw [← hl2]
        exact (if_neg hbud).symm
      clear hl2
      go_wp2_with fail
      go_quiet (fail)
      go_upto_region 6 with fail
      generalize hW4 : W3.drewN _ = W4
      have HB4 : Hid (Below w.heap.size w W4) := by show Below _ _ _; rw [← hW4]; exact below_drewN HB3.out _
      have HS4 : Hid (W4.heap[w.heap.size]? = some (.cells #[.int .i64 k, .int .i64 ax, .int .i64 ay, .int .i64 bx, .int .i64 bz, .int .i64 cx, .int .i64 cy, .int .i64 v, .slice none 0 0, .slice none 0 0] 33)) := by show _ = _; rw [← hW4]; exact HS3.out
      have HH4 : Hid (W4.heap[b]? = some (mObj (.slice p m.sh.length cap) r m)) := by show _ = _; rw [← hW4]; exact HH.out
      have HO4 : Hid (W4.ownsRow B 33 10 (.slice p m.sh.length cap) m.sh.length (shsV m.sh)) := by show World.ownsRow _ _ _ _ _ _ _; rw [← hW4]; exact HO.out
      clear hW4 c0 c1 HB3 HS3 HH HO HM3
      obtain ⟨i0, hi, hz0, hz1, hz2⟩ := info_parts info_sh
      have HI := Lib.hid (And.intro hi (And.intro hz0 (And.intro hz1 hz2)))
      clear hi hz0 hz1 hz2
      obtain ⟨g0, g1, g2, g3, g4, g5, g6, g7, g8, g9⟩ := nine_at HS4.out
      obtain ⟨c0, _⟩ := mc_of HH4.out
      have hcf : ∀ i, W4.frozen? ⟨b, i, none⟩ = false := (mc_of HH4.out).f
      have hb0 := hcf 0
      have hnb : (Value.slice p m.sh.length cap).ownBlock ≠ some b := own_ne HO4.out HH4.out (by decide)
      have hbg : b < W4.heap.size := (Array.getElem?_eq_some_iff.1 HH4.out).1
      have hgg : w.heap.size < W4.heap.size := (Array.getElem?_eq_some_iff.1 HS4.out).1
      clear hcf
      go_region_law (first | ((refine step_append_lies _ (by rfl) _ _ _ (by rfl) B 33 i0 (.agg #[.int .i64 0, .int .i64 0, .int .i64 0, .int .i64 0, .int .i64 0, .int .i64 0, .int .i64 0, .int .i64 0, .slice none 0 0, .slice none 0 0]) 10 112 Tryd.underlying24 HI.out.1 HI.out.2.1 HI.out.2.2.1 HI.out.2.2.2 rfl (by omega) (.slice p m.sh.length cap) m.sh.length _ (by rfl) ((HO4.out.alloc _).drew) ⟨W4.heap.size, 0, none⟩ 1 1 [.int .i64 k, .int .i64 ax, .int .i64 ay, .int .i64 bx, .int .i64 bz, .int .i64 cx, .int .i64 cy, .int .i64 v, .slice none 0 0, .slice none 0 0] (by rfl) (by rfl) (World.news_of_block (cs := #[.int .i64 k, .int .i64 ax, .int .i64 ay, .int .i64 bx, .int .i64 bz, .int .i64 cx, .int .i64 cy, .int .i64 v, .slice none 0 0, .slice none 0 0]) (t := 33) (fr := (0, 0)) (heap_alloc_new W4 _)) (by simp [Value.oneCell']) (by omega) (by unfold maxLen; omega) (by omega) (by have := HBB.out; simp; omega) (W4.heap.size + 1) (by simp) ?_; intro gg cap2 w4 hown hgrow hat hltt; have q0 := grown_block (((Below.refl _ _).alloc (Nat.le_refl _) _).drew) hgrow HH4.out hnb; have q1 := (mc_of q0).c0; have q2 := (mc_of q0).f 0)) | fail)
      all_goals
        obtain ⟨hm, hbl⟩ := Mach.push (s := ⟨k, ax, ay, bx, bz, cx, cy, v⟩) (H.out.below HB4.out) HH4.out HO4.out (((Below.refl _ _).alloc (Nat.le_refl _) _).drew) hgrow hown (H.out.fine.more (by omega) _) (Nat.le_trans HBB.out HB4.out.size)
        have HF := Lib.hid (And.intro hm (And.intro ((HB4.out.mono HBB.out).trans hbl) ((Keep.of_below HB4.out).trans (keep_push (sv' := .slice (some ⟨gg, 0, none⟩) (m.sh.length + 1) cap2) HH4.out HO4.out (((Below.refl _ _).alloc (Nat.le_refl _) _).drew) hgrow))))
        clear hm hbl hown hgrow hat hltt q0 q1 q2 g0 g1 g2 g3 g4 g5 g6 g7 g8 g9 c0
        go_wp2_with fail
        go_ret
        rw [← HR.out]
        exact ⟨⟨HF.out.2.1, rfl, HF.out.1⟩, HF.out.2.2⟩
end Go.Proofs.YtecpmnkgikcpnaaDoor.HW
namespace Go.Proofs.YtecpmnkgikcpnaaDoor.HW
open Go.RowKit Go.Proofs.YtecpmnkgikcpnaaDoor.Base Go.Proofs.YtecpmnkgikcpnaaDoor.Dp Go.Proofs.YtecpmnkgikcpnaaDoor.DeciW Go.Proofs.YtecpmnkgikcpnaaDoor.Xp Go.Proofs.YtecpmnkgikcpnaaDoor.Hp Go.Proofs.YtecpmnkgikcpnaaDoor.XW
open Go.Proofs.YtecpmnkgikcpnaaDoor.UnitW (grain_at)

theorem RadAt.mono {w : World} {r n k : Nat} {rad : Int → Option Int} (h : RadAt w r n rad) (hk : n ≤ k) : RadAt w r k rad := by
  obtain ⟨D, h1, h2, h3⟩ := h
  exact ⟨D, h1.mono hk, h2, h3⟩
theorem Mach.mono {B b r n k : Nat} {m : M} {w : World} (h : Mach B b r n m w) (hk : n ≤ k) : Mach B b r k m w := ⟨h.bB, h.rB, h.cells, h.rad.mono hk, h.fine, h.t0, h.t1⟩
/-- A radius stored. -/
theorem rad_put {w : World} {r n : Nat} {rad : Int → Option Int} (h : RadAt w r n rad) (k g : Int) (h0 : 0 ≤ k) (h1 : k ≤ 9999) (g0 : -9223372036854775808 ≤ g) (g1 : g ≤ 9223372036854775807) (hn : n ≤ 1000000000) :
    ∃ w1, (Instr.mapUpdate 80 (.map (some r)) (.int .i64 k) (.int .i64 g)).run Tryd.prog w = .ok () w1 ∧ RadAt w1 r (n + 1) (fun j => if j = k then some g else rad j) ∧ w.grownBy w1 (some r) := by
  obtain ⟨D, hown, hD, h3⟩ := h
  have hk : (Lit.int .i64 k).wf = true := WalkArith.wf_i64 (by omega : -9223372036854775808 ≤ k ∧ k ≤ 9223372036854775807)
  have hg : (Lit.int .i64 g).wf = true := WalkArith.wf_i64 ⟨g0, g1⟩
  obtain ⟨w1, e, ho, hg1⟩ := hown.update (Maps.int_keyed Tryd.underlying3) Tryd.underlying80 (by unfold maxLen; omega) (Maps.keyOf_int_mk Tryd.underlying3 hk) (plainElem_int (H := Unit) Tryd.underlying2 hg)
  refine ⟨w1, e, ⟨_, ho, hD.put _ _, fun j => ?_⟩, hg1⟩
  have hik : WideAt.IsKeyLit (.int .i64 k) := trivial
  by_cases hj : j = k
  · subst hj
    rw [Maps.has_put_same hD hik, Maps.atKey_put_same hD hik]
    simp
  · have hne : (Lit.int .i64 j) ≠ .int .i64 k := by intro e; injection e with _ e; exact hj e
    rw [Maps.has_put_other hne, Maps.atKey_put_other hne]
    simp only [hj, if_false]
    exact h3 j
theorem Mach.put {B b r n : Nat} {m : M} {W w1 : World} {rad' : Int → Option Int} (h : Mach B b r n m W) (hr : RadAt w1 r (n + 1) rad') (hg : W.grownBy w1 (some r)) (hB : B ≤ W.heap.size) :
    Mach B b r (n + 1) { m with rad := rad' } w1 ∧ Below B W w1 := by
  obtain ⟨sv, h1, h2⟩ := h.cells
  obtain ⟨D, k1, _, _⟩ := h.rad
  obtain ⟨es, c, hes, _⟩ := k1
  have hne : r ≠ b := by
    intro e
    rw [e, h1] at hes
    cases hes
  refine ⟨⟨h.bB, h.rB, ⟨sv, ?_, ?_⟩, hr, ⟨h.fine.b0, h.fine.b1, h.fine.n, h.fine.x0, h.fine.x1, h.fine.y0, h.fine.y1⟩, h.t0, h.t1⟩, (Below.refl _ _).grown hg hB (fun k hk => by injection hk with hk; rw [← hk]; exact h.rB)⟩
  · exact (hg.block b (Array.getElem?_eq_some_iff.1 h1).1 (by intro e; injection e with e; exact hne e.symm)).trans h1
  · exact h2.kept hg (.inr (own_map h2 hes))
/-- A cell of the machine stored. -/
theorem Mach.upd {B b r n : Nat} {m : M} {w : World} (h : Mach B b r n m w) (m' : M) (i : Nat) (u : Value) (hc : ∀ sv, (mCells sv r m).setIfInBounds i u = mCells sv r m') (hs : m'.sh = m.sh) (hr : m'.rad = m.rad) (hf : Fine m') (h0 : 0 ≤ m'.tool) (h1 : m'.tool ≤ 9999) :
    Mach B b r n m' (w.setCell ⟨b, i, none⟩ u) ∧ Below B w (w.setCell ⟨b, i, none⟩ u) := by
  obtain ⟨sv, k1, k2⟩ := h.cells
  have hgs : w.grownBy (w.setCell ⟨b, i, none⟩ u) (some b) := ⟨rfl, rfl, rfl, by simp [World.setCell], fun k hk hne => Below.heap_setCell _ _ _ _ (by show k ≠ b; intro e; exact hne (by rw [e]))⟩
  refine ⟨⟨h.bB, h.rB, ⟨sv, ?_, ?_⟩, ?_, hf, h0, h1⟩, (Below.refl _ _).setCell (p := ⟨b, i, none⟩) h.bB _⟩
  · rw [here k1 i u, hc sv]
  · rw [hs]
    exact k2.kept hgs (.inr (own_ne k2 k1 (by decide)))
  · obtain ⟨D, d1, d2, d3⟩ := h.rad
    rw [hr]
    refine ⟨D, d1.kept hgs ?_, d2, d3⟩
    intro e
    injection e with e
    obtain ⟨es, c, hes, _⟩ := d1
    rw [e, k1] at hes
    cases hes
theorem _root_.Go.Proofs.YtecpmnkgikcpnaaDoor.Hp.Fine.same {m m' : M} (h : Fine m) (hb : m'.budget = m.budget) (hs : m'.sh = m.sh) (hx : m'.x = m.x) (hy : m'.y = m.y) : Fine m' :=
  ⟨by rw [hb]; exact h.b0, by rw [hb]; exact h.b1, by rw [hb, hs]; exact h.n, by rw [hx]; exact h.x0, by rw [hx]; exact h.x1, by rw [hy]; exact h.y0, by rw [hy]; exact h.y1⟩
theorem get_head {l : List Int} (h : 0 < l.length) : l[0] = l.headD 0 := by
  cases l with
  | nil => simp at h
  | cons _ _ => rfl
theorem grain_pos {z u g : Int} (h : Up.grainV z u = some g) (hz : 0 < z) : 0 ≤ g := by
  unfold Up.grainV at h
  split at h
  · rename_i hc
    injection h with h
    have := Up.per_pos hc.2.1
    rw [← h]
    exact Int.mul_nonneg (by omega) (by omega)
  · cases h
/-- What is known of a command that is executed. -/
structure Cd (c : D) : Prop where
  n0 : 0 ≤ c.n
  n1 : c.n ≤ 9999
  x : c.x.length ≤ 1000000
  y : c.y.length ≤ 1000000
  u : c.u.length ≤ 1000000
  v : c.v.length ≤ 1000000
  l : c.nums.length ≤ 1000000
  z : ∀ z ∈ c.nums, -1000000000000 < z ∧ z < 1000000000000

set_option maxRecDepth 100000 in
set_option maxHeartbeats 3200000 in
theorem define_c (B b r n : Nat) (m : M) (c : D) (hc : Hid (Cd c)) (a : Int) (p : Option Addr) (cap Bn : Nat) (w : World) (hB : B ≤ w.heap.size) (hn : n ≤ 1000000000) (HN : Hid (NumsIn Bn w p c.nums)) (H : Hid (Mach B b r n m w)) (res : Except Nat M) (hres : Hid (defV m c = res)) :
    Calls Tryd.prog 68 #[.pointer (some ⟨b, 0, none⟩), drVal c a (.slice p c.nums.length cap)] w (MOut B b r (n + 1) w res) := by
  have HBB := Lib.hid hB
  have HNN := Lib.hid hn
  have HB1 : Hid (Below w.heap.size w (w.alloc (drObj c a (.slice p c.nums.length cap)))) := (Below.refl _ _).alloc (Nat.le_refl _) _
  have HS1 : Hid ((w.alloc (drObj c a (.slice p c.nums.length cap))).heap[w.heap.size]? = some (drObj c a (.slice p c.nums.length cap))) := heap_alloc_new w _
  have hl := hres.out
  unfold defV at hl
  clear hB hn hres
  go_enter Tryd.func68, Tryd.ntmps68
  go_upto_region 1 with fail
  generalize w.alloc _ = W at HB1 HS1 ⊢
  have HM1 := Lib.hid (H.out.below HB1.out)
  have HN1 := Lib.hid (HN.out.below HB1.out)
  obtain ⟨sv, h1, h2⟩ := HM1.out.cells
  obtain ⟨_, _, _, c3, _, _, _, c7, _⟩ := mc_of h1
  obtain ⟨⟨_, _, d2, _, _, _, _, _, _, d9⟩, _⟩ := dr_at HS1.out
  have hlook := rad_look2 (w := W.drew) (HM1.out.rad.below ⟨rfl, rfl, rfl, Nat.le_refl _, fun _ _ => rfl⟩) c.n hc.out.n0 hc.out.n1
  obtain ⟨q, hq⟩ : ∃ q, m.rad c.n = q := ⟨_, rfl⟩
  rw [hq] at hl hlook
  clear h1 h2
  go_region
  clear hlook c3 c7 d2 d9
  have HB2 : Hid (Below w.heap.size w W.drew) := HB1.out.drew
  have HS2 : Hid (W.drew.heap[w.heap.size]? = some (drObj c a (.slice p c.nums.length cap))) := HS1.out
  have HM2 : Hid (Mach B b r n m W.drew) := HM1.out.below ⟨rfl, rfl, rfl, Nat.le_refl _, fun _ _ => rfl⟩
  have HN2 : Hid (NumsIn Bn W.drew p c.nums) := HN1.out.below ⟨rfl, rfl, rfl, Nat.le_refl _, fun _ _ => rfl⟩
  clear HM1 HN1 HB1 HS1
  generalize W.drew = W2 at HB2 HS2 HM2 HN2 ⊢
  obtain ⟨sv, h1, _⟩ := HM2.out.cells
  obtain ⟨_, _, _, c3, _, _, _, c7, _⟩ := mc_of h1
  obtain ⟨⟨_, _, d2, _, _, _, _, _, _, d9⟩, _⟩ := dr_at HS2.out
  clear h1
  by_cases hu : m.u = 0
  · have hub : (m.u == 0) = true := beq_iff_eq.2 hu
    have HR : Hid (.error 4 = res) := by show _ = _; rw [← hl]; exact (if_pos (.inl hu)).symm
    clear hl hu
    go_wp2_with fail
    go_ret
    rw [← HR.out]
    exact ⟨HB2.out.mono HBB.out, rfl⟩
  · have hub : (m.u == 0) = false := beq_eq_false_iff_ne.2 hu
    cases q with
    | some q =>
      have HR : Hid (.error 4 = res) := by show _ = _; rw [← hl]; exact (if_pos (.inr (.inl rfl))).symm
      clear hl hu hq
      go_wp2_with fail
      go_ret
      rw [← HR.out]
      exact ⟨HB2.out.mono HBB.out, rfl⟩
    | none =>
      by_cases h0 : c.nums.length = 0
      · have hlb : ((c.nums.length : Int) == 0) = true := by rw [beq_iff_eq]; omega
        have HR : Hid (.error 4 = res) := by show _ = _; rw [← hl]; exact (if_pos (.inr (.inr (.inl h0)))).symm
        clear hl hu hq h0
        go_wp2_with fail
        go_ret
        rw [← HR.out]
        exact ⟨HB2.out.mono HBB.out, rfl⟩
      · have hlb : ((c.nums.length : Int) == 0) = false := by rw [beq_eq_false_iff_ne]; omega
        have hlp : 0 < c.nums.length := by omega
        obtain ⟨b2, o2, cs, rfl, _, hh, hcs⟩ := HN2.out hlp
        obtain ⟨z, hz⟩ : ∃ z, c.nums.headD 0 = z := ⟨_, rfl⟩
        have hz0 : c.nums[0] = z := (get_head hlp).trans hz
        have HZB : Hid (-1000000000000 < z ∧ z < 1000000000000) := hc.out.z z (by rw [← hz0]; exact List.getElem_mem _)
        have zc : W2.cell? ⟨b2, o2, none⟩ = some (.int .i64 z) := by
          have := hcs 0 hlp
          rw [hz0, Nat.add_zero] at this
          simp [World.cell?, hh, this]
        rw [hz] at hl
        clear hh hcs hz hz0
        by_cases hz1 : z ≤ 0
        · have HR : Hid (.error 4 = res) := by show _ = _; rw [← hl]; exact (if_pos (.inr (.inr (.inr hz1)))).symm
          clear hl hu hq h0
          go_wp2_with fail
          go_ret
          rw [← HR.out]
          exact ⟨HB2.out.mono HBB.out, rfl⟩
        · rw [if_neg (by rintro (e | e | e | e); exact hu e; cases e; exact h0 e; exact hz1 e)] at hl
          obtain ⟨o, ho⟩ : ∃ o, Up.grainV z m.u = o := ⟨_, rfl⟩
          have HG : Hid ((Up.grainV z m.u).getD 0 = o.getD 0 ∧ (Up.grainV z m.u).isSome = o.isSome) := by rw [ho]; exact ⟨rfl, rfl⟩
          rw [ho] at hl
          have HGO := Lib.hid ho
          clear ho hu hq h0
          go_upto_region 4 with fail
          go_quiet ((go_at_call 82; exact Calls.quiet_of_same ((grain_at z m.u _ _ HG _).mono fun _ _ h => ⟨h.1, h.2.symm⟩)))
          have HB3 : Hid (Below w.heap.size w (W2.drewN nq)) := below_drewN HB2.out _
          have HS3 : Hid ((W2.drewN nq).heap[w.heap.size]? = some (drObj c a (.slice (some ⟨b2, o2, none⟩) c.nums.length cap))) := HS2.out
          have HM3 : Hid (Mach B b r n m (W2.drewN nq)) := HM2.out.below ⟨rfl, rfl, rfl, Nat.le_refl _, fun _ _ => rfl⟩
          clear HM2 HN2 HB2 HS2 zc c3 c7 d2 d9
          generalize W2.drewN nq = W3 at HB3 HS3 HM3 ⊢
          cases o with
          | none =>
            have HR : Hid (.error 5 = res) := hl
            clear hl
            go_wp2_with fail
            go_ret
            rw [← HR.out]
            exact ⟨HB3.out.mono HBB.out, rfl⟩
          | some g =>
            have hg0 := grain_pos HGO.out (by omega)
            have hg1 := (grain_near HGO.out).2
            by_cases h2 : g % 2 = 0
            · have h2b : ((g % 2) != 0) = false := by rw [bne_eq_false_iff_eq]; exact h2
              have HR : Hid (.ok { m with rad := fun j => if j = c.n then some (g / 2) else m.rad j } = res) := by
                show _ = _
                rw [← hl]
                exact (if_neg (by omega)).symm
              clear hl h2
              obtain ⟨sv, h1, _⟩ := HM3.out.cells
              obtain ⟨_, _, _, _, _, _, _, c7, _⟩ := mc_of h1
              obtain ⟨⟨_, _, d2, _, _, _, _, _, _, _⟩, _⟩ := dr_at HS3.out
              have HMD : Hid (Mach B b r n m W3.drew) := HM3.out.below ⟨rfl, rfl, rfl, Nat.le_refl _, fun _ _ => rfl⟩
              obtain ⟨w1, hU, hr1, hg3⟩ := rad_put HMD.out.rad c.n (g / 2) hc.out.n0 hc.out.n1 (by omega) (by omega) HNN.out
              obtain ⟨hm1, hb1⟩ := HMD.out.put hr1 hg3 (Nat.le_trans HBB.out HB3.out.size)
              have HF : Hid (Mach B b r (n + 1) { m with rad := fun j => if j = c.n then some (g / 2) else m.rad j } w1 ∧ Below B w w1) := ⟨hm1, ((HB3.out.drew).mono HBB.out).trans hb1⟩
              clear h1 hr1 hg3 hm1 hb1
              go_upto_region 9 with fail
              go_region
              go_wp2_with fail
              go_ret
              rw [← HR.out]
              exact ⟨HF.out.2, rfl, HF.out.1⟩
            · have h2b : ((g % 2) != 0) = true := by rw [bne_iff_ne]; exact h2
              have HR : Hid (.error 7 = res) := by
                show _ = _
                rw [← hl]
                exact (if_pos (by omega)).symm
              clear hl h2
              go_wp2_with fail
              go_ret
              rw [← HR.out]
              exact ⟨HB3.out.mono HBB.out, rfl⟩
end Go.Proofs.YtecpmnkgikcpnaaDoor.HW
namespace Go.Proofs.YtecpmnkgikcpnaaDoor.HW
open Go.RowKit Go.Proofs.YtecpmnkgikcpnaaDoor.Base Go.Proofs.YtecpmnkgikcpnaaDoor.Dp Go.Proofs.YtecpmnkgikcpnaaDoor.DeciW Go.Proofs.YtecpmnkgikcpnaaDoor.Xp Go.Proofs.YtecpmnkgikcpnaaDoor.Hp Go.Proofs.YtecpmnkgikcpnaaDoor.XW

/-- Four cells of the machine stored: its format. -/
theorem Mach.fmt {B b r n : Nat} {m : M} {w : World} (h : Mach B b r n m w) (u i d : Int) (t : Bool) :
    Mach B b r n { m with u := u, i := i, d := d, t := t } ((((w.setCell ⟨b, 3, none⟩ (.int .i64 u)).setCell ⟨b, 4, none⟩ (.int .i64 i)).setCell ⟨b, 5, none⟩ (.int .i64 d)).setCell ⟨b, 6, none⟩ (.bool t)) ∧ Below B w ((((w.setCell ⟨b, 3, none⟩ (.int .i64 u)).setCell ⟨b, 4, none⟩ (.int .i64 i)).setCell ⟨b, 5, none⟩ (.int .i64 d)).setCell ⟨b, 6, none⟩ (.bool t)) := by
  have f := h.fine
  obtain ⟨h1, b1⟩ := h.upd { m with u := u } 3 (.int .i64 u) (fun sv => rfl) rfl rfl (f.same rfl rfl rfl rfl) h.t0 h.t1
  obtain ⟨h2, b2⟩ := h1.upd { m with u := u, i := i } 4 (.int .i64 i) (fun sv => rfl) rfl rfl (f.same rfl rfl rfl rfl) h.t0 h.t1
  obtain ⟨h3, b3⟩ := h2.upd { m with u := u, i := i, d := d } 5 (.int .i64 d) (fun sv => rfl) rfl rfl (f.same rfl rfl rfl rfl) h.t0 h.t1
  obtain ⟨h4, b4⟩ := h3.upd { m with u := u, i := i, d := d, t := t } 6 (.bool t) (fun sv => rfl) rfl rfl (f.same rfl rfl rfl rfl) h.t0 h.t1
  exact ⟨h4, ((b1.trans b2).trans b3).trans b4⟩
theorem Mach.fmt2 {B b r n : Nat} {m : M} {w : World} (h : Mach B b r n m w) (i d : Int) :
    Mach B b r n { m with i := i, d := d } ((w.setCell ⟨b, 4, none⟩ (.int .i64 i)).setCell ⟨b, 5, none⟩ (.int .i64 d)) ∧ Below B w ((w.setCell ⟨b, 4, none⟩ (.int .i64 i)).setCell ⟨b, 5, none⟩ (.int .i64 d)) := by
  have f := h.fine
  obtain ⟨h2, b2⟩ := h.upd { m with i := i } 4 (.int .i64 i) (fun sv => rfl) rfl rfl (f.same rfl rfl rfl rfl) h.t0 h.t1
  obtain ⟨h3, b3⟩ := h2.upd { m with i := i, d := d } 5 (.int .i64 d) (fun sv => rfl) rfl rfl (f.same rfl rfl rfl rfl) h.t0 h.t1
  exact ⟨h3, b2.trans b3⟩
theorem Mach.stg {B b r n : Nat} {m : M} {w : World} (h : Mach B b r n m w) (s : Int) : Mach B b r n { m with stage := s } (w.setCell ⟨b, 2, none⟩ (.int .i64 s)) ∧ Below B w (w.setCell ⟨b, 2, none⟩ (.int .i64 s)) :=
  h.upd { m with stage := s } 2 (.int .i64 s) (fun sv => rfl) rfl rfl (h.fine.same rfl rfl rfl rfl) h.t0 h.t1
theorem Mach.drop {B b r n : Nat} {m : M} {w w' : World} (h : Mach B b r n m w) : Mach B b r (n + 1) m w := h.mono (Nat.le_succ _)

set_option maxRecDepth 100000 in
set_option maxHeartbeats 3200000 in
theorem header_c (B b r n : Nat) (m : M) (c : D) (hc : Hid (Cd c)) (a : Int) (p : Option Addr) (cap Bn : Nat) (w : World) (hB : B ≤ w.heap.size) (hn : n ≤ 1000000000) (HN : Hid (NumsIn Bn w p c.nums)) (H : Hid (Mach B b r n m w)) (res : Except Nat M) (hres : Hid (headV m c = res)) :
    Calls Tryd.prog 53 #[.pointer (some ⟨b, 0, none⟩), drVal c a (.slice p c.nums.length cap)] w (MOut B b r (n + 1) w res) := by
  have HBB := Lib.hid hB
  have HB1 : Hid (Below w.heap.size w (w.alloc (drObj c a (.slice p c.nums.length cap)))) := (Below.refl _ _).alloc (Nat.le_refl _) _
  have HS1 : Hid ((w.alloc (drObj c a (.slice p c.nums.length cap))).heap[w.heap.size]? = some (drObj c a (.slice p c.nums.length cap))) := heap_alloc_new w _
  have HNN := Lib.hid hn
  have hl := hres.out
  unfold headV at hl
  clear hB hres hn
  go_enter Tryd.func53, Tryd.ntmps53
  go_upto_region 1 with fail
  generalize w.alloc _ = W at HB1 HS1 ⊢
  have HM1 := Lib.hid (H.out.below HB1.out)
  have HN1 := Lib.hid (HN.out.below HB1.out)
  obtain ⟨sv, h1, _⟩ := HM1.out.cells
  obtain ⟨_, _, c2, c3, c4, c5, c6, _⟩ := mc_of h1
  have hf := (mc_of h1).f
  have f2 := hf 2
  have f3 := hf 3
  have f4 := hf 4
  have f5 := hf 5
  have f6 := hf 6
  obtain ⟨⟨d0, d1, d2, d3, d4, d5, d6, d7, d8, d9⟩, _⟩ := dr_at HS1.out
  clear h1 hf
  by_cases k3 : c.k = 3
  · rw [if_pos k3] at hl
    have k3b : (c.k == 3) = true := beq_iff_eq.2 k3
    clear k3
    by_cases hu : m.u = 0
    · have hub : (m.u != 0) = false := by rw [bne_eq_false_iff_eq]; exact hu
      rw [if_neg (by omega)] at hl
      have HR := Lib.hid hl
      have hF := HM1.out.fmt c.n 3 3 (!c.on)
      have HF := Lib.hid hF
      clear hu hl hF
      go_upto_region 6 with fail
      clear d0 d1 d3 d4 d5 d6 d7 d8 d9 c2 c3 c4 c5 c6 f2 f3 f4 f5 f6
      have HB2 := Lib.hid ((HB1.out.mono HBB.out).trans HF.out.2)
      have HM2 := Lib.hid HF.out.1
      have HS2 : Hid (((((W.setCell ⟨b, 3, none⟩ (.int .i64 c.n)).setCell ⟨b, 4, none⟩ (.int .i64 3)).setCell ⟨b, 5, none⟩ (.int .i64 3)).setCell ⟨b, 6, none⟩ (.bool (!c.on))).heap[w.heap.size]? = some (drObj c a (.slice p c.nums.length cap))) := by
        show _ = _
        have hne : w.heap.size ≠ b := by have := H.out.lt.1; omega
        rw [Below.heap_setCell _ _ _ _ hne, Below.heap_setCell _ _ _ _ hne, Below.heap_setCell _ _ _ _ hne, Below.heap_setCell _ _ _ _ hne]
        exact HS1.out
      clear d2 HF HM1 HN1 HS1 HB1
      generalize ((((W.setCell ⟨b, 3, none⟩ (.int .i64 c.n)).setCell ⟨b, 4, none⟩ (.int .i64 3)).setCell ⟨b, 5, none⟩ (.int .i64 3)).setCell ⟨b, 6, none⟩ (.bool (!c.on))) = W2 at HB2 HM2 HS2 ⊢
      obtain ⟨⟨_, _, d2, _⟩, _⟩ := dr_at HS2.out
      by_cases h2 : c.n = 2
      · have h2b : (c.n == 2) = true := beq_iff_eq.2 h2
        obtain ⟨sv, h1, _⟩ := HM2.out.cells
        obtain ⟨_, _, c2, c3, c4, c5, c6, _⟩ := mc_of h1
        have hf := (mc_of h1).f
        have f4 := hf 4
        have f5 := hf 5
        have HF := Lib.hid (HM2.out.fmt2 2 4)
        have HR2 : Hid (.ok { m with u := c.n, i := 2, d := 4, t := !c.on } = res) := by
          show _ = _
          rw [← HR.out, if_pos h2, if_pos h2]
        clear h2 h1 hf HR
        go_wp2_with fail
        go_ret
        rw [← HR2.out]
        exact ⟨HB2.out.trans HF.out.2, rfl, HF.out.1.mono (Nat.le_succ _)⟩
      · have h2b : (c.n == 2) = false := beq_eq_false_iff_ne.2 h2
        have HR2 : Hid (.ok { m with u := c.n, i := 3, d := 3, t := !c.on } = res) := by
          show _ = _
          rw [← HR.out, if_neg h2, if_neg h2]
        clear h2 HR
        go_wp2_with fail
        go_ret
        rw [← HR2.out]
        exact ⟨HB2.out, rfl, HM2.out.mono (Nat.le_succ _)⟩
    · have hub : (m.u != 0) = true := by rw [bne_iff_ne]; exact hu
      rw [if_pos hu] at hl
      have HR := Lib.hid hl
      clear hu hl
      go_wp2_with fail
      go_ret
      rw [← HR.out]
      exact ⟨HB1.out.mono HBB.out, rfl⟩
  · rw [if_neg k3] at hl
    have k3b : (c.k == 3) = false := beq_eq_false_iff_ne.2 k3
    clear k3
    by_cases k4 : c.k = 4
    · rw [if_pos k4] at hl
      have k4b : (c.k == 4) = true := beq_iff_eq.2 k4
      have HR := Lib.hid hl
      clear k4 hl c2 c3 c4 c5 c6 f2 f3 f4 f5 f6
      go_wp2_with fail
      refine (define_c B b r n m c hc a p cap Bn W (Nat.le_trans HBB.out HB1.out.size) HNN.out HN1 HM1 res HR).mono ?_
      cases res with
      | error k =>
        rintro e w' ⟨hb, rfl⟩
        have HBE := Lib.hid ((HB1.out.mono HBB.out).trans hb)
        clear hb
        go_wp2_with fail
        go_ret
        exact ⟨HBE.out, rfl⟩
      | ok m' =>
        rintro e w' ⟨hb, rfl, hm⟩
        have HBE := Lib.hid ((HB1.out.mono HBB.out).trans hb)
        have HME := Lib.hid hm
        clear hb hm
        go_wp2_with fail
        go_ret
        exact ⟨HBE.out, rfl, HME.out⟩
    · rw [if_neg k4] at hl
      have k4b : (c.k == 4) = false := beq_eq_false_iff_ne.2 k4
      clear k4
      by_cases k5 : c.k = 5
      · rw [if_pos k5] at hl
        have k5b : (c.k == 5) = true := beq_iff_eq.2 k5
        clear k5
        by_cases hu : m.u = 0
        · have hub : (m.u == 0) = true := beq_iff_eq.2 hu
          rw [if_pos hu] at hl
          have HR := Lib.hid hl
          clear hu hl
          go_wp2_with fail
          go_ret
          rw [← HR.out]
          exact ⟨HB1.out.mono HBB.out, rfl⟩
        · have hub : (m.u == 0) = false := beq_eq_false_iff_ne.2 hu
          rw [if_neg hu] at hl
          have HR := Lib.hid hl
          have hF := HM1.out.stg 2
          have HF := Lib.hid hF
          clear hu hl hF
          go_wp2_with fail
          go_ret
          rw [← HR.out]
          exact ⟨(HB1.out.mono HBB.out).trans HF.out.2, rfl, HF.out.1.mono (Nat.le_succ _)⟩
      · rw [if_neg k5] at hl
        have k5b : (c.k == 5) = false := beq_eq_false_iff_ne.2 k5
        have HR := Lib.hid hl
        clear k5 hl
        go_wp2_with fail
        go_ret
        rw [← HR.out]
        exact ⟨HB1.out.mono HBB.out, rfl⟩
end Go.Proofs.YtecpmnkgikcpnaaDoor.HW
