/-
  Proved: with noughts left out ahead, or behind, the same digits are the same place, for every format and every coordinate (heliographlaw3.UnitTrails returns true). Conditions: the row's own (the package-level tables read as the program's text lays them, tied by the card).
-/
import Derived.Test.YtmclabehdjdpnaaDoorUnitA
import Derived.Test.YtmclabehdjdpnaaDoorUq
import Derived.ProofKit
import Derived.Lib.SmallJoins
namespace Go.Proofs.YtmclabehdjdpnaaDoor.UnitTrails
open Go.ChangeShapes Go.WideShapes Go.ChangeAt Go.WideMaps Go.WideElems Go.RowKit
open Go.ChangeMaps (open_string)
open Go.Joins
open Go.Proofs.YtmclabehdjdpnaaDoor.Dp Go.Proofs.YtmclabehdjdpnaaDoor.Base Go.Proofs.YtmclabehdjdpnaaDoor.DeciW Go.Proofs.YtmclabehdjdpnaaDoor.Up Go.Proofs.YtmclabehdjdpnaaDoor.UnitW

/-- A format lies there. -/
structure FmtAt (w : World) (b : Nat) (u i d : Int) (t : Bool) : Prop where
  c0 : w.cell? ⟨b, 0, none⟩ = some (.int .i64 u)
  c1 : w.cell? ⟨b, 1, none⟩ = some (.int .i64 i)
  c2 : w.cell? ⟨b, 2, none⟩ = some (.int .i64 d)
  c3 : w.cell? ⟨b, 3, none⟩ = some (.bool t)
  z0 : w.frozen? ⟨b, 0, none⟩ = false
  z1 : w.frozen? ⟨b, 1, none⟩ = false
  z2 : w.frozen? ⟨b, 2, none⟩ = false
  z3 : w.frozen? ⟨b, 3, none⟩ = false
theorem fmtAt_heap {w : World} {b : Nat} {u i d : Int} {t : Bool} (h : w.heap[b]? = some (fmtObj u i d t)) : FmtAt w b u i d t := by
  refine ⟨?_, ?_, ?_, ?_, ?_, ?_, ?_, ?_⟩ <;> simp [World.cell?, World.frozen?, h]
theorem heap_set {w : World} {b : Nat} {u i d U I D : Int} {t T : Bool} (h : w.heap[b]? = some (fmtObj u i d t)) :
    ((((w.setCell ⟨b, 0, none⟩ (.int .i64 U)).setCell ⟨b, 1, none⟩ (.int .i64 I)).setCell ⟨b, 2, none⟩ (.int .i64 D)).setCell ⟨b, 3, none⟩ (.bool T)).heap[b]? = some (fmtObj U I D T) := by
  have e (v : World) (b : Nat) (c : Array Value) (k : TypeId) (o : Nat) (x : Value) (h : v.heap[b]? = some (.cells c k)) : (v.setCell ⟨b, o, none⟩ x).heap[b]? = some (.cells (c.setIfInBounds o x) k) := by
    show (Array.modify _ _ _)[b]? = _
    rw [Array.getElem?_modify, if_pos rfl, h]; rfl
  exact e _ _ _ _ _ _ (e _ _ _ _ _ _ (e _ _ _ _ _ _ (e _ _ _ _ _ _ h)))

theorem opt_of {α : Type} {o : Option α} {d x : α} (h : Hid (o.getD d = x ∧ o.isSome = true)) : o = some x := by
  cases o with
  | none => exact absurd h.out.2 (by simp)
  | some y => rw [← h.out.1]; rfl
theorem two_alloc {w : World} {b : Nat} {o p q : Obj} (h : w.heap[b]? = some o) : (((w.alloc p).alloc q).drew).heap[b]? = some o := by
  have hl := (Array.getElem?_eq_some_iff.1 h).1
  show ((w.heap.push p).push q)[b]? = _
  rw [Array.getElem?_push, if_neg (by simp; omega), Array.getElem?_push, if_neg (by omega), h]
theorem two_allocA {w : World} {p q : Obj} : (((w.alloc p).alloc q).drew).heap[w.heap.size]? = some p := by
  show ((w.heap.push p).push q)[w.heap.size]? = _
  rw [Array.getElem?_push, if_neg (by simp), Array.getElem?_push, if_pos rfl]
theorem two_allocB {w : World} {p q : Obj} : (((w.alloc p).alloc q).drew).heap[w.heap.size + 1]? = some q := by
  show ((w.heap.push p).push q)[w.heap.size + 1]? = _
  rw [Array.getElem?_push, if_pos (by simp)]
theorem heap_other (w : World) (m o : Nat) (x : Value) {b : Nat} (h : b ≠ m) : (w.setCell ⟨m, o, none⟩ x).heap[b]? = w.heap[b]? := Below.heap_setCell w _ x b h
theorem heap_same {w : World} {b : Nat} {u i d : Int} {t T : Bool} (h : w.heap[b]? = some (fmtObj u i d t)) : (w.setCell ⟨b, 3, none⟩ (.bool T)).heap[b]? = some (fmtObj u i d T) := by
  show (Array.modify _ _ _)[b]? = _
  rw [Array.getElem?_modify, if_pos rfl, h]; rfl
/-- The format and its two copies. -/
structure Tri (w : World) (b m k : Nat) (u i d : Int) (t : Bool) : Prop where
  o : w.heap[b]? = some (fmtObj u i d t)
  m : w.heap[m]? = some (fmtObj u i d false)
  k : w.heap[k]? = some (fmtObj u i d true)
theorem Tri.below {w v : World} {b m k : Nat} {u i d : Int} {t : Bool} (h : Tri w b m k u i d t) (hb : Below w.heap.size w v) : Tri v b m k u i d t :=
  ⟨(hb.block b (Array.getElem?_eq_some_iff.1 h.o).1).trans h.o, (hb.block m (Array.getElem?_eq_some_iff.1 h.m).1).trans h.m, (hb.block k (Array.getElem?_eq_some_iff.1 h.k).1).trans h.k⟩

set_option maxRecDepth 100000 in
set_option maxHeartbeats 800000 in
theorem walk (u i d : Int) (t : Bool) (n : Int) (w : World) (hT : Tab w) :
    Calls Tryd.prog 11 #[fmtVal u i d t, .int .i64 n] w fun e w' => e = .returned (.bool true) ∧ Below w.heap.size w w' := by
  obtain ⟨U, I, D, hF, hTame⟩ := tame_ex u i d t
  have hF' := (fmtOk_iff _ _ _).1 hF
  obtain ⟨hU, hI0, hI6, hD0, hD6, hID⟩ := hF'
  have HF := Lib.hid hF
  have HTame := Lib.hid hTame
  have HU := Lib.hid hU
  clear hF hTame hU hI0 hD0
  obtain ⟨r, hr⟩ : ∃ r, n.tmod 1000 = r := ⟨_, rfl⟩
  have hr0 : -1000 < r := by rw [← hr]; have := Int.lt_tmod_of_pos n (show (0 : Int) < 1000 by decide); simpa using this
  have hr1 : r < 1000 := by rw [← hr]; exact Int.tmod_lt_of_pos n (by decide)
  go_enter Tryd.func11, Tryd.ntmps11
  go_wp2_with fail
  with_reducible refine (HTame.out _).mono ?_
  rintro e w1 ⟨rfl, hb1⟩
  have hbel : Below w.heap.size w w1 := ((Below.refl _ _).alloc (Nat.le_refl _) _).trans (hb1.mono (by simp))
  have hsz : w.heap.size < w1.heap.size := by have := hb1.size; simp at this; omega
  have hB := hb1.block w.heap.size (by simp)
  have hB' : w1.heap[w.heap.size]? = some (fmtObj u i d t) := hB.trans (by show (w.heap.push _)[w.heap.size]? = _; simp)
  obtain ⟨c0, c1, c2, c3, z0, z1, z2, z3⟩ := fmtAt_heap hB'
  have HB := Lib.hid hB'
  clear hb1
  clear hB hB'
  go_upto_region 2 with fail
  obtain ⟨W2, hW2⟩ : ∃ x, ((((w1.setCell { block := w.heap.size, off := 0 } (Value.int IntKind.i64 U)).setCell { block := w.heap.size, off := 1 } (Value.int IntKind.i64 ↑I)).setCell { block := w.heap.size, off := 2 } (Value.int IntKind.i64 ↑D)).setCell { block := w.heap.size, off := 3 } (Value.bool t)) = x := ⟨_, rfl⟩
  have hbel2 : Below w.heap.size w W2 := by rw [← hW2]; exact (((hbel.setCell (Nat.le_refl _) _).setCell (Nat.le_refl _) _).setCell (Nat.le_refl _) _).setCell (Nat.le_refl _) _
  have hsz2 : w.heap.size < W2.heap.size := by rw [← hW2]; simpa [World.setCell] using hsz
  have hF2 : W2.heap[w.heap.size]? = some (fmtObj U I D t) := by rw [← hW2]; exact heap_set HB.out
  rw [hW2]
  clear hW2 c0 c1 c2 c3 z0 z1 z2 z3 hbel hsz
  obtain ⟨c0, c1, c2, c3, z0, z1, z2, z3⟩ := fmtAt_heap hF2
  have HF2 := Lib.hid hF2
  clear hF2
  go_cut [5, 6] (fun a b wx => ∃ m n : Nat, m ≠ n ∧ w.heap.size < m ∧ w.heap.size < n ∧ a = .pointer (some ⟨m, 0, none⟩) ∧ b = .pointer (some ⟨n, 0, none⟩) ∧ wx.heap[w.heap.size]? = some (fmtObj U I D t) ∧ wx.heap[m]? = some (fmtObj U I D t) ∧ wx.heap[n]? = some (fmtObj U I D t) ∧ Below w.heap.size w wx)
  case first =>
    go_region
    all_goals go_wp2_with fail
    all_goals go_meet
    · exact ⟨W2.heap.size, W2.heap.size + 1, by omega, hsz2, by omega, rfl, rfl, two_alloc HF2.out, two_allocA, two_allocB, (((hbel2.alloc (by omega) _).alloc (by simp; omega) _)).drew⟩
    · exact ⟨W2.heap.size + 1, W2.heap.size, by omega, by omega, hsz2, rfl, rfl, two_alloc HF2.out, two_allocB, two_allocA, (((hbel2.alloc (by omega) _).alloc (by simp; omega) _)).drew⟩
  case rest =>
  clear c0 c1 c2 c3 z0 z1 z2 z3 HF2 hbel2 hsz2
  obtain ⟨m, k, hmk, hm, hk, rfl, rfl, ho, hm2, hk2, hbel⟩ := hcut
  obtain ⟨a0, a1, a2, a3, y0, y1, y2, y3⟩ := fmtAt_heap hm2
  obtain ⟨b0, b1, b2, b3, x0, x1, x2, x3⟩ := fmtAt_heap hk2
  have HO := Lib.hid ho
  have HM := Lib.hid hm2
  have HK := Lib.hid hk2
  clear ho hm2 hk2
  go_upto_region 4 with fail
  obtain ⟨W4, hW4⟩ : ∃ x, ((wc.setCell ⟨m, 3, none⟩ (.bool false)).setCell ⟨k, 3, none⟩ (.bool true)) = x := ⟨_, rfl⟩
  rw [hW4]
  have hbel4 : Below w.heap.size w W4 := by rw [← hW4]; exact (hbel.setCell (by show w.heap.size ≤ m; omega) _).setCell (by show w.heap.size ≤ k; omega) _
  have tri : Tri W4 w.heap.size m k U I D t := by
    rw [← hW4]
    refine ⟨?_, ?_, ?_⟩
    · rw [heap_other _ _ _ _ (by omega), heap_other _ _ _ _ (by omega)]; exact HO.out
    · rw [heap_other _ _ _ _ (by omega)]; exact heap_same HM.out
    · exact heap_same (by rw [heap_other _ _ _ _ (by omega)]; exact HK.out)
  clear hW4 a0 a1 a2 a3 y0 y1 y2 y3 b0 b1 b2 b3 x0 x1 x2 x3 HO HM HK hbel
  obtain ⟨c0, c1, c2, c3, _, _, _, _⟩ := fmtAt_heap tri.o
  go_upto_if 29 with fail
  go_cut [7] (fun x wx => x = .int .i64 (per U) ∧ W4 = wx)
  case first =>
    rcases HU.out with rfl | rfl
    · go_wp2_with fail
      go_meet
      exact ⟨rfl, rfl⟩
    · go_wp2_with fail
      go_meet
      exact ⟨rfl, rfl⟩
  case rest =>
  obtain ⟨rfl, rfl⟩ := hcut
  have hDD : (D : Int) ≤ 6 := hD6
  obtain ⟨P, hP⟩ : ∃ P, per U = P := ⟨_, rfl⟩
  have hP2 : P = 10 ∨ P = 254 := by rw [← hP]; exact per_cases HU.out
  obtain ⟨K, hK⟩ : ∃ K, lastG U D = K := ⟨_, rfl⟩
  have hK2 : P * ((10 ^ (6 - D) : Nat) : Int) = K := by rw [← hK, step_eq, hP]
  rw [hP]
  have HP := Lib.hid hP
  have HK := Lib.hid hK
  have HK2 := Lib.hid hK2
  clear hP hK hK2
  go_upto_region 8 with fail
  go_loop [7, 8] (fun v i => ∃ (j : Nat) (x : Int), D ≤ j ∧ j ≤ 6 ∧ x = P * ((10 ^ (j - D) : Nat) : Int) ∧ i = .int .i64 j ∧ v = .int .i64 x) (fun _ i => 6 - (intOf i).toNat)
  case atStart => exact ⟨D, P, Nat.le_refl _, by omega, by simp, rfl, rfl⟩
  case round =>
  obtain ⟨j, x, hjD, hj, hx, rfl, rfl⟩ := hrel
  by_cases hlt : j < 6
  · have hp : (10 : Nat) ^ (j - D) ≤ 10 ^ 5 := Nat.pow_le_pow_right (by decide) (by omega)
    have hp1 : 1 ≤ 10 ^ (j - D) := Nat.one_le_pow _ _ (by decide)
    have hb23 : 0 ≤ x ∧ x ≤ 25400000 := by
      obtain ⟨y, hy⟩ : ∃ y, 10 ^ (j - D) = y := ⟨_, rfl⟩
      rw [hy] at hx hp hp1
      rcases hP2 with h | h <;> rw [h] at hx <;> omega
    obtain ⟨hb2, hb3⟩ := hb23
    have HX : Hid (10 * x = P * ((10 ^ (j + 1 - D) : Nat) : Int)) := by
      show _ = _
      rw [hx, show j + 1 - D = (j - D) + 1 by omega, Nat.pow_succ, Int.natCast_mul, Int.mul_comm, Int.mul_assoc]; rfl
    clear hx hp hp1
    go_wp2
    go_round
    case rel => exact ⟨j + 1, 10 * x, by omega, by omega, HX.out, by go_num, rfl⟩
    case measure => simp [intOf]; omega
  obtain rfl : j = 6 := by omega
  obtain rfl : x = K := hx.trans HK2.out
  have hp : (10 : Nat) ^ (6 - D) ≤ 1000000 := pow_le (6 - D) (by omega)
  have hp1 : 1 ≤ 10 ^ (6 - D) := Nat.one_le_pow _ _ (by decide)
  have hb23 : 10 ≤ x ∧ x ≤ 254000000 := by
    obtain ⟨y, hy⟩ : ∃ y, 10 ^ (6 - D) = y := ⟨_, rfl⟩
    rw [hy] at hx hp hp1
    rcases hP2 with h | h <;> rw [h] at hx <;> omega
  obtain ⟨hb2, hb3⟩ := hb23
  clear hx hp hp1 hlt hjD hj hP2 HP HK2
  obtain ⟨g, hg⟩ : ∃ g, r * x = g := ⟨_, rfl⟩
  have hga : g.natAbs ≤ 1000 * 254000000 := by
    rw [← hg, Int.natAbs_mul]
    exact Nat.mul_le_mul (by omega) (by omega)
  have hg0 : -254000000000 ≤ g := by omega
  have hg1 : g ≤ 254000000000 := by omega
  have hw : IntKind.i64.wrap (r * x) = g := by rw [hg]; exact IntWalk.i64_in _ (by omega)
  have hw1 : IntKind.i64.wrap (g + 1) = g + 1 := IntWalk.i64_in _ (by omega)
  have hmod : g % lastG U D = 0 := by rw [HK.out, ← hg]; exact Int.mul_emod_left _ _
  obtain ⟨b, hb⟩ : ∃ b, (digitsV g U I D false).isSome = b := ⟨_, rfl⟩
  obtain ⟨L1, hL1⟩ : ∃ L, (digitsV g U I D false).getD [] = L := ⟨_, rfl⟩
  obtain ⟨L2, hL2⟩ : ∃ L, (digitsV g U I D true).getD [] = L := ⟨_, rfl⟩
  obtain ⟨S1, hS1⟩ := str_ex L1
  obtain ⟨S2, hS2⟩ := str_ex L2
  have hd1 : Hid ((digitsV g U I D false).getD [] = L1 ∧ (digitsV g U I D false).isSome = b) := ⟨hL1, hb⟩
  have hd2 : Hid ((digitsV g U I D true).getD [] = L2 ∧ (digitsV g U I D true).isSome = b) := ⟨hL2, by rw [digits_same, hb]⟩
  have hd3 : Hid ((digitsV (g + 1) U I D false).getD [] = [] ∧ (digitsV (g + 1) U I D false).isSome = false) := by show _ ∧ _; rw [digits_off HU.out hmod]; exact ⟨rfl, rfl⟩
  have HS1 := Lib.hid hS1
  have HS2 := Lib.hid hS2
  have HB4 := Lib.hid hbel4
  clear hb hL1 hL2 hS1 hS2 hmod hga hbel4
  have hT4 : Tab W4 := hT.below HB4.out
  obtain ⟨a0, a1, a2, a3, _, _, _, _⟩ := fmtAt_heap tri.m
  go_wp2_with fail
  with_reducible refine (udigits_any _ U I D false L1 b hd1 S1 HS1 _ hT4).mono ?_
  rintro e w5 ⟨rfl, hb5⟩
  have tri5 := tri.below hb5
  have hT5 : Tab w5 := hT4.below hb5
  obtain ⟨b0, b1, b2, b3, _, _, _, _⟩ := fmtAt_heap tri5.k
  go_wp2_with fail
  with_reducible refine (udigits_any _ U I D true L2 b hd2 S2 HS2 _ hT5).mono ?_
  rintro e w6 ⟨rfl, hb6⟩
  have tri6 := tri5.below hb6
  have hT6 : Tab w6 := hT5.below hb6
  have hbel6 : Below w.heap.size w w6 := (HB4.out.trans (hb5.mono HB4.out.size)).trans (hb6.mono (Nat.le_trans HB4.out.size hb5.size))
  cases b with
  | false =>
    go_wp2_with fail
    with_reducible refine (uawake_any _ hT6).mono ?_
    rintro e w7 ⟨rfl, hb7⟩
    go_wp2_with fail
    go_ret
    exact ⟨rfl, hbel6.trans (hb7.mono hbel6.size)⟩
  | true =>
    have o1 := opt_of hd1
    have o2 := opt_of hd2
    have v1 : Hid ((coordV L1 U I D false).getD 0 = g ∧ (coordV L1 U I D false).isSome = true) := by show _ ∧ _; rw [coord_digits o1]; exact ⟨rfl, rfl⟩
    have v2 : Hid ((coordV L2 U I D true).getD 0 = g ∧ (coordV L2 U I D true).isSome = true) := by show _ ∧ _; rw [coord_digits o2]; exact ⟨rfl, rfl⟩
    have l1 := digits_length o1
    have l2 := digits_length o2
    rw [← HS1.out, len_list] at l1
    rw [← HS2.out, len_list] at l2
    obtain ⟨l1a, l1b⟩ := l1
    obtain ⟨l2a, l2b⟩ := l2
    clear o1 o2
    have hs1 : S1.size ≤ 9223372036854775807 := by omega
    have hs2 : S2.size ≤ 9223372036854775807 := by omega
    clear a0 a1 a2 a3 b0 b1 b2 b3 c0 c1 c2 c3
    obtain ⟨a0, a1, a2, a3, _, _, _, _⟩ := fmtAt_heap tri6.m
    go_wp2_with fail
    with_reducible refine (coord_at S1 L1 HS1 U I D false g true v1 hs1 _).mono ?_
    rintro e w7 ⟨rfl, hb7⟩
    have tri7 := tri6.below hb7
    have hT7 : Tab w7 := hT6.below hb7
    have hbel7 := hbel6.trans (hb7.mono hbel6.size)
    obtain ⟨b0, b1, b2, b3, _, _, _, _⟩ := fmtAt_heap tri7.k
    go_wp2_with fail
    with_reducible refine (coord_at S2 L2 HS2 U I D true g true v2 hs2 _).mono ?_
    rintro e w8 ⟨rfl, hb8⟩
    have tri8 := tri7.below hb8
    have hT8 : Tab w8 := hT7.below hb8
    have hbel8 := hbel7.trans (hb8.mono hbel7.size)
    clear a0 a1 a2 a3 b0 b1 b2 b3
    obtain ⟨a0, a1, a2, a3, _, _, _, _⟩ := fmtAt_heap tri8.m
    go_wp2_with fail
    with_reducible refine (udigits_any _ U I D false [] false hd3 ⟨#[]⟩ (Lib.hid rfl) _ hT8).mono ?_
    rintro e w9 ⟨rfl, hb9⟩
    have tri9 := tri8.below hb9
    have hT9 : Tab w9 := hT8.below hb9
    have hbel9 := hbel8.trans (hb9.mono hbel8.size)
    clear a0 a1 a2 a3
    obtain ⟨c0, c1, c2, c3, _, _, _, _⟩ := fmtAt_heap tri9.o
    have HL2 : Hid (((S2.size : Int) ≤ (S1.size : Int) + I + D)) := by show _ ≤ _; omega
    have hL2 := HL2.out
    go_wp2_with fail
    all_goals
      with_reducible refine (uawake_any _ hT9).mono ?_
      rintro e w10 ⟨rfl, hb10⟩
      go_wp2_with fail
      go_ret
      exact ⟨rfl, hbel9.trans (hb10.mono hbel9.size)⟩
end Go.Proofs.YtmclabehdjdpnaaDoor.UnitTrails
