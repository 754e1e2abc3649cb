/-
  Proved: sums, products and quotients of any two rationals are those of the reference, sums hang on no order, a quotient times its divisor is the dividend (heliographlaw12.ExprExact returns true). Conditions: the row's own (the package-level tables read as the program's text lays them, tied by the card).
-/
import Derived.Test.YtkfjmcdfamhiaaaDoorExA
import Derived.Test.YtkfjmcdfamhiaaaDoorKnW
import Derived.ProofKit
import Derived.Lib.SmallJoins
namespace Go.Proofs.YtkfjmcdfamhiaaaDoor.ExprExact
open Go.ChangeShapes Go.WideShapes Go.ChangeAt Go.WideMaps Go.WideElems Go.RowKit
open Go.Joins (open_agg2)
open Go.Proofs.YtkfjmcdfamhiaaaDoor.Dp Go.Proofs.YtkfjmcdfamhiaaaDoor.Base Go.Proofs.YtkfjmcdfamhiaaaDoor.Fr Go.Proofs.YtkfjmcdfamhiaaaDoor.FrW Go.Proofs.YtkfjmcdfamhiaaaDoor.ExW

set_option maxRecDepth 100000 in
set_option maxHeartbeats 3200000 in
theorem walk (a b c d k0 rn rd : Int) (ha0 : -9223372036854775808 ≤ a) (ha1 : a ≤ 9223372036854775807) (hd0 : -9223372036854775808 ≤ d) (hd1 : d ≤ 9223372036854775807) (w : World) (hT : Tab w) :
    Calls Tryd.prog 5 #[.int .i64 a, .int .i64 b, .int .i64 c, .int .i64 d, .int .i64 k0, ratVal rn rd] w fun e w' => e = .returned (.bool true) ∧ Below w.heap.size w w' := by
  obtain ⟨xn, xd, hx⟩ : ∃ n e, ratV a b = (n, e) := ⟨_, _, rfl⟩
  obtain ⟨yn, yd, hy⟩ : ∃ n e, ratV c d = (n, e) := ⟨_, _, rfl⟩
  have gx := ratV_good a b
  have gy := ratV_good c d
  rw [hx] at gx
  rw [hy] at gy
  have HX : Hid (ratV a b = (xn, xd)) := hx
  have HY : Hid (ratV c d = (yn, yd)) := hy
  have GX := Lib.hid gx
  have GY := Lib.hid gy
  have HT := Lib.hid hT
  obtain ⟨N1, D1, e1, h1⟩ : ∃ n d e, doV k0 xn xd rn rd = (n, d, e) := ⟨_, _, _, rfl⟩
  have H1 : Hid (doV k0 xn xd rn rd = (N1, D1, e1)) := h1
  obtain ⟨N3, D3, e3, h3⟩ : ∃ n q e, makeV a d = (n, q, e) := ⟨_, _, _, rfl⟩
  have H3 : Hid (makeV a d = (N3, D3, e3)) := h3
  obtain ⟨N4, D4, e4, h4⟩ : ∃ n d e, doV 3 xn xd yn yd = (n, d, e) := ⟨_, _, _, rfl⟩
  have H4 : Hid (doV 3 xn xd yn yd = (N4, D4, e4)) := h4
  have H5 : Hid (doV 3 yn yd xn xd = (N4, D4, e4)) := by show _ = _; rw [do_comm]; exact h4
  obtain ⟨N6, D6, e6, h6⟩ : ∃ n d e, doV 6 xn xd yn yd = (n, d, e) := ⟨_, _, _, rfl⟩
  have H6 : Hid (doV 6 xn xd yn yd = (N6, D6, e6)) := h6
  have hten : ((e6 : Int) == 10) = (yn == 0) := by
    have h := quo_ten gx gy
    rw [h6] at h
    rw [Bool.eq_iff_iff, beq_iff_eq, beq_iff_eq]
    constructor
    · intro h2; exact h.1 (by show e6 = 10; omega)
    · intro h2; have := h.2 h2; have : e6 = 10 := this; omega
  have H7 : Hid (e6 = 0 → doV 5 N6 D6 yn yd = (xn, xd, 0)) := by
    intro h0
    rw [h0] at h6
    exact quo_back gx gy h6
  clear hx hy gx gy hT h1 h3 h4 h6
  have K0 : Hid (Kn w [(w.heap.size, ratObj rn rd)] (w.alloc (ratObj rn rd))) := (Kn.nil w).new _
  go_enter Tryd.func5, Tryd.ntmps5
  go_wp2_with fail
  with_reducible refine (lrat_c a b xn xd HX _).mono ?_
  rintro en w1 ⟨rfl, hb1⟩
  have K1 := Lib.hid (K0.out.below hb1)
  clear K0 hb1
  go_wp2_with fail
  with_reducible refine (lrat_c c d yn yd HY _).mono ?_
  rintro en w2 ⟨rfl, hb2⟩
  have K2 := Lib.hid (((K1.out.below hb2).new (ratObj xn xd)).new (ratObj yn yd))
  clear K1 hb2
  go_upto_region 2 with fail
  obtain ⟨R, hR⟩ : ∃ R, w.heap.size = R := ⟨_, rfl⟩
  obtain ⟨X, hX⟩ : ∃ X, w2.heap.size = X := ⟨_, rfl⟩
  have e2 : (w2.alloc (ratObj xn xd)).heap.size = w2.heap.size + 1 := by simp
  rw [e2, hX, hR] at K2
  rw [hX, hR]
  clear e2 hX
  obtain ⟨Y, hY⟩ : ∃ Y, X + 1 = Y := ⟨_, rfl⟩
  rw [hY] at K2
  rw [hY]
  clear hY
  generalize (w2.alloc (ratObj xn xd)).alloc (ratObj yn yd) = W2 at K2 ⊢
  go_wp2_with fail
  go_loopw [15] (fun i wr => ∃ j : Nat, 3 ≤ j ∧ j ≤ 7 ∧ i = .int .i64 j ∧ Hid (Kn w [(Y, ratObj yn yd), (X, ratObj xn xd), (R, ratObj rn rd)] wr)) (fun i _ => 7 - (intOf i).toNat)
  case atStart => exact ⟨3, by decide, by decide, rfl, K2.out⟩
  case round =>
  obtain ⟨j, hj3, hj7, rfl, KL⟩ := hrel
  rename_i wr
  clear K2
  by_cases hj : j ≤ 6
  · have hji : (j : Int) ≤ 6 := by omega
    obtain ⟨N, D, e, hR0⟩ : ∃ N D e, doV (j : Int) xn xd yn yd = (N, D, e) := ⟨_, _, _, rfl⟩
    have HR : Hid (doV (j : Int) xn xd yn yd = (N, D, e)) := hR0
    clear hR0
    obtain ⟨⟨cY0, cY1⟩, _⟩ := rat_at (KL.out.get (b := Y) (o := ratObj yn yd) (by simp))
    obtain ⟨⟨cX0, cX1⟩, _⟩ := rat_at (KL.out.get (b := X) (o := ratObj xn xd) (by simp))
    go_wp2_with fail
    with_reducible refine (do_c (j : Int) xn xd yn yd (N, D, e) HR _).mono ?_
    rintro en v1 ⟨rfl, hb1⟩
    have KN1 := Lib.hid ((KL.out.below hb1).new (ratObj N D))
    clear KL hb1
    clear cY0 cY1 cX0 cX1
    go_upto_region 6 with fail
    obtain ⟨A, hA⟩ : ∃ g, v1.heap.size = g := ⟨_, rfl⟩
    rw [hA] at KN1
    rw [hA]
    clear hA
    generalize v1.alloc (ratObj N D) = V1 at KN1 ⊢
    obtain ⟨⟨cY0, cY1⟩, _⟩ := rat_at (KN1.out.get (b := Y) (o := ratObj yn yd) (by simp))
    obtain ⟨⟨cX0, cX1⟩, _⟩ := rat_at (KN1.out.get (b := X) (o := ratObj xn xd) (by simp))
    go_wp2_with fail
    with_reducible refine (rdo_c (j : Int) xn xd yn yd (N, D, e) HR _).mono ?_
    rintro en v2 ⟨rfl, hb2⟩
    have KN2 := Lib.hid ((KN1.out.below hb2).new (ratObj N D))
    clear KN1 hb2
    clear cY0 cY1 cX0 cX1
    go_upto_region 7 with fail
    obtain ⟨B, hB⟩ : ∃ g, v2.heap.size = g := ⟨_, rfl⟩
    rw [hB] at KN2
    rw [hB]
    clear hB
    generalize v2.alloc (ratObj N D) = V2 at KN2 ⊢
    obtain ⟨⟨cB0, cB1⟩, _⟩ := rat_at (KN2.out.get (b := B) (o := ratObj N D) (by simp))
    obtain ⟨⟨cA0, cA1⟩, _⟩ := rat_at (KN2.out.get (b := A) (o := ratObj N D) (by simp))
    have KM := Lib.hid (KN2.out.less (M := [(Y, ratObj yn yd), (X, ratObj xn xd), (R, ratObj rn rd)]) (by simp))
    clear KN2
    go_wp2_with fail
    go_round <;> first | exact ⟨j + 1, by omega, by omega, by go_num, KM.out⟩ | (simp [intOf] <;> omega)
  · have hji : ¬ ((j : Int) ≤ 6) := by omega
    obtain ⟨⟨cX0, cX1⟩, _⟩ := rat_at (KL.out.get (b := X) (o := ratObj xn xd) (by simp))
    obtain ⟨⟨cR0, cR1⟩, _⟩ := rat_at (KL.out.get (b := R) (o := ratObj rn rd) (by simp))
    go_wp2_with fail
    with_reducible refine (do_c k0 xn xd rn rd (N1, D1, e1) H1 _).mono ?_
    rintro en v3 ⟨rfl, hb3⟩
    have KN3 := Lib.hid ((KL.out.below hb3).new (ratObj N1 D1))
    clear KL hb3
    clear cX0 cX1 cR0 cR1
    go_upto_region 10 with fail
    obtain ⟨A, hA⟩ : ∃ g, v3.heap.size = g := ⟨_, rfl⟩
    rw [hA] at KN3
    rw [hA]
    clear hA
    generalize v3.alloc (ratObj N1 D1) = V3 at KN3 ⊢
    obtain ⟨⟨cX0, cX1⟩, _⟩ := rat_at (KN3.out.get (b := X) (o := ratObj xn xd) (by simp))
    obtain ⟨⟨cR0, cR1⟩, _⟩ := rat_at (KN3.out.get (b := R) (o := ratObj rn rd) (by simp))
    go_wp2_with fail
    with_reducible refine (rdo_c k0 xn xd rn rd (N1, D1, e1) H1 _).mono ?_
    rintro en v4 ⟨rfl, hb4⟩
    have KN4 := Lib.hid ((KN3.out.below hb4).new (ratObj N1 D1))
    clear KN3 hb4
    clear cX0 cX1 cR0 cR1
    go_upto_region 11 with fail
    obtain ⟨B, hB⟩ : ∃ g, v4.heap.size = g := ⟨_, rfl⟩
    rw [hB] at KN4
    rw [hB]
    clear hB
    generalize v4.alloc (ratObj N1 D1) = V4 at KN4 ⊢
    go_wp2_with fail
    with_reducible refine (make_c a d (by omega) (by omega) (by omega) (by omega) (N3, D3, e3) H3 _).mono ?_
    rintro en v5 ⟨rfl, hb5⟩
    have KN5 := Lib.hid ((KN4.out.below hb5).new (ratObj N3 D3))
    clear KN4 hb5
    go_upto_region 12 with fail
    obtain ⟨C, hC⟩ : ∃ g, v5.heap.size = g := ⟨_, rfl⟩
    rw [hC] at KN5
    rw [hC]
    clear hC
    generalize v5.alloc (ratObj N3 D3) = V5 at KN5 ⊢
    go_wp2_with fail
    with_reducible refine (rmake_c a d (by omega) (by omega) (by omega) (by omega) (N3, D3, e3) H3 _).mono ?_
    rintro en v6 ⟨rfl, hb6⟩
    have KN6 := Lib.hid ((KN5.out.below hb6).new (ratObj N3 D3))
    clear KN5 hb6
    go_upto_region 13 with fail
    obtain ⟨E, hE⟩ : ∃ g, v6.heap.size = g := ⟨_, rfl⟩
    rw [hE] at KN6
    rw [hE]
    clear hE
    generalize v6.alloc (ratObj N3 D3) = V6 at KN6 ⊢
    obtain ⟨⟨cE0, cE1⟩, _⟩ := rat_at (KN6.out.get (b := E) (o := ratObj N3 D3) (by simp))
    obtain ⟨⟨cC0, cC1⟩, _⟩ := rat_at (KN6.out.get (b := C) (o := ratObj N3 D3) (by simp))
    obtain ⟨⟨cB0, cB1⟩, _⟩ := rat_at (KN6.out.get (b := B) (o := ratObj N1 D1) (by simp))
    obtain ⟨⟨cA0, cA1⟩, _⟩ := rat_at (KN6.out.get (b := A) (o := ratObj N1 D1) (by simp))
    go_upto_region 15 with fail
    clear cE0 cE1 cC0 cC1 cB0 cB1 cA0 cA1
    have KM := Lib.hid (KN6.out.less (M := [(Y, ratObj yn yd), (X, ratObj xn xd), (R, ratObj rn rd)]) (by simp))
    clear KN6
    obtain ⟨⟨cY0, cY1⟩, _⟩ := rat_at (KM.out.get (b := Y) (o := ratObj yn yd) (by simp))
    obtain ⟨⟨cX0, cX1⟩, _⟩ := rat_at (KM.out.get (b := X) (o := ratObj xn xd) (by simp))
    go_wp2_with fail
    with_reducible refine (do_c 3 xn xd yn yd (N4, D4, e4) H4 _).mono ?_
    rintro en v7 ⟨rfl, hb7⟩
    have KN7 := Lib.hid ((KM.out.below hb7).new (ratObj N4 D4))
    clear KM hb7
    clear cY0 cY1 cX0 cX1
    go_upto_region 16 with fail
    obtain ⟨F, hF⟩ : ∃ g, v7.heap.size = g := ⟨_, rfl⟩
    rw [hF] at KN7
    rw [hF]
    clear hF
    generalize v7.alloc (ratObj N4 D4) = V7 at KN7 ⊢
    obtain ⟨⟨cY0, cY1⟩, _⟩ := rat_at (KN7.out.get (b := Y) (o := ratObj yn yd) (by simp))
    obtain ⟨⟨cX0, cX1⟩, _⟩ := rat_at (KN7.out.get (b := X) (o := ratObj xn xd) (by simp))
    go_wp2_with fail
    with_reducible refine (do_c 3 yn yd xn xd (N4, D4, e4) H5 _).mono ?_
    rintro en v8 ⟨rfl, hb8⟩
    have KN8 := Lib.hid ((KN7.out.below hb8).new (ratObj N4 D4))
    clear KN7 hb8
    clear cY0 cY1 cX0 cX1
    go_upto_region 17 with fail
    obtain ⟨G, hG⟩ : ∃ g, v8.heap.size = g := ⟨_, rfl⟩
    rw [hG] at KN8
    rw [hG]
    clear hG
    generalize v8.alloc (ratObj N4 D4) = V8 at KN8 ⊢
    obtain ⟨⟨cY0, cY1⟩, _⟩ := rat_at (KN8.out.get (b := Y) (o := ratObj yn yd) (by simp))
    obtain ⟨⟨cX0, cX1⟩, _⟩ := rat_at (KN8.out.get (b := X) (o := ratObj xn xd) (by simp))
    go_wp2_with fail
    with_reducible refine (do_c 6 xn xd yn yd (N6, D6, e6) H6 _).mono ?_
    rintro en v9 ⟨rfl, hb9⟩
    have KN9 := Lib.hid ((KN8.out.below hb9).new (ratObj N6 D6))
    clear KN8 hb9
    clear cY0 cY1 cX0 cX1
    go_upto_region 18 with fail
    obtain ⟨M, hM⟩ : ∃ g, v9.heap.size = g := ⟨_, rfl⟩
    rw [hM] at KN9
    rw [hM]
    clear hM
    generalize v9.alloc (ratObj N6 D6) = V9 at KN9 ⊢
    obtain ⟨⟨cG0, cG1⟩, _⟩ := rat_at (KN9.out.get (b := G) (o := ratObj N4 D4) (by simp))
    obtain ⟨⟨cF0, cF1⟩, _⟩ := rat_at (KN9.out.get (b := F) (o := ratObj N4 D4) (by simp))
    obtain ⟨⟨cY0, cY1⟩, _⟩ := rat_at (KN9.out.get (b := Y) (o := ratObj yn yd) (by simp))
    obtain ⟨⟨cX0, cX1⟩, _⟩ := rat_at (KN9.out.get (b := X) (o := ratObj xn xd) (by simp))
    go_upto_region 20 with fail
    clear cG0 cG1 cF0 cF1 cY0 cY1 cX0 cX1
    by_cases he6 : e6 = 0
    · have te : ((e6 : Int) == 0) = true := by rw [he6]; rfl
      have H8 : Hid (doV 5 N6 D6 yn yd = (xn, xd, 0)) := H7.out he6
      obtain ⟨⟨cM0, cM1⟩, _⟩ := rat_at (KN9.out.get (b := M) (o := ratObj N6 D6) (by simp))
      obtain ⟨⟨cY0, cY1⟩, _⟩ := rat_at (KN9.out.get (b := Y) (o := ratObj yn yd) (by simp))
      go_wp2_with fail
      with_reducible refine (do_c 5 N6 D6 yn yd (xn, xd, 0) H8 _).mono ?_
      rintro en v10 ⟨rfl, hb10⟩
      have KN10 := Lib.hid ((KN9.out.below hb10).new (ratObj xn xd))
      clear KN9 hb10
      clear cM0 cM1 cY0 cY1
      go_upto_region 22 with fail
      obtain ⟨P, hP⟩ : ∃ g, v10.heap.size = g := ⟨_, rfl⟩
      rw [hP] at KN10
      rw [hP]
      clear hP
      generalize v10.alloc (ratObj xn xd) = V10 at KN10 ⊢
      obtain ⟨⟨cP0, cP1⟩, _⟩ := rat_at (KN10.out.get (b := P) (o := ratObj xn xd) (by simp))
      obtain ⟨⟨cX0, cX1⟩, _⟩ := rat_at (KN10.out.get (b := X) (o := ratObj xn xd) (by simp))
      go_wp2_with fail
      with_reducible refine (awake_any _ (HT.out.below KN10.out.bel)).mono ?_
      rintro en w9 ⟨rfl, hb9⟩
      go_wp2_with fail
      go_ret
      exact ⟨rfl, KN10.out.bel.trans (hb9.mono KN10.out.bel.size)⟩
    · have te : ((e6 : Int) == 0) = false := by simp; omega
      go_wp2_with fail
      with_reducible refine (awake_any _ (HT.out.below KN9.out.bel)).mono ?_
      rintro en w9 ⟨rfl, hb9⟩
      go_wp2_with fail
      go_ret
      exact ⟨rfl, KN9.out.bel.trans (hb9.mono KN9.out.bel.size)⟩
end Go.Proofs.YtkfjmcdfamhiaaaDoor.ExprExact
