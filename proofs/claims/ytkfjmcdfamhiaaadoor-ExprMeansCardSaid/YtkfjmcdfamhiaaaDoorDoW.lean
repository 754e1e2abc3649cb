/-
  The walks of Do: expr's and the reference's. (Printed by do_gen.py.)
-/
import Derived.Test.YtkfjmcdfamhiaaaDoorFqW
namespace Go.Proofs.YtkfjmcdfamhiaaaDoor.FrW
open Go.RowKit Go.Proofs.YtkfjmcdfamhiaaaDoor.Base Go.Proofs.YtkfjmcdfamhiaaaDoor.Fr

/-- The two operands and the result in memory. -/
structure DoAt (w0 : World) (n d m e : Int) (w : World) : Prop where
  a : w.heap[w0.heap.size]? = some (ratObj n d)
  b : w.heap[w0.heap.size + 1]? = some (ratObj m e)
  r : w.heap[w0.heap.size + 2]? = some (ratObj 0 0)
  bel : Below w0.heap.size w0 w
theorem DoAt.below {w0 w w' : World} {n d m e : Int} (h : DoAt w0 n d m e w) (hb : Below w.heap.size w w') : DoAt w0 n d m e w' :=
  ⟨(hb.block _ (Array.getElem?_eq_some_iff.1 h.a).1).trans h.a, (hb.block _ (Array.getElem?_eq_some_iff.1 h.b).1).trans h.b, (hb.block _ (Array.getElem?_eq_some_iff.1 h.r).1).trans h.r, h.bel.trans (hb.mono h.bel.size)⟩
theorem doAt_new (w : World) (n d m e : Int) : DoAt w n d m e (((w.alloc (ratObj n d)).alloc (ratObj m e)).alloc (ratObj 0 0)) := by
  refine ⟨?_, ?_, ?_, ?_⟩
  · rw [Below.heap_alloc _ _ _ (by simp; omega), Below.heap_alloc _ _ _ (by simp)]; show (w.heap.push _)[w.heap.size]? = _; simp
  · rw [Below.heap_alloc _ _ _ (by simp)]; show ((w.alloc (ratObj n d)).heap.push _)[_]? = _; rw [Array.getElem?_push, if_pos (by simp)]
  · show (((w.alloc (ratObj n d)).alloc (ratObj m e)).heap.push _)[_]? = _; rw [Array.getElem?_push, if_pos (by simp)]
  · exact (((Below.refl _ _).alloc (Nat.le_refl _) _).alloc (by simp) _).alloc (by simp; omega) _
theorem DoAt.fin {w0 w : World} {n d m e : Int} (h : DoAt w0 n d m e w) (N D : Int) : ∀ v, v = (w.setCell ⟨w0.heap.size + 2, 0, none⟩ (.int .i64 N)).setCell ⟨w0.heap.size + 2, 1, none⟩ (.int .i64 D) →
    v.heap[w0.heap.size + 2]? = some (ratObj N D) ∧ Below w0.heap.size w0 v := by
  rintro v rfl
  exact ⟨rat_set h.r N D, (h.bel.setCell (by show _ ≤ _ + 2; omega) _).setCell (by show _ ≤ _ + 2; omega) _⟩
theorem good_prod {n d m e : Int} (h1 : good n d = true) (h2 : good m e = true) : In n d ∧ In m e := ⟨good_in h1, good_in h2⟩
/-- Products of what is within the bounds. -/
theorem mul_in {a b : Int} (h1 : -1073741824 ≤ a) (h2 : a ≤ 1073741824) (h3 : -1073741824 ≤ b) (h4 : b ≤ 1073741824) : -1152921504606846976 ≤ a * b ∧ a * b ≤ 1152921504606846976 := by
  have h : (a * b).natAbs ≤ 1152921504606846976 := by
    rw [Int.natAbs_mul]
    exact Nat.le_trans (Nat.mul_le_mul (show a.natAbs ≤ 1073741824 by omega) (show b.natAbs ≤ 1073741824 by omega)) (by decide)
  omega
theorem prod_ex {a b : Int} (h1 : -1073741824 ≤ a) (h2 : a ≤ 1073741824) (h3 : -1073741824 ≤ b) (h4 : b ≤ 1073741824) : ∃ x, a * b = x ∧ -1152921504606846976 ≤ x ∧ x ≤ 1152921504606846976 := ⟨_, rfl, mul_in h1 h2 h3 h4⟩

set_option maxRecDepth 100000 in
set_option maxHeartbeats 3200000 in
theorem do_c (k n d m e : Int) (r : Int × Int × Nat) (hr : Hid (doV k n d m e = r)) (w : World) :
    Calls Tryd.prog 14 #[.int .i64 k, ratVal n d, ratVal m e] w (RatOut r w) := by
  obtain ⟨ga, hga⟩ : ∃ b, good n d = b := ⟨_, rfl⟩
  obtain ⟨gb, hgb⟩ : ∃ b, good m e = b := ⟨_, rfl⟩
  have HGA : Hid (good n d = ga) := hga
  have HGB : Hid (good m e = gb) := hgb
  have H0 : Hid (DoAt w n d m e (((w.alloc (ratObj n d)).alloc (ratObj m e)).alloc (ratObj 0 0))) := doAt_new w n d m e
  cases ga with
  | false =>
    have HR : Hid (r = (0, 0, 5)) := by show _ = _; rw [← hr.out]; unfold doV; rw [hga, if_neg (by rintro ⟨h, _⟩; cases h)]
    clear hr hga hgb
    go_enter Tryd.func14, Tryd.ntmps14
    go_wp2_with fail
    with_reducible refine (good_c n d false HGA _).mono ?_
    rintro en w1 ⟨rfl, hb1⟩
    have H1 : Hid _ := H0.out.below hb1
    obtain ⟨⟨a0, a1⟩, _⟩ := rat_at H1.out.a
    obtain ⟨⟨b0, b1⟩, _⟩ := rat_at H1.out.b
    obtain ⟨⟨c0, c1⟩, f0, f1⟩ := rat_at H1.out.r
    clear hb1
    have HF : Hid _ := H1.out.fin 0 0 _ rfl
    go_wp2_with fail
    generalize (w1.setCell ⟨w.heap.size + 2, 0, none⟩ (.int .i64 0)).setCell ⟨w.heap.size + 2, 1, none⟩ (.int .i64 0) = WE at HF ⊢
    obtain ⟨⟨r0, r1⟩, _⟩ := rat_at HF.out.1
    exact bodyPost_ret (v := .tuple #[ratVal 0 0, .int .i64 5]) (by simp [results, Tryd.results14, go_sem, r0, r1]) rfl ⟨by rw [HR.out]; rfl, HF.out.2⟩
  | true =>
    cases gb with
    | false =>
      have HR : Hid (r = (0, 0, 5)) := by show _ = _; rw [← hr.out]; unfold doV; rw [hgb, if_neg (by rintro ⟨_, h⟩; cases h)]
      clear hr hga hgb
      go_enter Tryd.func14, Tryd.ntmps14
      go_wp2_with fail
      with_reducible refine (good_c n d true HGA _).mono ?_
      rintro en w1 ⟨rfl, hb1⟩
      have H1 : Hid _ := H0.out.below hb1
      obtain ⟨⟨b0, b1⟩, _⟩ := rat_at H1.out.b
      clear hb1
      go_wp2_with fail
      with_reducible refine (good_c m e false HGB _).mono ?_
      rintro en w2 ⟨rfl, hb2⟩
      have H2 : Hid _ := H1.out.below hb2
      clear b0 b1 hb2
      obtain ⟨⟨c0, c1⟩, f0, f1⟩ := rat_at H2.out.r
      have HF : Hid _ := H2.out.fin 0 0 _ rfl
      go_wp2_with fail
      generalize (w2.setCell ⟨w.heap.size + 2, 0, none⟩ (.int .i64 0)).setCell ⟨w.heap.size + 2, 1, none⟩ (.int .i64 0) = WE at HF ⊢
      obtain ⟨⟨r0, r1⟩, _⟩ := rat_at HF.out.1
      exact bodyPost_ret (v := .tuple #[ratVal 0 0, .int .i64 5]) (by simp [results, Tryd.results14, go_sem, r0, r1]) rfl ⟨by rw [HR.out]; rfl, HF.out.2⟩
    | true =>
      obtain ⟨⟨i1, i2, i3, i4⟩, j1, j2, j3, j4⟩ := good_prod hga hgb
      obtain ⟨ne, hne, ne0, ne1⟩ := prod_ex i3 i4 (show -1073741824 ≤ e by omega) j2
      obtain ⟨md, hmd, md0, md1⟩ := prod_ex j3 j4 (show -1073741824 ≤ d by omega) i2
      obtain ⟨de, hde, de0, de1⟩ := prod_ex (show -1073741824 ≤ d by omega) i2 (show -1073741824 ≤ e by omega) j2
      obtain ⟨nm, hnm, nm0, nm1⟩ := prod_ex i3 i4 j3 j4
      obtain ⟨dm, hdm, dm0, dm1⟩ := prod_ex (show -1073741824 ≤ d by omega) i2 j3 j4
      have HR0 : Hid ((if k = 3 then makeV (ne + md) de else if k = 4 then makeV (ne - md) de else if k = 5 then makeV nm de else if k = 6 then makeV ne dm else (0, 0, 5)) = r) := by
        show _ = _
        rw [← hr.out]; unfold doV; rw [hga, hgb, if_pos (show true = true ∧ true = true from ⟨rfl, rfl⟩), hne, hmd, hde, hnm, hdm]
      clear hr hga hgb
      by_cases h3 : k = 3
      · have HM : Hid (makeV (ne + md) de = r) := by
          show _ = _
          rw [← HR0.out, if_pos h3]
        clear HR0
        subst h3
        go_enter Tryd.func14, Tryd.ntmps14
        go_wp2_with fail
        with_reducible refine (good_c n d true HGA _).mono ?_
        rintro en w1 ⟨rfl, hb1⟩
        have H1 : Hid _ := H0.out.below hb1
        obtain ⟨⟨b0, b1⟩, _⟩ := rat_at H1.out.b
        clear hb1
        go_wp2_with fail
        with_reducible refine (good_c m e true HGB _).mono ?_
        rintro en w2 ⟨rfl, hb2⟩
        have H2 : Hid _ := H1.out.below hb2
        clear b0 b1 hb2
        obtain ⟨⟨a0, a1⟩, _⟩ := rat_at H2.out.a
        obtain ⟨⟨b0, b1⟩, _⟩ := rat_at H2.out.b
        go_wp2_with fail
        with_reducible refine (make_c (ne + md) de (by omega) (by omega) (by omega) (by omega) r HM _).mono ?_
        rintro en w3 ⟨rfl, hb3⟩
        have H3 : Hid _ := H2.out.below hb3
        clear hb3 a0 a1 b0 b1
        obtain ⟨⟨c0, c1⟩, f0, f1⟩ := rat_at H3.out.r
        have HF : Hid _ := H3.out.fin r.1 r.2.1 _ rfl
        go_wp2_with fail
        generalize (w3.setCell ⟨w.heap.size + 2, 0, none⟩ (.int .i64 r.1)).setCell ⟨w.heap.size + 2, 1, none⟩ (.int .i64 r.2.1) = WE at HF ⊢
        obtain ⟨⟨r0, r1⟩, _⟩ := rat_at HF.out.1
        exact bodyPost_ret (v := .tuple #[ratVal r.1 r.2.1, .int .i64 (r.2.2 : Int)]) (by simp [results, Tryd.results14, go_sem, r0, r1]) rfl ⟨rfl, HF.out.2⟩
      · skip
        by_cases h4 : k = 4
        · have HM : Hid (makeV (ne - md) de = r) := by
            show _ = _
            rw [← HR0.out, if_neg h3, if_pos h4]
          clear HR0
          subst h4
          go_enter Tryd.func14, Tryd.ntmps14
          go_wp2_with fail
          with_reducible refine (good_c n d true HGA _).mono ?_
          rintro en w1 ⟨rfl, hb1⟩
          have H1 : Hid _ := H0.out.below hb1
          obtain ⟨⟨b0, b1⟩, _⟩ := rat_at H1.out.b
          clear hb1
          go_wp2_with fail
          with_reducible refine (good_c m e true HGB _).mono ?_
          rintro en w2 ⟨rfl, hb2⟩
          have H2 : Hid _ := H1.out.below hb2
          clear b0 b1 hb2
          obtain ⟨⟨a0, a1⟩, _⟩ := rat_at H2.out.a
          obtain ⟨⟨b0, b1⟩, _⟩ := rat_at H2.out.b
          go_wp2_with fail
          with_reducible refine (make_c (ne - md) de (by omega) (by omega) (by omega) (by omega) r HM _).mono ?_
          rintro en w3 ⟨rfl, hb3⟩
          have H3 : Hid _ := H2.out.below hb3
          clear hb3 a0 a1 b0 b1
          obtain ⟨⟨c0, c1⟩, f0, f1⟩ := rat_at H3.out.r
          have HF : Hid _ := H3.out.fin r.1 r.2.1 _ rfl
          go_wp2_with fail
          generalize (w3.setCell ⟨w.heap.size + 2, 0, none⟩ (.int .i64 r.1)).setCell ⟨w.heap.size + 2, 1, none⟩ (.int .i64 r.2.1) = WE at HF ⊢
          obtain ⟨⟨r0, r1⟩, _⟩ := rat_at HF.out.1
          exact bodyPost_ret (v := .tuple #[ratVal r.1 r.2.1, .int .i64 (r.2.2 : Int)]) (by simp [results, Tryd.results14, go_sem, r0, r1]) rfl ⟨rfl, HF.out.2⟩
        · skip
          by_cases h5 : k = 5
          · have HM : Hid (makeV nm de = r) := by
              show _ = _
              rw [← HR0.out, if_neg h3, if_neg h4, if_pos h5]
            clear HR0
            subst h5
            go_enter Tryd.func14, Tryd.ntmps14
            go_wp2_with fail
            with_reducible refine (good_c n d true HGA _).mono ?_
            rintro en w1 ⟨rfl, hb1⟩
            have H1 : Hid _ := H0.out.below hb1
            obtain ⟨⟨b0, b1⟩, _⟩ := rat_at H1.out.b
            clear hb1
            go_wp2_with fail
            with_reducible refine (good_c m e true HGB _).mono ?_
            rintro en w2 ⟨rfl, hb2⟩
            have H2 : Hid _ := H1.out.below hb2
            clear b0 b1 hb2
            obtain ⟨⟨a0, a1⟩, _⟩ := rat_at H2.out.a
            obtain ⟨⟨b0, b1⟩, _⟩ := rat_at H2.out.b
            go_wp2_with fail
            with_reducible refine (make_c nm de (by omega) (by omega) (by omega) (by omega) r HM _).mono ?_
            rintro en w3 ⟨rfl, hb3⟩
            have H3 : Hid _ := H2.out.below hb3
            clear hb3 a0 a1 b0 b1
            obtain ⟨⟨c0, c1⟩, f0, f1⟩ := rat_at H3.out.r
            have HF : Hid _ := H3.out.fin r.1 r.2.1 _ rfl
            go_wp2_with fail
            generalize (w3.setCell ⟨w.heap.size + 2, 0, none⟩ (.int .i64 r.1)).setCell ⟨w.heap.size + 2, 1, none⟩ (.int .i64 r.2.1) = WE at HF ⊢
            obtain ⟨⟨r0, r1⟩, _⟩ := rat_at HF.out.1
            exact bodyPost_ret (v := .tuple #[ratVal r.1 r.2.1, .int .i64 (r.2.2 : Int)]) (by simp [results, Tryd.results14, go_sem, r0, r1]) rfl ⟨rfl, HF.out.2⟩
          · skip
            by_cases h6 : k = 6
            · have HM : Hid (makeV ne dm = r) := by
                show _ = _
                rw [← HR0.out, if_neg h3, if_neg h4, if_neg h5, if_pos h6]
              clear HR0
              subst h6
              go_enter Tryd.func14, Tryd.ntmps14
              go_wp2_with fail
              with_reducible refine (good_c n d true HGA _).mono ?_
              rintro en w1 ⟨rfl, hb1⟩
              have H1 : Hid _ := H0.out.below hb1
              obtain ⟨⟨b0, b1⟩, _⟩ := rat_at H1.out.b
              clear hb1
              go_wp2_with fail
              with_reducible refine (good_c m e true HGB _).mono ?_
              rintro en w2 ⟨rfl, hb2⟩
              have H2 : Hid _ := H1.out.below hb2
              clear b0 b1 hb2
              obtain ⟨⟨a0, a1⟩, _⟩ := rat_at H2.out.a
              obtain ⟨⟨b0, b1⟩, _⟩ := rat_at H2.out.b
              go_wp2_with fail
              with_reducible refine (make_c ne dm (by omega) (by omega) (by omega) (by omega) r HM _).mono ?_
              rintro en w3 ⟨rfl, hb3⟩
              have H3 : Hid _ := H2.out.below hb3
              clear hb3 a0 a1 b0 b1
              obtain ⟨⟨c0, c1⟩, f0, f1⟩ := rat_at H3.out.r
              have HF : Hid _ := H3.out.fin r.1 r.2.1 _ rfl
              go_wp2_with fail
              generalize (w3.setCell ⟨w.heap.size + 2, 0, none⟩ (.int .i64 r.1)).setCell ⟨w.heap.size + 2, 1, none⟩ (.int .i64 r.2.1) = WE at HF ⊢
              obtain ⟨⟨r0, r1⟩, _⟩ := rat_at HF.out.1
              exact bodyPost_ret (v := .tuple #[ratVal r.1 r.2.1, .int .i64 (r.2.2 : Int)]) (by simp [results, Tryd.results14, go_sem, r0, r1]) rfl ⟨rfl, HF.out.2⟩
            · skip
              have HR : Hid (r = (0, 0, 5)) := by
                show _ = _
                rw [← HR0.out, if_neg h3, if_neg h4, if_neg h5, if_neg h6]
              have t3 : (k == 3) = false := by simp [h3]
              have t4 : (k == 4) = false := by simp [h4]
              have t5 : (k == 5) = false := by simp [h5]
              have t6 : (k == 6) = false := by simp [h6]
              clear HR0 h3 h4 h5 h6
              go_enter Tryd.func14, Tryd.ntmps14
              go_wp2_with fail
              with_reducible refine (good_c n d true HGA _).mono ?_
              rintro en w1 ⟨rfl, hb1⟩
              have H1 : Hid _ := H0.out.below hb1
              obtain ⟨⟨b0, b1⟩, _⟩ := rat_at H1.out.b
              clear hb1
              go_wp2_with fail
              with_reducible refine (good_c m e true HGB _).mono ?_
              rintro en w2 ⟨rfl, hb2⟩
              have H2 : Hid _ := H1.out.below hb2
              clear b0 b1 hb2
              obtain ⟨⟨a0, a1⟩, _⟩ := rat_at H2.out.a
              obtain ⟨⟨b0, b1⟩, _⟩ := rat_at H2.out.b
              obtain ⟨⟨c0, c1⟩, f0, f1⟩ := rat_at H2.out.r
              have HF : Hid _ := H2.out.fin 0 0 _ rfl
              go_wp2_with fail
              generalize (w2.setCell ⟨w.heap.size + 2, 0, none⟩ (.int .i64 0)).setCell ⟨w.heap.size + 2, 1, none⟩ (.int .i64 0) = WE at HF ⊢
              obtain ⟨⟨r0, r1⟩, _⟩ := rat_at HF.out.1
              exact bodyPost_ret (v := .tuple #[ratVal 0 0, .int .i64 5]) (by simp [results, Tryd.results14, go_sem, r0, r1]) rfl ⟨by rw [HR.out]; rfl, HF.out.2⟩

set_option maxRecDepth 100000 in
set_option maxHeartbeats 3200000 in
theorem rdo_c (k n d m e : Int) (r : Int × Int × Nat) (hr : Hid (doV k n d m e = r)) (w : World) :
    Calls Tryd.prog 15 #[.int .i64 k, ratVal n d, ratVal m e] w (RatOut r w) := by
  obtain ⟨ga, hga⟩ : ∃ b, good n d = b := ⟨_, rfl⟩
  obtain ⟨gb, hgb⟩ : ∃ b, good m e = b := ⟨_, rfl⟩
  have HGA : Hid (good n d = ga) := hga
  have HGB : Hid (good m e = gb) := hgb
  have H0 : Hid (DoAt w n d m e (((w.alloc (ratObj n d)).alloc (ratObj m e)).alloc (ratObj 0 0))) := doAt_new w n d m e
  cases ga with
  | false =>
    have HR : Hid (r = (0, 0, 5)) := by show _ = _; rw [← hr.out]; unfold doV; rw [hga, if_neg (by rintro ⟨h, _⟩; cases h)]
    clear hr hga hgb
    go_enter Tryd.func15, Tryd.ntmps15
    go_wp2_with fail
    with_reducible refine (is_c n d false HGA _).mono ?_
    rintro en w1 ⟨rfl, hb1⟩
    have H1 : Hid _ := H0.out.below hb1
    obtain ⟨⟨a0, a1⟩, _⟩ := rat_at H1.out.a
    obtain ⟨⟨b0, b1⟩, _⟩ := rat_at H1.out.b
    obtain ⟨⟨c0, c1⟩, f0, f1⟩ := rat_at H1.out.r
    clear hb1
    have HF : Hid _ := H1.out.fin 0 0 _ rfl
    go_wp2_with fail
    generalize (w1.setCell ⟨w.heap.size + 2, 0, none⟩ (.int .i64 0)).setCell ⟨w.heap.size + 2, 1, none⟩ (.int .i64 0) = WE at HF ⊢
    obtain ⟨⟨r0, r1⟩, _⟩ := rat_at HF.out.1
    exact bodyPost_ret (v := .tuple #[ratVal 0 0, .int .i64 5]) (by simp [results, Tryd.results15, go_sem, r0, r1]) rfl ⟨by rw [HR.out]; rfl, HF.out.2⟩
  | true =>
    cases gb with
    | false =>
      have HR : Hid (r = (0, 0, 5)) := by show _ = _; rw [← hr.out]; unfold doV; rw [hgb, if_neg (by rintro ⟨_, h⟩; cases h)]
      clear hr hga hgb
      go_enter Tryd.func15, Tryd.ntmps15
      go_wp2_with fail
      with_reducible refine (is_c n d true HGA _).mono ?_
      rintro en w1 ⟨rfl, hb1⟩
      have H1 : Hid _ := H0.out.below hb1
      obtain ⟨⟨b0, b1⟩, _⟩ := rat_at H1.out.b
      clear hb1
      go_wp2_with fail
      with_reducible refine (is_c m e false HGB _).mono ?_
      rintro en w2 ⟨rfl, hb2⟩
      have H2 : Hid _ := H1.out.below hb2
      clear b0 b1 hb2
      obtain ⟨⟨c0, c1⟩, f0, f1⟩ := rat_at H2.out.r
      have HF : Hid _ := H2.out.fin 0 0 _ rfl
      go_wp2_with fail
      generalize (w2.setCell ⟨w.heap.size + 2, 0, none⟩ (.int .i64 0)).setCell ⟨w.heap.size + 2, 1, none⟩ (.int .i64 0) = WE at HF ⊢
      obtain ⟨⟨r0, r1⟩, _⟩ := rat_at HF.out.1
      exact bodyPost_ret (v := .tuple #[ratVal 0 0, .int .i64 5]) (by simp [results, Tryd.results15, go_sem, r0, r1]) rfl ⟨by rw [HR.out]; rfl, HF.out.2⟩
    | true =>
      obtain ⟨⟨i1, i2, i3, i4⟩, j1, j2, j3, j4⟩ := good_prod hga hgb
      obtain ⟨ne, hne, ne0, ne1⟩ := prod_ex i3 i4 (show -1073741824 ≤ e by omega) j2
      obtain ⟨md, hmd, md0, md1⟩ := prod_ex j3 j4 (show -1073741824 ≤ d by omega) i2
      obtain ⟨de, hde, de0, de1⟩ := prod_ex (show -1073741824 ≤ d by omega) i2 (show -1073741824 ≤ e by omega) j2
      obtain ⟨nm, hnm, nm0, nm1⟩ := prod_ex i3 i4 j3 j4
      obtain ⟨dm, hdm, dm0, dm1⟩ := prod_ex (show -1073741824 ≤ d by omega) i2 j3 j4
      have HR0 : Hid ((if k = 3 then makeV (ne + md) de else if k = 4 then makeV (ne - md) de else if k = 5 then makeV nm de else if k = 6 then makeV ne dm else (0, 0, 5)) = r) := by
        show _ = _
        rw [← hr.out]; unfold doV; rw [hga, hgb, if_pos (show true = true ∧ true = true from ⟨rfl, rfl⟩), hne, hmd, hde, hnm, hdm]
      clear hr hga hgb
      by_cases h3 : k = 3
      · have HM : Hid (makeV (ne + md) de = r) := by
          show _ = _
          rw [← HR0.out, if_pos h3]
        clear HR0
        subst h3
        go_enter Tryd.func15, Tryd.ntmps15
        go_wp2_with fail
        with_reducible refine (is_c n d true HGA _).mono ?_
        rintro en w1 ⟨rfl, hb1⟩
        have H1 : Hid _ := H0.out.below hb1
        obtain ⟨⟨b0, b1⟩, _⟩ := rat_at H1.out.b
        clear hb1
        go_wp2_with fail
        with_reducible refine (is_c m e true HGB _).mono ?_
        rintro en w2 ⟨rfl, hb2⟩
        have H2 : Hid _ := H1.out.below hb2
        clear b0 b1 hb2
        obtain ⟨⟨a0, a1⟩, _⟩ := rat_at H2.out.a
        obtain ⟨⟨b0, b1⟩, _⟩ := rat_at H2.out.b
        go_wp2_with fail
        with_reducible refine (rmake_c (ne + md) de (by omega) (by omega) (by omega) (by omega) r HM _).mono ?_
        rintro en w3 ⟨rfl, hb3⟩
        have H3 : Hid _ := H2.out.below hb3
        clear hb3 a0 a1 b0 b1
        obtain ⟨⟨c0, c1⟩, f0, f1⟩ := rat_at H3.out.r
        have HF : Hid _ := H3.out.fin r.1 r.2.1 _ rfl
        go_wp2_with fail
        generalize (w3.setCell ⟨w.heap.size + 2, 0, none⟩ (.int .i64 r.1)).setCell ⟨w.heap.size + 2, 1, none⟩ (.int .i64 r.2.1) = WE at HF ⊢
        obtain ⟨⟨r0, r1⟩, _⟩ := rat_at HF.out.1
        exact bodyPost_ret (v := .tuple #[ratVal r.1 r.2.1, .int .i64 (r.2.2 : Int)]) (by simp [results, Tryd.results15, go_sem, r0, r1]) rfl ⟨rfl, HF.out.2⟩
      · skip
        by_cases h4 : k = 4
        · have HM : Hid (makeV (ne - md) de = r) := by
            show _ = _
            rw [← HR0.out, if_neg h3, if_pos h4]
          clear HR0
          subst h4
          go_enter Tryd.func15, Tryd.ntmps15
          go_wp2_with fail
          with_reducible refine (is_c n d true HGA _).mono ?_
          rintro en w1 ⟨rfl, hb1⟩
          have H1 : Hid _ := H0.out.below hb1
          obtain ⟨⟨b0, b1⟩, _⟩ := rat_at H1.out.b
          clear hb1
          go_wp2_with fail
          with_reducible refine (is_c m e true HGB _).mono ?_
          rintro en w2 ⟨rfl, hb2⟩
          have H2 : Hid _ := H1.out.below hb2
          clear b0 b1 hb2
          obtain ⟨⟨a0, a1⟩, _⟩ := rat_at H2.out.a
          obtain ⟨⟨b0, b1⟩, _⟩ := rat_at H2.out.b
          go_wp2_with fail
          with_reducible refine (rmake_c (ne - md) de (by omega) (by omega) (by omega) (by omega) r HM _).mono ?_
          rintro en w3 ⟨rfl, hb3⟩
          have H3 : Hid _ := H2.out.below hb3
          clear hb3 a0 a1 b0 b1
          obtain ⟨⟨c0, c1⟩, f0, f1⟩ := rat_at H3.out.r
          have HF : Hid _ := H3.out.fin r.1 r.2.1 _ rfl
          go_wp2_with fail
          generalize (w3.setCell ⟨w.heap.size + 2, 0, none⟩ (.int .i64 r.1)).setCell ⟨w.heap.size + 2, 1, none⟩ (.int .i64 r.2.1) = WE at HF ⊢
          obtain ⟨⟨r0, r1⟩, _⟩ := rat_at HF.out.1
          exact bodyPost_ret (v := .tuple #[ratVal r.1 r.2.1, .int .i64 (r.2.2 : Int)]) (by simp [results, Tryd.results15, go_sem, r0, r1]) rfl ⟨rfl, HF.out.2⟩
        · skip
          by_cases h5 : k = 5
          · have HM : Hid (makeV nm de = r) := by
              show _ = _
              rw [← HR0.out, if_neg h3, if_neg h4, if_pos h5]
            clear HR0
            subst h5
            go_enter Tryd.func15, Tryd.ntmps15
            go_wp2_with fail
            with_reducible refine (is_c n d true HGA _).mono ?_
            rintro en w1 ⟨rfl, hb1⟩
            have H1 : Hid _ := H0.out.below hb1
            obtain ⟨⟨b0, b1⟩, _⟩ := rat_at H1.out.b
            clear hb1
            go_wp2_with fail
            with_reducible refine (is_c m e true HGB _).mono ?_
            rintro en w2 ⟨rfl, hb2⟩
            have H2 : Hid _ := H1.out.below hb2
            clear b0 b1 hb2
            obtain ⟨⟨a0, a1⟩, _⟩ := rat_at H2.out.a
            obtain ⟨⟨b0, b1⟩, _⟩ := rat_at H2.out.b
            go_wp2_with fail
            with_reducible refine (rmake_c nm de (by omega) (by omega) (by omega) (by omega) r HM _).mono ?_
            rintro en w3 ⟨rfl, hb3⟩
            have H3 : Hid _ := H2.out.below hb3
            clear hb3 a0 a1 b0 b1
            obtain ⟨⟨c0, c1⟩, f0, f1⟩ := rat_at H3.out.r
            have HF : Hid _ := H3.out.fin r.1 r.2.1 _ rfl
            go_wp2_with fail
            generalize (w3.setCell ⟨w.heap.size + 2, 0, none⟩ (.int .i64 r.1)).setCell ⟨w.heap.size + 2, 1, none⟩ (.int .i64 r.2.1) = WE at HF ⊢
            obtain ⟨⟨r0, r1⟩, _⟩ := rat_at HF.out.1
            exact bodyPost_ret (v := .tuple #[ratVal r.1 r.2.1, .int .i64 (r.2.2 : Int)]) (by simp [results, Tryd.results15, go_sem, r0, r1]) rfl ⟨rfl, HF.out.2⟩
          · skip
            by_cases h6 : k = 6
            · have HM : Hid (makeV ne dm = r) := by
                show _ = _
                rw [← HR0.out, if_neg h3, if_neg h4, if_neg h5, if_pos h6]
              clear HR0
              subst h6
              go_enter Tryd.func15, Tryd.ntmps15
              go_wp2_with fail
              with_reducible refine (is_c n d true HGA _).mono ?_
              rintro en w1 ⟨rfl, hb1⟩
              have H1 : Hid _ := H0.out.below hb1
              obtain ⟨⟨b0, b1⟩, _⟩ := rat_at H1.out.b
              clear hb1
              go_wp2_with fail
              with_reducible refine (is_c m e true HGB _).mono ?_
              rintro en w2 ⟨rfl, hb2⟩
              have H2 : Hid _ := H1.out.below hb2
              clear b0 b1 hb2
              obtain ⟨⟨a0, a1⟩, _⟩ := rat_at H2.out.a
              obtain ⟨⟨b0, b1⟩, _⟩ := rat_at H2.out.b
              go_wp2_with fail
              with_reducible refine (rmake_c ne dm (by omega) (by omega) (by omega) (by omega) r HM _).mono ?_
              rintro en w3 ⟨rfl, hb3⟩
              have H3 : Hid _ := H2.out.below hb3
              clear hb3 a0 a1 b0 b1
              obtain ⟨⟨c0, c1⟩, f0, f1⟩ := rat_at H3.out.r
              have HF : Hid _ := H3.out.fin r.1 r.2.1 _ rfl
              go_wp2_with fail
              generalize (w3.setCell ⟨w.heap.size + 2, 0, none⟩ (.int .i64 r.1)).setCell ⟨w.heap.size + 2, 1, none⟩ (.int .i64 r.2.1) = WE at HF ⊢
              obtain ⟨⟨r0, r1⟩, _⟩ := rat_at HF.out.1
              exact bodyPost_ret (v := .tuple #[ratVal r.1 r.2.1, .int .i64 (r.2.2 : Int)]) (by simp [results, Tryd.results15, go_sem, r0, r1]) rfl ⟨rfl, HF.out.2⟩
            · skip
              have HR : Hid (r = (0, 0, 5)) := by
                show _ = _
                rw [← HR0.out, if_neg h3, if_neg h4, if_neg h5, if_neg h6]
              have t3 : (k == 3) = false := by simp [h3]
              have t4 : (k == 4) = false := by simp [h4]
              have t5 : (k == 5) = false := by simp [h5]
              have t6 : (k == 6) = false := by simp [h6]
              clear HR0 h3 h4 h5 h6
              go_enter Tryd.func15, Tryd.ntmps15
              go_wp2_with fail
              with_reducible refine (is_c n d true HGA _).mono ?_
              rintro en w1 ⟨rfl, hb1⟩
              have H1 : Hid _ := H0.out.below hb1
              obtain ⟨⟨b0, b1⟩, _⟩ := rat_at H1.out.b
              clear hb1
              go_wp2_with fail
              with_reducible refine (is_c m e true HGB _).mono ?_
              rintro en w2 ⟨rfl, hb2⟩
              have H2 : Hid _ := H1.out.below hb2
              clear b0 b1 hb2
              obtain ⟨⟨a0, a1⟩, _⟩ := rat_at H2.out.a
              obtain ⟨⟨b0, b1⟩, _⟩ := rat_at H2.out.b
              obtain ⟨⟨c0, c1⟩, f0, f1⟩ := rat_at H2.out.r
              have HF : Hid _ := H2.out.fin 0 0 _ rfl
              go_wp2_with fail
              generalize (w2.setCell ⟨w.heap.size + 2, 0, none⟩ (.int .i64 0)).setCell ⟨w.heap.size + 2, 1, none⟩ (.int .i64 0) = WE at HF ⊢
              obtain ⟨⟨r0, r1⟩, _⟩ := rat_at HF.out.1
              exact bodyPost_ret (v := .tuple #[ratVal 0 0, .int .i64 5]) (by simp [results, Tryd.results15, go_sem, r0, r1]) rfl ⟨by rw [HR.out]; rfl, HF.out.2⟩
end Go.Proofs.YtkfjmcdfamhiaaaDoor.FrW
