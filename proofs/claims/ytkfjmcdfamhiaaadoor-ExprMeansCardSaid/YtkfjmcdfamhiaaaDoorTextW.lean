/-
  The walk of expr.Text.
-/
import Derived.Test.YtkfjmcdfamhiaaaDoorTexH
import Derived.Test.YtkfjmcdfamhiaaaDoorDeciT
import Derived.Deep.CutBlock
namespace Go.Proofs.YtkfjmcdfamhiaaaDoor.TxW
open Go.RowKit Go.Proofs.YtkfjmcdfamhiaaaDoor.Base Go.Proofs.YtkfjmcdfamhiaaaDoor.Dp Go.Proofs.YtkfjmcdfamhiaaaDoor.Tx Go.Proofs.YtkfjmcdfamhiaaaDoor.FrW Go.Proofs.YtkfjmcdfamhiaaaDoor.Fr Go.Proofs.YtkfjmcdfamhiaaaDoor.DeciW

set_option maxRecDepth 100000 in
set_option maxHeartbeats 6400000 in
theorem text_w (p : Option Addr) (l : List (Int × Int)) (c : Nat) (hl : l.length ≤ 300) (w : World) (HL : Hid (PairsIn w p l)) (hT : Hid (Tab w)) (hF : Hid (Fit l 0)) (X : ByteArray) (ok : Bool) (hr : Hid (textOut (textV l) = (X, ok))) :
    Calls Tryd.prog 10 #[.slice p l.length c] w fun e w' => e = .returned (.tuple #[.string X, .bool ok]) ∧ Below w.heap.size w w' := by
  obtain ⟨i0, hi, hz0, hz1, hz2⟩ := info_parts info_pc
  have HI := Lib.hid (And.intro hi (And.intro hz0 (And.intro hz1 hz2)))
  clear hi hz0 hz1 hz2
  go_enter Tryd.func10, Tryd.ntmps10
  go_wp2_with fail
  go_loopw [4, 15] (fun s i wr => ∃ (j : Nat) (st : List P), j ≤ l.length ∧ i = .int .i64 j ∧ st.length ≤ j ∧ Hid (textOut (Tx.runT (l.drop j) st) = (X, ok) ∧ Sm st ∧ Fit (l.drop j) st.length) ∧ Hid (StT w s st wr) ∧ (st = [] → s = .slice none 0 0)) (fun _ i _ => l.length - (intOf i).toNat)
  case atStart => exact ⟨0, [], Nat.zero_le _, rfl, Nat.le_refl _, ⟨hr.out, by simp [Sm], hF.out⟩, ⟨⟨rfl, .inl ⟨rfl, rfl⟩⟩, Below.refl _ _⟩, fun _ => rfl⟩
  case round =>
  obtain ⟨j, st, hj, rfl, hsj, HR, HS, hnil⟩ := hrel
  rename_i wr
  obtain ⟨ps, cs, rfl, hcs, hfm⟩ := HS.out.form
  have HFM := Lib.hid hfm
  have HNIL : Hid (0 < st.length ∨ (st = [] ∧ ps = none ∧ cs = 0)) := by
    rcases Nat.eq_zero_or_pos st.length with h | h
    · have he := List.eq_nil_of_length_eq_zero h
      have h2 := hnil he
      simp only [Value.slice.injEq] at h2
      exact .inr ⟨he, h2.1, h2.2.2⟩
    · exact .inl h
  clear hfm hnil
  by_cases hlt : j < l.length
  · obtain ⟨k, hk⟩ : ∃ k, l[j].1 = k := ⟨_, rfl⟩
    obtain ⟨n, hn⟩ : ∃ n, l[j].2 = n := ⟨_, rfl⟩
    obtain ⟨b, o, rfl, hc⟩ := HL.out (by omega)
    have hcj := hc j hlt
    rw [hk, hn] at hcj
    obtain ⟨ck, cn⟩ := hcj
    have ck' := (HS.out.bel.cell (p := ⟨b, o + j * 2, none⟩) (Mem.lt_of_cell ck)).trans ck
    have cn' := (HS.out.bel.cell (p := ⟨b, o + j * 2 + 1, none⟩) (Mem.lt_of_cell cn)).trans cn
    have HST := runT_step (st := st) hlt hk hn
    have HRUN : Hid (textOut (if fits (rawV st k n) = true then Tx.runT (l.drop (j + 1)) (nextT st k n) else none) = (X, ok)) := by show _ = _; rw [← HST.1]; exact HR.out.1
    have HSM : Hid (Sm st) := HR.out.2.1
    obtain ⟨hkn, htk, hfit⟩ := HST.2 HR.out.2.2
    have HFIT := Lib.hid hfit
    have HKN := Lib.hid hkn
    obtain ⟨m, hm⟩ : ∃ m : Int, (tk k : Int) = m := ⟨_, rfl⟩
    have HTK : Hid ((tk k : Int) = m) := hm
    have hnlt : ¬ ((st.length : Int) < m) := by omega
    have hm0 : 0 ≤ m := by omega
    obtain ⟨T, hTT⟩ := str_ex (rawV st k n).1
    obtain ⟨d, hd⟩ : ∃ d, (rawV st k n).2 = d := ⟨_, rfl⟩
    obtain ⟨hr1, hr2, hr3⟩ := raw_small HSM.out hkn
    rw [← hTT, len_list] at hr1
    rw [hd] at hr2 hr3
    have HRAW : Hid (rawV st k n = (T.data.toList, d)) := by show _ = _; rw [hTT, ← hd]
    clear hc ck cn hk hn HR hTT hd HST hkn hfit hm
    go_wp2_with fail
    with_reducible refine (known_c k n true HKN _).mono ?_
    rintro en w1 ⟨rfl, hb1⟩
    have S1 : Hid (StT w _ st w1) := (HS.out.below (op_bel wr k n)).below hb1
    have O1 : Hid (w1.heap[wr.heap.size]? = some (opObj k n)) := one_below (heap_alloc_new wr _) hb1
    clear hb1 ck' cn'
    have A1 := Lib.hid (RnT.new S1.out O1.out)
    obtain ⟨o0, o1⟩ := op_at O1.out
    go_wp2_with fail
    with_reducible refine (takes_c k m HTK _).mono ?_
    rintro en w' ⟨rfl, rfl⟩
    clear o0 o1
    go_upto_region 11 with fail
    obtain ⟨g, hg⟩ : ∃ g, w'.heap.size = g := ⟨_, rfl⟩
    obtain ⟨B, hB⟩ : ∃ B, wr.heap.size = B := ⟨_, rfl⟩
    rw [hg, hB] at A1
    rw [hg, hB]
    generalize w'.alloc (pcObj ⟨#[]⟩ 0 0) = W1 at A1 ⊢
    clear S1 O1 hg hB
    obtain ⟨a0, a1⟩ := op_at A1.out.op
    obtain ⟨⟨v0, v1, v2⟩, g0, g1, g2⟩ := pc_at A1.out.val
    go_upto_block 2 with fail
    go_cut [] (fun wx => Hid (RnT w B (.slice ps st.length cs) st k n g T 0 d wx))
    case first =>
      rcases kn_kinds HKN.out with ⟨rfl, hn0, hn1⟩ | ⟨rfl, hn0, hn1⟩ | ⟨hk3, hk6, rfl⟩ | ⟨rfl, rfl⟩
      · have HX : Hid (T.data.toList = textL n) := by
          show _ = _
          have h := HRAW.out
          unfold rawV at h
          rw [if_pos rfl] at h
          exact (Prod.mk.inj h).1.symm
        have hd0 : d = 0 := by
          have h := HRAW.out
          unfold rawV at h
          rw [if_pos rfl] at h
          exact (Prod.mk.inj h).2.symm
        subst hd0
        go_wp2_with fail
        with_reducible refine (text_any n (by omega) (by omega) T HX _ (hT.out.below A1.out.stk.bel)).mono ?_
        rintro en w2 ⟨rfl, hb2⟩
        have A2 := Lib.hid (A1.out.below hb2)
        clear a0 a1 v0 v1 v2 g0 g1 g2
        obtain ⟨⟨v0, v1, v2⟩, g0, g1, g2⟩ := pc_at A2.out.val
        go_wp2_with fail
        go_meet
        exact A2.out.setT T
      · obtain ⟨S, hS⟩ := str_ex (Lib.itoa n)
        have HS1 := Lib.hid hS
        have hSd : S.data.toList = Lib.decDigits n.toNat := by
          rw [hS, ← Lib.itoa_nonneg n.toNat]
          congr 1; omega
        have HX : Hid ((⟨#[36]⟩ : ByteArray) ++ S = T) := by
          have h := HRAW.out
          unfold rawV at h
          rw [if_neg (by decide), if_pos rfl] at h
          exact str_eq (by rw [app_list, hSd, ← (Prod.mk.inj h).1]; rfl)
        have hSz : S.size ≤ 21 := by rw [← len_list, hS]; exact Lib.itoa_length_le _ (by omega) (by omega)
        have hd0 : d = 0 := by
          have h := HRAW.out
          unfold rawV at h
          rw [if_neg (by decide), if_pos rfl] at h
          exact (Prod.mk.inj h).2.symm
        subst hd0
        clear hS hSd
        go_wp2_with fail
        with_reducible refine (fmt_at n S HS1 (by omega) (by omega) _ (hT.out.below A1.out.stk.bel)).mono ?_
        rintro en w2 ⟨rfl, hb2⟩
        have A2 := Lib.hid (A1.out.below hb2)
        clear a0 a1 v0 v1 v2 g0 g1 g2
        obtain ⟨⟨v0, v1, v2⟩, g0, g1, g2⟩ := pc_at A2.out.val
        go_wp2_with fail
        go_meet
        rw [HX.out]
        exact A2.out.setT T
      · have hlen : 2 ≤ st.length := by
          have h1 := HTK.out
          have h2 : tk k = 2 := by unfold tk; rw [if_neg (by omega), if_neg (by omega)]
          omega
        obtain ⟨gs, rfl⟩ := HFM.out (by omega)
        obtain ⟨m0, hm1⟩ : ∃ m0, st.length = m0 + 2 := ⟨st.length - 2, by omega⟩
        obtain ⟨m1, hm2⟩ : ∃ m1, m1 = m0 + 1 := ⟨_, rfl⟩
        have hsub1 : (st.length : Int) - 1 = (m1 : Int) := by omega
        have hsub2 : (st.length : Int) - 2 = (m0 : Int) := by omega
        obtain ⟨U, xr, xd, hU⟩ : ∃ a b c, st.getD m0 ([], 0, 0) = (a, b, c) := ⟨_, _, _, rfl⟩
        obtain ⟨V, yr, yd, hV⟩ : ∃ a b c, st.getD m1 ([], 0, 0) = (a, b, c) := ⟨_, _, _, rfl⟩
        obtain ⟨u1, u2, u3⟩ := HSM.out.getD m0
        obtain ⟨z1, z2, z3⟩ := HSM.out.getD m1
        have ht := pc_top A1.out.stk.own m0 (by omega)
        have hs := pc_top A1.out.stk.own m1 (by omega)
        rw [hU] at u1 u2 u3 ht
        rw [hV] at z1 z2 z3 hs
        dsimp only at u1 u2 u3 ht z1 z2 z3 hs
        obtain ⟨BU, hBU⟩ : ∃ b : ByteArray, b = ⟨U.toArray⟩ := ⟨_, rfl⟩
        obtain ⟨BV, hBV⟩ : ∃ b : ByteArray, b = ⟨V.toArray⟩ := ⟨_, rfl⟩
        have hUl : BU.data.toList = U := by rw [hBU]
        have hVl : BV.data.toList = V := by rw [hBV]
        rw [← hUl, len_list] at u1
        rw [← hVl, len_list] at z1
        simp only [← hBU] at ht
        simp only [← hBV] at hs
        have HX : Hid (((pairV k (BU.data.toList, xr, xd) (BV.data.toList, yr, yd)).1, (pairV k (BU.data.toList, xr, xd) (BV.data.toList, yr, yd)).2.2) = (T.data.toList, d)) := by
          show _ = _
          have h := HRAW.out
          unfold rawV topP at h
          rw [if_neg (by omega), if_neg (by omega), if_neg (by omega), show st.length - 2 = m0 by omega, show st.length - 1 = m1 by omega, hU, hV] at h
          rw [hUl, hVl]
          exact h
        obtain ⟨q0, q1, q2⟩ := ht
        obtain ⟨s0, s1, s2⟩ := hs
        have y2 : IntKind.i64.wrap (m0 : Int) = (m0 : Int) := by rw [IntKind.wrap_i64]; omega
        have y2b : IntKind.i64.wrap (m1 : Int) = (m1 : Int) := by rw [IntKind.wrap_i64]; omega
        have y0 : (0 : Int) ≤ (m0 : Int) := Int.natCast_nonneg _
        have y0b : (0 : Int) ≤ (m1 : Int) := Int.natCast_nonneg _
        have y3 : (m0 : Int) < (st.length : Int) := by omega
        have y3b : (m1 : Int) < (st.length : Int) := by omega
        have hcs0 : ¬ cs = 0 := by omega
        have t1 : (k == 1) = false := by simp; omega
        have t2 : (k == 2) = false := by simp; omega
        have t7 : (k == 7) = false := by simp; omega
        have gne : gs ≠ g := fun e => A1.out.ne (by rw [e]; rfl)
        have bne : B ≠ g := A1.out.nb
        have hgsl := Mem.lt_of_cell q0
        have hBl := Mem.lt_of_cell a0
        clear hU hV hUl hVl hBU hBV hm1 hm2
        go_upto_region 12 with fail
        go_region_held3 (fun x => x.cell? ⟨B, 0, none⟩ = some (.int .i64 k) ∧ (x.cell? ⟨gs, m0 * 3, none⟩ = some (.string BU) ∧ x.cell? ⟨gs, m0 * 3 + 1, none⟩ = some (.int .i64 xr) ∧ x.cell? ⟨gs, m0 * 3 + 2, none⟩ = some (.int .i64 xd)) ∧ (x.cell? ⟨gs, m1 * 3, none⟩ = some (.string BV) ∧ x.cell? ⟨gs, m1 * 3 + 1, none⟩ = some (.int .i64 yr) ∧ x.cell? ⟨gs, m1 * 3 + 2, none⟩ = some (.int .i64 yd)))
          (first
            | exact ⟨a0, ⟨q0, q1, q2⟩, s0, s1, s2⟩
            | exact ⟨(hb2.cell hBl).trans a0, ⟨(hb2.cell hgsl).trans q0, (hb2.cell hgsl).trans q1, (hb2.cell hgsl).trans q2⟩, (hb2.cell hgsl).trans s0, (hb2.cell hgsl).trans s1, (hb2.cell hgsl).trans s2⟩
            | exact ⟨(cell_f3 _ bne _ _ _ _).trans ((hb2.cell hBl).trans a0), ⟨(cell_f3 _ gne _ _ _ _).trans ((hb2.cell hgsl).trans q0), (cell_f3 _ gne _ _ _ _).trans ((hb2.cell hgsl).trans q1), (cell_f3 _ gne _ _ _ _).trans ((hb2.cell hgsl).trans q2)⟩, (cell_f3 _ gne _ _ _ _).trans ((hb2.cell hgsl).trans s0), (cell_f3 _ gne _ _ _ _).trans ((hb2.cell hgsl).trans s1), (cell_f3 _ gne _ _ _ _).trans ((hb2.cell hgsl).trans s2)⟩
            | go_keep)
          (first
            | (go_at_call 26; (with_reducible refine (pair_c k ⟨hk3, hk6⟩ BU BV xr xd yr yd (by omega) (by omega) u2 (by omega) z2 (by omega) T d HX _).mono ?_); rintro en w2 ⟨rfl, hb2⟩; have A2 := Lib.hid (A1.out.drew.below hb2); obtain ⟨⟨v0b, v1b, v2b⟩, g0b, g1b, g2b⟩ := pc_at A2.out.val))
        go_wp2_with fail
        go_meet
        exact ((A2.out.setT T).setR 0).setD d
      · have hlen : 1 ≤ st.length := by
          have h1 := HTK.out
          have h2 : tk 7 = 1 := rfl
          omega
        obtain ⟨gs, rfl⟩ := HFM.out (by omega)
        obtain ⟨m1, hm1⟩ : ∃ m1, st.length = m1 + 1 := ⟨st.length - 1, by omega⟩
        have hsub1 : (st.length : Int) - 1 = (m1 : Int) := by omega
        obtain ⟨V, yr, yd, hV⟩ : ∃ a b c, st.getD m1 ([], 0, 0) = (a, b, c) := ⟨_, _, _, rfl⟩
        obtain ⟨z1, z2, z3⟩ := HSM.out.getD m1
        have hs := pc_top A1.out.stk.own m1 (by omega)
        rw [hV] at z1 z2 z3 hs
        dsimp only at z1 z2 z3 hs
        obtain ⟨BV, hBV⟩ : ∃ b : ByteArray, b = ⟨V.toArray⟩ := ⟨_, rfl⟩
        have hVl : BV.data.toList = V := by rw [hBV]
        rw [← hVl, len_list] at z1
        simp only [← hBV] at hs
        obtain ⟨T2, hT2⟩ := str_ex (insideV (V, yr, yd) 3).1
        obtain ⟨r2, hr2'⟩ : ∃ x, (insideV (V, yr, yd) 3).2.1 = x := ⟨_, rfl⟩
        obtain ⟨d2, hd2⟩ : ∃ x, (insideV (V, yr, yd) 3).2.2 = x := ⟨_, rfl⟩
        have HI2 : Hid (insideV (BV.data.toList, yr, yd) 3 = (T2.data.toList, r2, d2)) := by show _ = _; rw [hVl, hT2, ← hr2', ← hd2]
        have hT2s : T2.size ≤ 302 := by have := inside_size HI2.out; omega
        have hcat : ¬ 9223372036854775807 < 1 + T2.size := by omega
        have hcat2 : ¬ 9223372036854775806 < T2.size := by omega
        have hcat3 : T2.size ≤ 9223372036854775806 := by omega
        have hd2b := inside_pos (V, yr, yd) 3 z2
        have hd2c := (inside_len (V, yr, yd) 3).2
        rw [hd2] at hd2b hd2c
        dsimp only at hd2c
        have hwd : IntKind.i64.wrap (d2 + 1) = d2 + 1 := by rw [IntKind.wrap_i64]; omega
        have HX : Hid ((⟨#[45]⟩ : ByteArray) ++ T2 = T ∧ d2 + 1 = d) := by
          have h := HRAW.out
          unfold rawV topP at h
          rw [if_neg (by decide), if_neg (by decide), if_pos rfl, show st.length - 1 = m1 by omega, hV] at h
          obtain ⟨h1, h2⟩ := Prod.mk.inj h
          exact ⟨str_eq (by rw [app_list, ← h1, hT2]; rfl), by rw [← h2, hd2]⟩
        obtain ⟨s0, s1, s2⟩ := hs
        have y2b : IntKind.i64.wrap (m1 : Int) = (m1 : Int) := by rw [IntKind.wrap_i64]; omega
        have y0b : (0 : Int) ≤ (m1 : Int) := Int.natCast_nonneg _
        have y3b : (m1 : Int) < (st.length : Int) := by omega
        have hcs0 : ¬ cs = 0 := by omega
        clear hV hVl hBV hm1 hT2 hr2' hd2
        go_wp2_with fail
        with_reducible refine (inside_c BV T2 yr yd 3 r2 d2 (by omega) z2 (by omega) HI2 _).mono ?_
        rintro en w2 ⟨rfl, hb2⟩
        have A2 := Lib.hid (A1.out.below hb2)
        clear a0 a1 v0 v1 v2 g0 g1 g2 s0 s1 s2
        go_upto_region 19 with fail
        have A3 := Lib.hid (A2.out.alloc (pcObj T2 r2 d2))
        have hn2 := heap_alloc_new w2 (pcObj T2 r2 d2)
        obtain ⟨h, hh⟩ : ∃ h, w2.heap.size = h := ⟨_, rfl⟩
        have hne : h ≠ g := by
          have := (Array.getElem?_eq_some_iff.1 A2.out.val).1
          omega
        rw [hh] at hn2
        rw [hh]
        generalize w2.alloc (pcObj T2 r2 d2) = W2 at A3 hn2 ⊢
        obtain ⟨⟨n0, n1, n2⟩, _⟩ := pc_at hn2
        obtain ⟨⟨v0, v1, v2⟩, g0, g1, g2⟩ := pc_at A3.out.val
        go_region_held3 (fun x => x.cell? ⟨h, 0, none⟩ = some (.string T2) ∧ x.cell? ⟨h, 2, none⟩ = some (.int .i64 d2)) (first | exact ⟨n0, n2⟩ | exact ⟨(cell_f1 _ hne _ _).trans n0, (cell_f1 _ hne _ _).trans n2⟩ | exact ⟨(cell_f2 _ hne _ _ _).trans n0, (cell_f2 _ hne _ _ _).trans n2⟩ | go_keep) (fail)
        go_wp2_with fail
        go_meet
        have h1 := ((A3.out.setT ((⟨#[45]⟩ : ByteArray) ++ T2)).setD (d2 + 1)).drew
        rw [HX.out.1, HX.out.2] at h1
        rw [HX.out.1, HX.out.2]
        exact h1
    case rest =>
      have A3 := hcut
      clear hcut A1 a0 a1 v0 v1 v2 g0 g1 g2
      obtain ⟨a0, a1⟩ := op_at A3.out.op
      obtain ⟨⟨v0, v1, v2⟩, g0, g1, g2⟩ := pc_at A3.out.val
      obtain ⟨q, hq⟩ : ∃ q, Tx.rk k = q := ⟨_, rfl⟩
      have HRK : Hid (FrW.rk k = q) := hq
      go_wp2_with fail
      with_reducible refine (rank_c k q HRK _).mono ?_
      rintro en w' ⟨rfl, rfl⟩
      go_upto_region 21 with fail
      have A4 := Lib.hid (A3.out.setR q)
      clear A3 a0 a1 v0 v1 v2 g0 g1 g2
      generalize w'.setCell ⟨g, 1, none⟩ (.int .i64 q) = W4 at A4 ⊢
      obtain ⟨a0, a1⟩ := op_at A4.out.op
      obtain ⟨⟨v0, v1, v2⟩, g0, g1, g2⟩ := pc_at A4.out.val
      by_cases hT3 : (300 : Int) < (T.size : Int)
      · have HBAD : Hid (X = ⟨#[]⟩ ∧ ok = false) := by
          have h := HRUN.out
          rw [if_neg (by rw [HRAW.out]; unfold fits; simp only [Bool.and_eq_true, decide_eq_true_eq, len_list]; omega)] at h
          exact ⟨(Prod.mk.inj h).1.symm, (Prod.mk.inj h).2.symm⟩
        go_wp2_with fail
        go_ret2
        exact ⟨by rw [HBAD.out.1, HBAD.out.2]; rfl, A4.out.stk.bel⟩
      · by_cases hd3 : (30 : Int) < d
        · have HBAD : Hid (X = ⟨#[]⟩ ∧ ok = false) := by
            have h := HRUN.out
            rw [if_neg (by rw [HRAW.out]; unfold fits; simp only [Bool.and_eq_true, decide_eq_true_eq, len_list]; omega)] at h
            exact ⟨(Prod.mk.inj h).1.symm, (Prod.mk.inj h).2.symm⟩
          go_wp2_with fail
          go_ret2
          exact ⟨by rw [HBAD.out.1, HBAD.out.2]; rfl, A4.out.stk.bel⟩
        · have hfits : fits (rawV st k n) = true := by rw [HRAW.out]; unfold fits; simp only [Bool.and_eq_true, decide_eq_true_eq, len_list]; omega
          have HNX : Hid (textOut (Tx.runT (l.drop (j + 1)) (nextT st k n)) = (X, ok) ∧ Sm (nextT st k n) ∧ Fit (l.drop (j + 1)) (nextT st k n).length) := by
            refine ⟨?_, next_sm HSM.out HKN.out hfits, ?_⟩
            · have h := HRUN.out
              rw [if_pos hfits] at h
              exact h
            · rw [next_len]; exact HFIT.out
          obtain ⟨mm, hmm⟩ : ∃ mm, st.length - tk k = mm := ⟨_, rfl⟩
          have HN2 : Hid (nextT st k n = st.take mm ++ [(T.data.toList, q, d)]) := by
            show _ = _
            unfold nextT
            rw [HRAW.out, hq, hmm]
          have hsub : (st.length : Int) - m = (mm : Int) := by have := HTK.out; omega
          have hmml : mm ≤ st.length := by omega
          clear hfits hmm hq
          rcases HNIL.out with hpos | hemp
          · obtain ⟨gs, rfl⟩ := HFM.out hpos
            have y0 : (0 : Int) ≤ (mm : Int) := Int.natCast_nonneg _
            have y1 : (mm : Int) ≤ (cs : Int) := by omega
            have y2 : IntKind.i64.wrap (mm : Int) = (mm : Int) := by rw [IntKind.wrap_i64]; omega
            have hcs0 : ¬ cs = 0 := by omega
            go_upto_region 23 with fail
            clear a0 a1 v0 v1 v2 g0 g1 g2
            have q1 := op_at A4.out.op
            have q2 := (pc_at A4.out.val).1
            have hBl := (Array.getElem?_eq_some_iff.1 A4.out.op).1
            have hgl := (Array.getElem?_eq_some_iff.1 A4.out.val).1
            have hnB : (Value.slice (some ⟨gs, 0, none⟩) mm cs).ownBlock ≠ some B := own_ne A4.out.stk.own A4.out.op (by decide)
            have hng : (Value.slice (some ⟨gs, 0, none⟩) mm cs).ownBlock ≠ some g := A4.out.ne
            go_region_held3 (fun x => x.cell? ⟨B, 0, none⟩ = some (.int .i64 k) ∧ x.cell? ⟨g, 0, none⟩ = some (.string T) ∧ x.cell? ⟨g, 1, none⟩ = some (.int .i64 q) ∧ x.cell? ⟨g, 2, none⟩ = some (.int .i64 d))
              (first
                | go_keep
                | (go_split_ands
                   refine ⟨?_, ?_, ?_, ?_⟩
                   · (rw [hgrow.cell_far _ (by simp; omega) (Ne.symm hnB)]; go_keep)
                   · (rw [hgrow.cell_far _ (by simp; omega) (Ne.symm hng)]; go_keep)
                   · (rw [hgrow.cell_far _ (by simp; omega) (Ne.symm hng)]; go_keep)
                   · (rw [hgrow.cell_far _ (by simp; omega) (Ne.symm hng)]; go_keep)))
              (first
                | (go_at_call 21; with_reducible refine (takes_c k m HTK _).mono ?_; rintro en w' ⟨rfl, rfl⟩)
                | (refine step_append_lies _ (by rfl) _ _ _ (by rfl) w.heap.size 59 i0 (.agg #[.string ⟨#[]⟩, .int .i64 0, .int .i64 0]) 3 32 Tryd.underlying57 HI.out.1 HI.out.2.1 HI.out.2.2.1 HI.out.2.2.2 rfl (by omega) (.slice (some ⟨gs, 0, none⟩) mm cs) mm _ (by rfl) (((pc_take A4.out.stk.own mm (by omega)).alloc _).drew) ⟨W4.heap.size, 0, none⟩ 1 1 [.string T, .int .i64 q, .int .i64 d] (by rfl) (by rfl) (World.news_of_block (cs := #[.string T, .int .i64 q, .int .i64 d]) (t := 59) (fr := (0, 0)) (heap_alloc_new W4 _)) (by simp [Value.oneCell']) (by omega) (by unfold maxLen; omega) (by omega) (by have := A4.out.stk.bel.size; simp; omega) (W4.heap.size + 1) (by simp) ?_; intro gg cap w4 hown hgrow hat hltt))
            all_goals
              have HST := Lib.hid (A4.out.stk.push (v2 := .slice (some ⟨gs, 0, none⟩) mm cs) rfl hgrow mm (by omega) hown)
              clear hown hgrow hat hltt q1 q2 hBl hgl hnB hng
              go_wp2_with fail
              go_round <;> first | exact ⟨j + 1, st.take mm ++ [(T.data.toList, q, d)], by omega, by go_num, by simp only [List.length_append, List.length_take, List.length_cons, List.length_nil]; omega, by rw [← HN2.out]; exact HNX.out, HST.out, fun h => by simp at h⟩ | (simp [intOf] <;> omega)
          · have HEMP := Lib.hid hemp
            clear hemp
            obtain ⟨hst, rfl, rfl⟩ := HEMP.out
            subst hst
            obtain rfl : mm = 0 := by simpa using hmml
            obtain rfl : m = 0 := by simp only [List.length_nil] at hsub; omega
            simp only [List.length_nil, Int.natCast_zero]
            have y0 : (0 : Int) ≤ 0 := Int.le_refl _
            have y2 : IntKind.i64.wrap (0 : Int) = 0 := by decide
            go_upto_region 23 with fail
            clear a0 a1 v0 v1 v2 g0 g1 g2
            have q1 := op_at A4.out.op
            have q2 := (pc_at A4.out.val).1
            have hBl := (Array.getElem?_eq_some_iff.1 A4.out.op).1
            have hgl := (Array.getElem?_eq_some_iff.1 A4.out.val).1
            have hnB : (Value.slice none 0 0).ownBlock ≠ some B := own_ne A4.out.stk.own A4.out.op (by decide)
            have hng : (Value.slice none 0 0).ownBlock ≠ some g := A4.out.ne
            go_region_held3 (fun x => x.cell? ⟨B, 0, none⟩ = some (.int .i64 k) ∧ x.cell? ⟨g, 0, none⟩ = some (.string T) ∧ x.cell? ⟨g, 1, none⟩ = some (.int .i64 q) ∧ x.cell? ⟨g, 2, none⟩ = some (.int .i64 d))
              (first
                | go_keep
                | (go_split_ands
                   refine ⟨?_, ?_, ?_, ?_⟩
                   · (rw [hgrow.cell_far _ (by simp; omega) (Ne.symm hnB)]; go_keep)
                   · (rw [hgrow.cell_far _ (by simp; omega) (Ne.symm hng)]; go_keep)
                   · (rw [hgrow.cell_far _ (by simp; omega) (Ne.symm hng)]; go_keep)
                   · (rw [hgrow.cell_far _ (by simp; omega) (Ne.symm hng)]; go_keep)))
              (first
                | (go_at_call 21; with_reducible refine (takes_c k 0 HTK _).mono ?_; rintro en w' ⟨rfl, rfl⟩)
                | (refine step_append_lies _ (by rfl) _ _ _ (by rfl) w.heap.size 59 i0 (.agg #[.string ⟨#[]⟩, .int .i64 0, .int .i64 0]) 3 32 Tryd.underlying57 HI.out.1 HI.out.2.1 HI.out.2.2.1 HI.out.2.2.2 rfl (by omega) (.slice none 0 0) 0 _ (by rfl) (((pc_take (l := []) A4.out.stk.own 0 (Nat.le_refl 0)).alloc _).drew) ⟨W4.heap.size, 0, none⟩ 1 1 [.string T, .int .i64 q, .int .i64 d] (by rfl) (by rfl) (World.news_of_block (cs := #[.string T, .int .i64 q, .int .i64 d]) (t := 59) (fr := (0, 0)) (heap_alloc_new W4 _)) (by simp [Value.oneCell']) (by omega) (by unfold maxLen; omega) (by omega) (by have := A4.out.stk.bel.size; simp; omega) (W4.heap.size + 1) (by simp) ?_; intro gg cap w4 hown hgrow hat hltt))
            all_goals
              have HST := Lib.hid (A4.out.stk.push (v2 := .slice none 0 0) rfl hgrow 0 (by omega) hown)
              clear hown hgrow hat hltt q1 q2 hBl hgl hnB hng
              go_wp2_with fail
              go_round <;> first | exact ⟨j + 1, ([] : List P).take 0 ++ [(T.data.toList, q, d)], by omega, by go_num, by simp only [List.length_append, List.length_take, List.length_cons, List.length_nil]; omega, by rw [← HN2.out]; exact HNX.out, HST.out, fun h => by simp at h⟩ | (simp [intOf] <;> omega)
  · have hje : j = l.length := by omega
    have hend := HR.out
    rw [hje, List.drop_length] at hend
    have h1 : st.length = 1 := hend.2.2
    obtain ⟨x, hx⟩ : ∃ x, st = [x] := by
      match st, h1 with
      | [x], _ => exact ⟨x, rfl⟩
    have HX : Hid (X = ⟨x.1.toArray⟩ ∧ ok = true) := by
      have h := hend.1
      rw [hx] at h
      exact ⟨(Prod.mk.inj h).1.symm, (Prod.mk.inj h).2.symm⟩
    obtain ⟨gs, rfl⟩ := HFM.out (by omega)
    have ht := (pc_top HS.out.own 0 (by omega)).1
    rw [show st.getD 0 ([], 0, 0) = x by rw [hx]; rfl, ← HX.out.1] at ht
    simp only [Nat.zero_mul] at ht
    have hl1 : ((st.length : Int) == 1) = true := by rw [h1]; rfl
    have hl2 : (0 : Int) < (st.length : Int) := by omega
    clear hend hx h1 hje
    go_wp2_with fail
    go_ret2
    exact ⟨by rw [HX.out.2]; rfl, HS.out.bel⟩
end Go.Proofs.YtkfjmcdfamhiaaaDoor.TxW
