/-
  The walk of expr.Eval.
-/
import Derived.Test.YtkfjmcdfamhiaaaDoorEvalH
import Derived.Deep.RegionHeld3
import Derived.Deep.DrawnRows
namespace Go.Proofs.YtkfjmcdfamhiaaaDoor.FrW
open Go.RowKit Go.Proofs.YtkfjmcdfamhiaaaDoor.Base Go.Proofs.YtkfjmcdfamhiaaaDoor.Dp Go.Proofs.YtkfjmcdfamhiaaaDoor.DeciW Go.Proofs.YtkfjmcdfamhiaaaDoor.Fr
set_option maxRecDepth 100000 in
set_option maxHeartbeats 6400000 in
theorem eval_w (p q : Option Addr) (l vars : List (Int × Int)) (c d : Nat) (hl : l.length ≤ 300) (hv : vars.length ≤ 100) (w : World) (HL : Hid (PairsIn w p l)) (HV : Hid (PairsIn w q vars)) (r : Int × Int × Nat) (hr : Hid (evalV vars l = r)) :
    Calls Tryd.prog 8 #[.slice p l.length c, .slice q vars.length d] w (RatOut r w) := by
  obtain ⟨i0, hi, hz0, hz1, hz2⟩ := info_parts info_rat
  have HI := Lib.hid (And.intro hi (And.intro hz0 (And.intro hz1 hz2)))
  clear hi hz0 hz1 hz2
  go_enter Tryd.func8, Tryd.ntmps8
  go_wp2_with fail
  go_loopw [6, 14] (fun s i wr => ∃ (j : Nat) (st : List (Int × Int)), j ≤ l.length ∧ i = .int .i64 j ∧ st.length ≤ j ∧ Hid (runV vars (l.drop j) st = r ∧ Small st) ∧ Hid (StAt w s st wr) ∧ (st = [] → s = .slice none 0 0)) (fun _ i _ => l.length - (intOf i).toNat)
  case atStart => exact ⟨0, [], Nat.zero_le _, rfl, Nat.le_refl _, ⟨hr.out, by simp [Small]⟩, ⟨⟨rfl, .inl ⟨rfl, rfl⟩⟩, by show (w.heap.push _)[w.heap.size]? = _; simp, (Below.refl _ _).alloc (Nat.le_refl _) _⟩, fun _ => rfl⟩
  case round =>
  obtain ⟨j, st, hj, rfl, hsj, HR, HS, hnil⟩ := hrel
  rename_i wr
  obtain ⟨ps, cs, rfl, hps, hcs, hfm⟩ := own_pairs HS.out.own
  have HPS := Lib.hid hps
  have HNIL : Hid (0 < st.length ∨ (st = [] ∧ ps = none ∧ cs = 0)) := by
    rcases Nat.eq_zero_or_pos st.length with h | h
    · have he := List.eq_nil_of_length_eq_zero h
      have h2 := hnil he
      simp only [Value.slice.injEq] at h2
      exact .inr ⟨he, h2.1, h2.2.2⟩
    · exact .inl h
  have HFM : Hid (0 < st.length → ∃ g0, ps = some ⟨g0, 0, none⟩) := by
    intro h
    obtain ⟨g0, o0, rfl, _⟩ := hps h
    rcases hfm with h | ⟨g1, h, _⟩
    · cases h
    · exact ⟨g1, h⟩
  clear hps hnil hfm
  by_cases hlt : j < l.length
  · obtain ⟨k, hk⟩ : ∃ k, l[j].1 = k := ⟨_, rfl⟩
    obtain ⟨n, hn⟩ : ∃ n, l[j].2 = n := ⟨_, rfl⟩
    have hp := HL.out (by omega)
    obtain ⟨b, o, rfl, hc⟩ := hp
    have hcj := hc j hlt
    rw [hk, hn] at hcj
    obtain ⟨ck, cn⟩ := hcj
    have ck' := (HS.out.bel.cell (p := ⟨b, o + j * 2, none⟩) (Mem.lt_of_cell ck)).trans ck
    have cn' := (HS.out.bel.cell (p := ⟨b, o + j * 2 + 1, none⟩) (Mem.lt_of_cell cn)).trans cn
    have HRUN : Hid _ := run_step hlt hk hn HR.out.1
    have HSM : Hid (Small st) := HR.out.2
    clear hc ck cn hk hn HR
    by_cases hkn : kn k n = true
    · by_cases h1 : k = 1
      · subst h1
        have hb1 : 0 ≤ n ∧ n < 1000000000000 := by have := kn_kinds hkn; omega
        obtain ⟨hn0, hn1⟩ := hb1
        have HKN := Lib.hid hkn
        have HTK : Hid ((tk 1 : Int) = 0) := rfl
        obtain ⟨N, D, e, hR⟩ : ∃ N D e, makeV n 1000000 = (N, D, e) := ⟨_, _, _, rfl⟩
        have HRV : Hid (makeV n 1000000 = (N, D, e)) := hR
        have hin := makeV_in n 1000000
        rw [hR] at hin
        have HIN := Lib.hid hin
        have HOP : Hid (opV vars st 1 n = (N, D, e)) := by show _ = _; unfold opV; rw [if_pos rfl, hR]
        clear hkn hR hin
        go_wp2_with fail
        with_reducible refine (known_c 1 n true HKN _).mono ?_
        rintro en w1 ⟨rfl, hb1⟩
        have S1 : Hid (StAt w _ st w1) := (HS.out.below (op_bel wr 1 n)).below hb1
        have O1 : Hid (w1.heap[wr.heap.size]? = some (opObj 1 n)) := one_below (heap_alloc_new wr _) hb1
        clear hb1 ck' cn'
        have A1 := Lib.hid (Rnd.new S1.out O1.out)
        obtain ⟨o0, o1⟩ := op_at O1.out
        go_wp2_with fail
        with_reducible refine (takes_c 1 0 HTK _).mono ?_
        rintro en w' ⟨rfl, rfl⟩
        clear o0 o1
        go_upto_region 10 with fail
        obtain ⟨g, hg⟩ : ∃ g, w'.heap.size = g := ⟨_, rfl⟩
        obtain ⟨B, hB⟩ : ∃ B, wr.heap.size = B := ⟨_, rfl⟩
        rw [hg, hB] at A1
        rw [hg, hB]
        generalize w'.alloc (ratObj 0 0) = W1 at A1 ⊢
        clear S1 O1 hg hB
        obtain ⟨a0, a1⟩ := op_at A1.out.op
        obtain ⟨⟨v0, v1⟩, g0, g1⟩ := rat_at A1.out.val
        go_wp2_with fail
        with_reducible refine (make_c n 1000000 (by omega) (by omega) (by omega) (by omega) (N, D, e) HRV _).mono ?_
        rintro en w2 ⟨rfl, hb2⟩
        have A2 := Lib.hid (A1.out.below hb2)
        clear hb2 a0 a1 v0 v1 g0 g1 A1
        obtain ⟨a0, a1⟩ := op_at A2.out.op
        obtain ⟨⟨v0, v1⟩, g0, g1⟩ := rat_at A2.out.val
        go_upto_region 22 with fail
        have A3 := Lib.hid (A2.out.set N D)
        clear A2
        generalize ((w2.setCell ⟨g, 0, none⟩ (.int .i64 N)).setCell ⟨g, 1, none⟩ (.int .i64 D)) = W3 at A3 ⊢
        by_cases he : e = 0
        · subst he
          rcases HNIL.out with hpos | hemp
          · obtain ⟨gs, rfl⟩ := HFM.out hpos
            have HNX : Hid (runV vars (l.drop (j + 1)) (st.take st.length ++ [(N, D)]) = r ∧ Small (st.take st.length ++ [(N, D)])) := ⟨run_ok HRUN.out (step_ok HKN.out (Nat.zero_le _) HOP.out (by simp [tk])), (HSM.out.take _).snoc HIN.out.1 HIN.out.2.1 HIN.out.2.2.1 HIN.out.2.2.2⟩
            go_upto_region 24 with fail
            clear a0 a1 v0 v1 g0 g1
            have q1 := op_at A3.out.op
            have q2 := (rat_at A3.out.val).1
            have hBl := (Array.getElem?_eq_some_iff.1 A3.out.op).1
            have hgl := (Array.getElem?_eq_some_iff.1 A3.out.val).1
            have hnB : (Value.slice (some ⟨gs, 0, none⟩) st.length cs).ownBlock ≠ some B := own_ne A3.out.stk.own A3.out.op (by decide)
            have hng : (Value.slice (some ⟨gs, 0, none⟩) st.length cs).ownBlock ≠ some g := A3.out.ne
            have y0 : (0 : Int) ≤ ((st.length : Nat) : Int) := Int.natCast_nonneg _
            have y1 : ((st.length : Nat) : Int) ≤ (cs : Int) := by omega
            have y2 : IntKind.i64.wrap ((st.length : Nat) : Int) = ((st.length : Nat) : Int) := by rw [IntKind.wrap_i64]; omega
            have hcs0 : ¬ cs = 0 := by omega
            go_region_held3 (fun x => x.cell? ⟨B, 0, none⟩ = some (.int .i64 1) ∧ x.cell? ⟨g, 0, none⟩ = some (.int .i64 N) ∧ x.cell? ⟨g, 1, none⟩ = some (.int .i64 D))
              (first
                | go_keep
                | (go_split_ands
                   refine ⟨?_, ?_, ?_⟩
                   · (rw [hgrow.cell_far _ (by simp; omega) (Ne.symm hnB)]; go_keep)
                   · (rw [hgrow.cell_far _ (by simp; omega) (Ne.symm hng)]; go_keep)
                   · (rw [hgrow.cell_far _ (by simp; omega) (Ne.symm hng)]; go_keep)))
              (first
                | (go_at_call 21; with_reducible refine (takes_c 1 0 HTK _).mono ?_; rintro en w' ⟨rfl, rfl⟩)
                | (refine step_append_lies _ (by rfl) _ _ _ (by rfl) (w.heap.size + 1) 27 i0 (.agg #[.int .i64 0, .int .i64 0]) 2 16 Tryd.underlying47 HI.out.1 HI.out.2.1 HI.out.2.2.1 HI.out.2.2.2 rfl (by omega) (.slice (some ⟨gs, 0, none⟩) st.length cs) st.length _ (by rfl) (((own_cut A3.out.stk.own st.length (by omega)).alloc _).drew) ⟨W3.heap.size, 0, none⟩ 1 1 [.int .i64 N, .int .i64 D] (by rfl) (by rfl) (World.news_of_block (cs := #[.int .i64 N, .int .i64 D]) (t := 27) (fr := (0, 0)) (heap_alloc_new W3 _)) (by simp [Value.oneCell']) (by omega) (by unfold maxLen; omega) (by omega) (by have := A3.out.stk.lt; simp; omega) (W3.heap.size + 1) (by simp) ?_; intro gg cap w4 hown hgrow hat hltt))
            all_goals
              have HST := Lib.hid (A3.out.stk.push (v2 := .slice (some ⟨gs, 0, none⟩) st.length cs) rfl hgrow st.length (by omega) hown)
              clear hown hgrow hat hltt q1 q2 hBl hgl hnB hng
              go_wp2_with fail
              go_round <;> first | exact ⟨j + 1, st.take st.length ++ [(N, D)], by omega, by go_num, by simp only [List.length_append, List.length_take, List.length_cons, List.length_nil]; omega, HNX.out, HST.out, fun h => by simp at h⟩ | (simp [intOf] <;> omega)
          · have HEMP := Lib.hid hemp
            clear hemp
            obtain ⟨hst, rfl, rfl⟩ := HEMP.out
            subst hst
            have HNX : Hid (runV vars (l.drop (j + 1)) (([] : List (Int × Int)).take 0 ++ [(N, D)]) = r ∧ Small (([] : List (Int × Int)).take 0 ++ [(N, D)])) := ⟨run_ok HRUN.out (step_ok HKN.out (Nat.zero_le _) HOP.out (by simp [tk])), (HSM.out.take _).snoc HIN.out.1 HIN.out.2.1 HIN.out.2.2.1 HIN.out.2.2.2⟩
            simp only [List.length_nil, Int.natCast_zero]
            have y0 : (0 : Int) ≤ 0 := Int.le_refl _
            have y2 : IntKind.i64.wrap (0 : Int) = 0 := by decide
            go_upto_region 24 with fail
            clear a0 a1 v0 v1 g0 g1
            have q1 := op_at A3.out.op
            have q2 := (rat_at A3.out.val).1
            have hBl := (Array.getElem?_eq_some_iff.1 A3.out.op).1
            have hgl := (Array.getElem?_eq_some_iff.1 A3.out.val).1
            have hnB : (Value.slice none 0 0).ownBlock ≠ some B := own_ne A3.out.stk.own A3.out.op (by decide)
            have hng : (Value.slice none 0 0).ownBlock ≠ some g := A3.out.ne
            go_region_held3 (fun x => x.cell? ⟨B, 0, none⟩ = some (.int .i64 1) ∧ x.cell? ⟨g, 0, none⟩ = some (.int .i64 N) ∧ x.cell? ⟨g, 1, none⟩ = some (.int .i64 D))
              (first
                | go_keep
                | (go_split_ands
                   refine ⟨?_, ?_, ?_⟩
                   · (rw [hgrow.cell_far _ (by simp; omega) (Ne.symm hnB)]; go_keep)
                   · (rw [hgrow.cell_far _ (by simp; omega) (Ne.symm hng)]; go_keep)
                   · (rw [hgrow.cell_far _ (by simp; omega) (Ne.symm hng)]; go_keep)))
              (first
                | (go_at_call 21; with_reducible refine (takes_c 1 0 HTK _).mono ?_; rintro en w' ⟨rfl, rfl⟩)
                | (refine step_append_lies _ (by rfl) _ _ _ (by rfl) (w.heap.size + 1) 27 i0 (.agg #[.int .i64 0, .int .i64 0]) 2 16 Tryd.underlying47 HI.out.1 HI.out.2.1 HI.out.2.2.1 HI.out.2.2.2 rfl (by omega) (.slice none 0 0) 0 _ (by rfl) (((own_cut A3.out.stk.own 0 (Nat.le_refl 0)).alloc _).drew) ⟨W3.heap.size, 0, none⟩ 1 1 [.int .i64 N, .int .i64 D] (by rfl) (by rfl) (World.news_of_block (cs := #[.int .i64 N, .int .i64 D]) (t := 27) (fr := (0, 0)) (heap_alloc_new W3 _)) (by simp [Value.oneCell']) (by omega) (by unfold maxLen; omega) (by omega) (by have := A3.out.stk.lt; simp; omega) (W3.heap.size + 1) (by simp) ?_; intro gg cap w4 hown hgrow hat hltt))
            all_goals
              have HST := Lib.hid (A3.out.stk.push (v2 := .slice none 0 0) rfl hgrow 0 (by omega) hown)
              clear hown hgrow hat hltt q1 q2 hBl hgl hnB hng
              go_wp2_with fail
              go_round <;> first | exact ⟨j + 1, ([] : List (Int × Int)).take 0 ++ [(N, D)], by omega, by go_num, by simp only [List.length_append, List.length_take, List.length_cons, List.length_nil]; omega, HNX.out, HST.out, fun h => by simp at h⟩ | (simp [intOf] <;> omega)
        · have te : ((e : Int) == 0) = false := by simp; omega
          have HBAD : Hid (r = (0, 0, e)) := run_bad HRUN.out (step_bad HKN.out (Nat.zero_le _) HOP.out he) he
          clear he
          go_upto_region 23 with fail
          clear a0 a1 v0 v1 g0 g1
          have HF : Hid _ := A3.out.fin 0 0 _ rfl
          obtain ⟨_, z0, z1⟩ := rat_at A3.out.stk.res
          obtain ⟨⟨r0, r1⟩, _⟩ := rat_at A3.out.stk.res
          go_wp2_with fail
          clear r0 r1
          generalize ((W3.setCell ⟨w.heap.size, 0, none⟩ (.int .i64 0)).setCell ⟨w.heap.size, 1, none⟩ (.int .i64 0)) = WE at HF ⊢
          obtain ⟨⟨r0, r1⟩, _⟩ := rat_at HF.out.1
          exact bodyPost_ret (v := .tuple #[ratVal 0 0, .int .i64 (e : Int)]) (by simp [results, Tryd.results8, go_sem, r0, r1]) rfl ⟨by rw [HBAD.out] <;> rfl, HF.out.2⟩
      · by_cases h2 : k = 2
        · subst h2
          have hb1 : 1 ≤ n ∧ n ≤ 99 := by have := kn_kinds hkn; omega
          obtain ⟨i, rfl⟩ : ∃ i : Nat, n = (i : Int) + 1 := ⟨(n - 1).toNat, by omega⟩
          have hi99 : i < 99 := by omega
          have HKN := Lib.hid hkn
          have HTK : Hid ((tk 2 : Int) = 0) := rfl
          clear hkn hb1 h1
          obtain ⟨N, D, hND⟩ : ∃ N D, varV vars ((i : Int) + 1) = (N, D) := ⟨_, _, rfl⟩
          obtain ⟨gd, hgd⟩ : ∃ gd, good N D = gd := ⟨_, rfl⟩
          have HGD : Hid (good N D = gd) := hgd
          have HOP : Hid (opV vars st 2 ((i : Int) + 1) = (N, D, if gd = true then 0 else 5)) := by show _ = _; unfold opV; rw [if_neg (by decide), if_pos rfl, hND, hgd]
          have HIN : Hid (gd = true → In N D) := by intro h; rw [h] at hgd; exact good_in hgd
          by_cases hin : (i : Int) + 1 ≤ (vars.length : Int)
          · have hiv : i < vars.length := by omega
            obtain ⟨bv, ov, rfl, hcv⟩ := HV.out (by omega)
            obtain ⟨x0, x1⟩ := hcv i hiv
            have hvv : vars[i] = (N, D) := by
              rw [← hND]; unfold varV; rw [if_pos hin]
              rw [show ((i : Int) + 1).toNat - 1 = i by omega]
              simp [List.getD, hiv]
            rw [hvv] at x0 x1
            have X0 := Lib.hid x0
            have X1 := Lib.hid x1
            have hbv := Mem.lt_of_cell x0
            clear x0 x1 hcv hvv hND hgd
            go_wp2_with fail
            with_reducible refine (known_c 2 ((i : Int) + 1) true HKN _).mono ?_
            rintro en w1 ⟨rfl, hb1⟩
            have S1 : Hid (StAt w _ st w1) := (HS.out.below (op_bel wr 2 ((i : Int) + 1))).below hb1
            have O1 : Hid (w1.heap[wr.heap.size]? = some (opObj 2 ((i : Int) + 1))) := one_below (heap_alloc_new wr _) hb1
            clear hb1 ck' cn'
            have A1 := Lib.hid (Rnd.new S1.out O1.out)
            obtain ⟨o0, o1⟩ := op_at O1.out
            go_wp2_with fail
            with_reducible refine (takes_c 2 0 HTK _).mono ?_
            rintro en w' ⟨rfl, rfl⟩
            clear o0 o1
            go_upto_region 10 with fail
            obtain ⟨g, hg⟩ : ∃ g, w'.heap.size = g := ⟨_, rfl⟩
            obtain ⟨B, hB⟩ : ∃ B, wr.heap.size = B := ⟨_, rfl⟩
            rw [hg, hB] at A1
            rw [hg, hB]
            generalize w'.alloc (ratObj 0 0) = W1 at A1 ⊢
            clear S1 O1 hg hB
            obtain ⟨a0, a1⟩ := op_at A1.out.op
            obtain ⟨⟨v0, v1⟩, g0, g1⟩ := rat_at A1.out.val
            go_upto_region 16 with fail
            have A2 := Lib.hid (A1.out.set 0 1)
            clear A1 a0 a1 v0 v1 g0 g1
            generalize ((W1.setCell ⟨g, 0, none⟩ (.int .i64 0)).setCell ⟨g, 1, none⟩ (.int .i64 1)) = W2 at A2 ⊢
            obtain ⟨a0, a1⟩ := op_at A2.out.op
            obtain ⟨⟨v0, v1⟩, g0, g1⟩ := rat_at A2.out.val
            have x0 := (A2.out.stk.bel.cell (p := ⟨bv, ov + i * 2, none⟩) hbv).trans X0.out
            have x1 := (A2.out.stk.bel.cell (p := ⟨bv, ov + i * 2 + 1, none⟩) hbv).trans X1.out
            go_upto_region 18 with fail
            have A3 := Lib.hid (A2.out.set N D)
            clear A2 a0 a1 v0 v1 g0 g1 x0 x1
            generalize ((W2.setCell ⟨g, 0, none⟩ (.int .i64 N)).setCell ⟨g, 1, none⟩ (.int .i64 D)) = W3a at A3 ⊢
            obtain ⟨a0, a1⟩ := op_at A3.out.op
            obtain ⟨⟨v0, v1⟩, g0, g1⟩ := rat_at A3.out.val
            go_wp2_with fail
            with_reducible refine (good_c N D gd HGD _).mono ?_
            rintro en w3 ⟨rfl, hb3⟩
            have A4 := Lib.hid (A3.out.below hb3)
            clear A3 hb3
            generalize hw3 : w3 = W3 at A4 ⊢
            have A3 := A4
            clear hw3 A4 a0 a1 v0 v1 g0 g1
            obtain ⟨a0, a1⟩ := op_at A3.out.op
            obtain ⟨⟨v0, v1⟩, g0, g1⟩ := rat_at A3.out.val
            cases gd with
            | true =>
              have HIN2 := HIN.out rfl
              obtain ⟨d1, d2, n1, n2⟩ := HIN2
              rcases HNIL.out with hpos | hemp
              · obtain ⟨gs, rfl⟩ := HFM.out hpos
                have HNX : Hid (runV vars (l.drop (j + 1)) (st.take st.length ++ [(N, D)]) = r ∧ Small (st.take st.length ++ [(N, D)])) := ⟨run_ok HRUN.out (step_ok HKN.out (Nat.zero_le _) HOP.out (by simp [tk])), (HSM.out.take _).snoc n1 n2 (by omega) d2⟩
                go_upto_region 24 with fail
                clear a0 a1 v0 v1 g0 g1
                have q1 := op_at A3.out.op
                have q2 := (rat_at A3.out.val).1
                have hBl := (Array.getElem?_eq_some_iff.1 A3.out.op).1
                have hgl := (Array.getElem?_eq_some_iff.1 A3.out.val).1
                have hnB : (Value.slice (some ⟨gs, 0, none⟩) st.length cs).ownBlock ≠ some B := own_ne A3.out.stk.own A3.out.op (by decide)
                have hng : (Value.slice (some ⟨gs, 0, none⟩) st.length cs).ownBlock ≠ some g := A3.out.ne
                have y0 : (0 : Int) ≤ ((st.length : Nat) : Int) := Int.natCast_nonneg _
                have y1 : ((st.length : Nat) : Int) ≤ (cs : Int) := by omega
                have y2 : IntKind.i64.wrap ((st.length : Nat) : Int) = ((st.length : Nat) : Int) := by rw [IntKind.wrap_i64]; omega
                have hcs0 : ¬ cs = 0 := by omega
                go_region_held3 (fun x => x.cell? ⟨B, 0, none⟩ = some (.int .i64 2) ∧ x.cell? ⟨g, 0, none⟩ = some (.int .i64 N) ∧ x.cell? ⟨g, 1, none⟩ = some (.int .i64 D))
                  (first
                    | go_keep
                    | (go_split_ands
                       refine ⟨?_, ?_, ?_⟩
                       · (rw [hgrow.cell_far _ (by simp; omega) (Ne.symm hnB)]; go_keep)
                       · (rw [hgrow.cell_far _ (by simp; omega) (Ne.symm hng)]; go_keep)
                       · (rw [hgrow.cell_far _ (by simp; omega) (Ne.symm hng)]; go_keep)))
                  (first
                    | (go_at_call 21; with_reducible refine (takes_c 2 0 HTK _).mono ?_; rintro en w' ⟨rfl, rfl⟩)
                    | (refine step_append_lies _ (by rfl) _ _ _ (by rfl) (w.heap.size + 1) 27 i0 (.agg #[.int .i64 0, .int .i64 0]) 2 16 Tryd.underlying47 HI.out.1 HI.out.2.1 HI.out.2.2.1 HI.out.2.2.2 rfl (by omega) (.slice (some ⟨gs, 0, none⟩) st.length cs) st.length _ (by rfl) (((own_cut A3.out.stk.own st.length (by omega)).alloc _).drew) ⟨W3.heap.size, 0, none⟩ 1 1 [.int .i64 N, .int .i64 D] (by rfl) (by rfl) (World.news_of_block (cs := #[.int .i64 N, .int .i64 D]) (t := 27) (fr := (0, 0)) (heap_alloc_new W3 _)) (by simp [Value.oneCell']) (by omega) (by unfold maxLen; omega) (by omega) (by have := A3.out.stk.lt; simp; omega) (W3.heap.size + 1) (by simp) ?_; intro gg cap w4 hown hgrow hat hltt))
                all_goals
                  have HST := Lib.hid (A3.out.stk.push (v2 := .slice (some ⟨gs, 0, none⟩) st.length cs) rfl hgrow st.length (by omega) hown)
                  clear hown hgrow hat hltt q1 q2 hBl hgl hnB hng
                  go_wp2_with fail
                  go_round <;> first | exact ⟨j + 1, st.take st.length ++ [(N, D)], by omega, by go_num, by simp only [List.length_append, List.length_take, List.length_cons, List.length_nil]; omega, HNX.out, HST.out, fun h => by simp at h⟩ | (simp [intOf] <;> omega)
              · have HEMP := Lib.hid hemp
                clear hemp
                obtain ⟨hst, rfl, rfl⟩ := HEMP.out
                subst hst
                have HNX : Hid (runV vars (l.drop (j + 1)) (([] : List (Int × Int)).take 0 ++ [(N, D)]) = r ∧ Small (([] : List (Int × Int)).take 0 ++ [(N, D)])) := ⟨run_ok HRUN.out (step_ok HKN.out (Nat.zero_le _) HOP.out (by simp [tk])), (HSM.out.take _).snoc n1 n2 (by omega) d2⟩
                simp only [List.length_nil, Int.natCast_zero]
                have y0 : (0 : Int) ≤ 0 := Int.le_refl _
                have y2 : IntKind.i64.wrap (0 : Int) = 0 := by decide
                go_upto_region 24 with fail
                clear a0 a1 v0 v1 g0 g1
                have q1 := op_at A3.out.op
                have q2 := (rat_at A3.out.val).1
                have hBl := (Array.getElem?_eq_some_iff.1 A3.out.op).1
                have hgl := (Array.getElem?_eq_some_iff.1 A3.out.val).1
                have hnB : (Value.slice none 0 0).ownBlock ≠ some B := own_ne A3.out.stk.own A3.out.op (by decide)
                have hng : (Value.slice none 0 0).ownBlock ≠ some g := A3.out.ne
                go_region_held3 (fun x => x.cell? ⟨B, 0, none⟩ = some (.int .i64 2) ∧ x.cell? ⟨g, 0, none⟩ = some (.int .i64 N) ∧ x.cell? ⟨g, 1, none⟩ = some (.int .i64 D))
                  (first
                    | go_keep
                    | (go_split_ands
                       refine ⟨?_, ?_, ?_⟩
                       · (rw [hgrow.cell_far _ (by simp; omega) (Ne.symm hnB)]; go_keep)
                       · (rw [hgrow.cell_far _ (by simp; omega) (Ne.symm hng)]; go_keep)
                       · (rw [hgrow.cell_far _ (by simp; omega) (Ne.symm hng)]; go_keep)))
                  (first
                    | (go_at_call 21; with_reducible refine (takes_c 2 0 HTK _).mono ?_; rintro en w' ⟨rfl, rfl⟩)
                    | (refine step_append_lies _ (by rfl) _ _ _ (by rfl) (w.heap.size + 1) 27 i0 (.agg #[.int .i64 0, .int .i64 0]) 2 16 Tryd.underlying47 HI.out.1 HI.out.2.1 HI.out.2.2.1 HI.out.2.2.2 rfl (by omega) (.slice none 0 0) 0 _ (by rfl) (((own_cut A3.out.stk.own 0 (Nat.le_refl 0)).alloc _).drew) ⟨W3.heap.size, 0, none⟩ 1 1 [.int .i64 N, .int .i64 D] (by rfl) (by rfl) (World.news_of_block (cs := #[.int .i64 N, .int .i64 D]) (t := 27) (fr := (0, 0)) (heap_alloc_new W3 _)) (by simp [Value.oneCell']) (by omega) (by unfold maxLen; omega) (by omega) (by have := A3.out.stk.lt; simp; omega) (W3.heap.size + 1) (by simp) ?_; intro gg cap w4 hown hgrow hat hltt))
                all_goals
                  have HST := Lib.hid (A3.out.stk.push (v2 := .slice none 0 0) rfl hgrow 0 (by omega) hown)
                  clear hown hgrow hat hltt q1 q2 hBl hgl hnB hng
                  go_wp2_with fail
                  go_round <;> first | exact ⟨j + 1, ([] : List (Int × Int)).take 0 ++ [(N, D)], by omega, by go_num, by simp only [List.length_append, List.length_take, List.length_cons, List.length_nil]; omega, HNX.out, HST.out, fun h => by simp at h⟩ | (simp [intOf] <;> omega)
            | false =>
              have HBAD : Hid (r = (0, 0, 5)) := run_bad HRUN.out (step_bad HKN.out (Nat.zero_le _) HOP.out (by decide)) (by decide)
              go_upto_region 23 with fail
              clear a0 a1 v0 v1 g0 g1
              have HF : Hid _ := A3.out.fin 0 0 _ rfl
              obtain ⟨_, z0, z1⟩ := rat_at A3.out.stk.res
              obtain ⟨⟨r0, r1⟩, _⟩ := rat_at A3.out.stk.res
              go_wp2_with fail
              clear r0 r1
              generalize ((W3.setCell ⟨w.heap.size, 0, none⟩ (.int .i64 0)).setCell ⟨w.heap.size, 1, none⟩ (.int .i64 0)) = WE at HF ⊢
              obtain ⟨⟨r0, r1⟩, _⟩ := rat_at HF.out.1
              exact bodyPost_ret (v := .tuple #[ratVal 0 0, .int .i64 5]) (by simp [results, Tryd.results8, go_sem, r0, r1]) rfl ⟨by rw [HBAD.out] <;> rfl, HF.out.2⟩
          · have hvv : (N, D) = ((0 : Int), (1 : Int)) := by rw [← hND]; unfold varV; rw [if_neg hin]
            injection hvv with hN hD
            subst hN
            subst hD
            clear hND hgd
            go_wp2_with fail
            with_reducible refine (known_c 2 ((i : Int) + 1) true HKN _).mono ?_
            rintro en w1 ⟨rfl, hb1⟩
            have S1 : Hid (StAt w _ st w1) := (HS.out.below (op_bel wr 2 ((i : Int) + 1))).below hb1
            have O1 : Hid (w1.heap[wr.heap.size]? = some (opObj 2 ((i : Int) + 1))) := one_below (heap_alloc_new wr _) hb1
            clear hb1 ck' cn'
            have A1 := Lib.hid (Rnd.new S1.out O1.out)
            obtain ⟨o0, o1⟩ := op_at O1.out
            go_wp2_with fail
            with_reducible refine (takes_c 2 0 HTK _).mono ?_
            rintro en w' ⟨rfl, rfl⟩
            clear o0 o1
            go_upto_region 10 with fail
            obtain ⟨g, hg⟩ : ∃ g, w'.heap.size = g := ⟨_, rfl⟩
            obtain ⟨B, hB⟩ : ∃ B, wr.heap.size = B := ⟨_, rfl⟩
            rw [hg, hB] at A1
            rw [hg, hB]
            generalize w'.alloc (ratObj 0 0) = W1 at A1 ⊢
            clear S1 O1 hg hB
            obtain ⟨a0, a1⟩ := op_at A1.out.op
            obtain ⟨⟨v0, v1⟩, g0, g1⟩ := rat_at A1.out.val
            go_upto_region 16 with fail
            have A2 := Lib.hid (A1.out.set 0 1)
            clear A1 a0 a1 v0 v1 g0 g1
            generalize ((W1.setCell ⟨g, 0, none⟩ (.int .i64 0)).setCell ⟨g, 1, none⟩ (.int .i64 1)) = W2 at A2 ⊢
            obtain ⟨a0, a1⟩ := op_at A2.out.op
            obtain ⟨⟨v0, v1⟩, g0, g1⟩ := rat_at A2.out.val
            have A3 := A2
            clear A2
            go_wp2_with fail
            with_reducible refine (good_c 0 1 gd HGD _).mono ?_
            rintro en w3 ⟨rfl, hb3⟩
            have A4 := Lib.hid (A3.out.below hb3)
            clear A3 hb3
            generalize hw3 : w3 = W3 at A4 ⊢
            have A3 := A4
            clear hw3 A4 a0 a1 v0 v1 g0 g1
            obtain ⟨a0, a1⟩ := op_at A3.out.op
            obtain ⟨⟨v0, v1⟩, g0, g1⟩ := rat_at A3.out.val
            cases gd with
            | true =>
              have HIN2 := HIN.out rfl
              obtain ⟨d1, d2, n1, n2⟩ := HIN2
              rcases HNIL.out with hpos | hemp
              · obtain ⟨gs, rfl⟩ := HFM.out hpos
                have HNX : Hid (runV vars (l.drop (j + 1)) (st.take st.length ++ [(0, 1)]) = r ∧ Small (st.take st.length ++ [(0, 1)])) := ⟨run_ok HRUN.out (step_ok HKN.out (Nat.zero_le _) HOP.out (by simp [tk])), (HSM.out.take _).snoc n1 n2 (by omega) d2⟩
                go_upto_region 24 with fail
                clear a0 a1 v0 v1 g0 g1
                have q1 := op_at A3.out.op
                have q2 := (rat_at A3.out.val).1
                have hBl := (Array.getElem?_eq_some_iff.1 A3.out.op).1
                have hgl := (Array.getElem?_eq_some_iff.1 A3.out.val).1
                have hnB : (Value.slice (some ⟨gs, 0, none⟩) st.length cs).ownBlock ≠ some B := own_ne A3.out.stk.own A3.out.op (by decide)
                have hng : (Value.slice (some ⟨gs, 0, none⟩) st.length cs).ownBlock ≠ some g := A3.out.ne
                have y0 : (0 : Int) ≤ ((st.length : Nat) : Int) := Int.natCast_nonneg _
                have y1 : ((st.length : Nat) : Int) ≤ (cs : Int) := by omega
                have y2 : IntKind.i64.wrap ((st.length : Nat) : Int) = ((st.length : Nat) : Int) := by rw [IntKind.wrap_i64]; omega
                have hcs0 : ¬ cs = 0 := by omega
                go_region_held3 (fun x => x.cell? ⟨B, 0, none⟩ = some (.int .i64 2) ∧ x.cell? ⟨g, 0, none⟩ = some (.int .i64 0) ∧ x.cell? ⟨g, 1, none⟩ = some (.int .i64 1))
                  (first
                    | go_keep
                    | (go_split_ands
                       refine ⟨?_, ?_, ?_⟩
                       · (rw [hgrow.cell_far _ (by simp; omega) (Ne.symm hnB)]; go_keep)
                       · (rw [hgrow.cell_far _ (by simp; omega) (Ne.symm hng)]; go_keep)
                       · (rw [hgrow.cell_far _ (by simp; omega) (Ne.symm hng)]; go_keep)))
                  (first
                    | (go_at_call 21; with_reducible refine (takes_c 2 0 HTK _).mono ?_; rintro en w' ⟨rfl, rfl⟩)
                    | (refine step_append_lies _ (by rfl) _ _ _ (by rfl) (w.heap.size + 1) 27 i0 (.agg #[.int .i64 0, .int .i64 0]) 2 16 Tryd.underlying47 HI.out.1 HI.out.2.1 HI.out.2.2.1 HI.out.2.2.2 rfl (by omega) (.slice (some ⟨gs, 0, none⟩) st.length cs) st.length _ (by rfl) (((own_cut A3.out.stk.own st.length (by omega)).alloc _).drew) ⟨W3.heap.size, 0, none⟩ 1 1 [.int .i64 0, .int .i64 1] (by rfl) (by rfl) (World.news_of_block (cs := #[.int .i64 0, .int .i64 1]) (t := 27) (fr := (0, 0)) (heap_alloc_new W3 _)) (by simp [Value.oneCell']) (by omega) (by unfold maxLen; omega) (by omega) (by have := A3.out.stk.lt; simp; omega) (W3.heap.size + 1) (by simp) ?_; intro gg cap w4 hown hgrow hat hltt))
                all_goals
                  have HST := Lib.hid (A3.out.stk.push (v2 := .slice (some ⟨gs, 0, none⟩) st.length cs) rfl hgrow st.length (by omega) hown)
                  clear hown hgrow hat hltt q1 q2 hBl hgl hnB hng
                  go_wp2_with fail
                  go_round <;> first | exact ⟨j + 1, st.take st.length ++ [(0, 1)], by omega, by go_num, by simp only [List.length_append, List.length_take, List.length_cons, List.length_nil]; omega, HNX.out, HST.out, fun h => by simp at h⟩ | (simp [intOf] <;> omega)
              · have HEMP := Lib.hid hemp
                clear hemp
                obtain ⟨hst, rfl, rfl⟩ := HEMP.out
                subst hst
                have HNX : Hid (runV vars (l.drop (j + 1)) (([] : List (Int × Int)).take 0 ++ [(0, 1)]) = r ∧ Small (([] : List (Int × Int)).take 0 ++ [(0, 1)])) := ⟨run_ok HRUN.out (step_ok HKN.out (Nat.zero_le _) HOP.out (by simp [tk])), (HSM.out.take _).snoc n1 n2 (by omega) d2⟩
                simp only [List.length_nil, Int.natCast_zero]
                have y0 : (0 : Int) ≤ 0 := Int.le_refl _
                have y2 : IntKind.i64.wrap (0 : Int) = 0 := by decide
                go_upto_region 24 with fail
                clear a0 a1 v0 v1 g0 g1
                have q1 := op_at A3.out.op
                have q2 := (rat_at A3.out.val).1
                have hBl := (Array.getElem?_eq_some_iff.1 A3.out.op).1
                have hgl := (Array.getElem?_eq_some_iff.1 A3.out.val).1
                have hnB : (Value.slice none 0 0).ownBlock ≠ some B := own_ne A3.out.stk.own A3.out.op (by decide)
                have hng : (Value.slice none 0 0).ownBlock ≠ some g := A3.out.ne
                go_region_held3 (fun x => x.cell? ⟨B, 0, none⟩ = some (.int .i64 2) ∧ x.cell? ⟨g, 0, none⟩ = some (.int .i64 0) ∧ x.cell? ⟨g, 1, none⟩ = some (.int .i64 1))
                  (first
                    | go_keep
                    | (go_split_ands
                       refine ⟨?_, ?_, ?_⟩
                       · (rw [hgrow.cell_far _ (by simp; omega) (Ne.symm hnB)]; go_keep)
                       · (rw [hgrow.cell_far _ (by simp; omega) (Ne.symm hng)]; go_keep)
                       · (rw [hgrow.cell_far _ (by simp; omega) (Ne.symm hng)]; go_keep)))
                  (first
                    | (go_at_call 21; with_reducible refine (takes_c 2 0 HTK _).mono ?_; rintro en w' ⟨rfl, rfl⟩)
                    | (refine step_append_lies _ (by rfl) _ _ _ (by rfl) (w.heap.size + 1) 27 i0 (.agg #[.int .i64 0, .int .i64 0]) 2 16 Tryd.underlying47 HI.out.1 HI.out.2.1 HI.out.2.2.1 HI.out.2.2.2 rfl (by omega) (.slice none 0 0) 0 _ (by rfl) (((own_cut A3.out.stk.own 0 (Nat.le_refl 0)).alloc _).drew) ⟨W3.heap.size, 0, none⟩ 1 1 [.int .i64 0, .int .i64 1] (by rfl) (by rfl) (World.news_of_block (cs := #[.int .i64 0, .int .i64 1]) (t := 27) (fr := (0, 0)) (heap_alloc_new W3 _)) (by simp [Value.oneCell']) (by omega) (by unfold maxLen; omega) (by omega) (by have := A3.out.stk.lt; simp; omega) (W3.heap.size + 1) (by simp) ?_; intro gg cap w4 hown hgrow hat hltt))
                all_goals
                  have HST := Lib.hid (A3.out.stk.push (v2 := .slice none 0 0) rfl hgrow 0 (by omega) hown)
                  clear hown hgrow hat hltt q1 q2 hBl hgl hnB hng
                  go_wp2_with fail
                  go_round <;> first | exact ⟨j + 1, ([] : List (Int × Int)).take 0 ++ [(0, 1)], by omega, by go_num, by simp only [List.length_append, List.length_take, List.length_cons, List.length_nil]; omega, HNX.out, HST.out, fun h => by simp at h⟩ | (simp [intOf] <;> omega)
            | false =>
              have HBAD : Hid (r = (0, 0, 5)) := run_bad HRUN.out (step_bad HKN.out (Nat.zero_le _) HOP.out (by decide)) (by decide)
              go_upto_region 23 with fail
              clear a0 a1 v0 v1 g0 g1
              have HF : Hid _ := A3.out.fin 0 0 _ rfl
              obtain ⟨_, z0, z1⟩ := rat_at A3.out.stk.res
              obtain ⟨⟨r0, r1⟩, _⟩ := rat_at A3.out.stk.res
              go_wp2_with fail
              clear r0 r1
              generalize ((W3.setCell ⟨w.heap.size, 0, none⟩ (.int .i64 0)).setCell ⟨w.heap.size, 1, none⟩ (.int .i64 0)) = WE at HF ⊢
              obtain ⟨⟨r0, r1⟩, _⟩ := rat_at HF.out.1
              exact bodyPost_ret (v := .tuple #[ratVal 0 0, .int .i64 5]) (by simp [results, Tryd.results8, go_sem, r0, r1]) rfl ⟨by rw [HBAD.out] <;> rfl, HF.out.2⟩
        · by_cases h7 : k = 7
          · subst h7
            have HKN := Lib.hid hkn
            have hn0 : n = 0 := by have := kn_kinds hkn; omega
            subst hn0
            have HTK : Hid ((tk 7 : Int) = 1) := rfl
            clear hkn h1 h2
            rcases HNIL.out with hpos | hemp
            · obtain ⟨gs, rfl⟩ := HFM.out hpos
              obtain ⟨m, hm⟩ : ∃ m, st.length = m + 1 := ⟨st.length - 1, by omega⟩
              have hsub : (st.length : Int) - 1 = (m : Int) := by omega
              have hlt1 : ¬ ((st.length : Int) < 1) := by omega
              obtain ⟨N0, D, hND⟩ : ∃ N0 D, st.getD m (0, 0) = (N0, D) := ⟨_, _, rfl⟩
              have hmem : (N0, D) ∈ st := by
                have h : st[m]'(by omega) = (N0, D) := by rw [← hND]; simp [List.getD, show m < st.length by omega]
                rw [← h]; exact List.getElem_mem _
              obtain ⟨b1, b2, b3, b4⟩ := HSM.out _ hmem
              obtain ⟨N, hN⟩ : ∃ N, -N0 = N := ⟨_, rfl⟩
              have hmi : m < st.length := by omega
              have y2 : IntKind.i64.wrap (m : Int) = (m : Int) := by rw [IntKind.wrap_i64]; omega
              have y0 : (0 : Int) ≤ (m : Int) := Int.natCast_nonneg _
              have y3 : (m : Int) < (st.length : Int) := by omega
              have HNX : Hid (runV vars (l.drop (j + 1)) (st.take m ++ [(N, D)]) = r ∧ Small (st.take m ++ [(N, D)])) := ⟨run_ok HRUN.out (step_ok HKN.out (by show 1 ≤ _; omega) (by unfold opV top; rw [if_neg (by decide), if_neg (by decide), if_pos rfl, hm, Nat.add_sub_cancel, hND, hN]) (by show _ - 1 = m; omega)), (HSM.out.take _).snoc (by omega) (by omega) b3 b4⟩
              have HTOP : Hid (∀ {w' : World}, StAt w (.slice (some ⟨gs, 0, none⟩) st.length cs) st w' → w'.cell? ⟨gs, m * 2, none⟩ = some (.int .i64 N0) ∧ w'.cell? ⟨gs, m * 2 + 1, none⟩ = some (.int .i64 D)) := by
                intro w' h
                have := stk_top h.own m hmi
                rw [hND] at this
                exact this
              have hN' : IntKind.i64.wrap N = N := by rw [IntKind.wrap_i64]; omega
              have hcs0 : ¬ cs = 0 := by omega
              have HM := Lib.hid hm
              clear hND hmem hm
              go_wp2_with fail
              with_reducible refine (known_c 7 0 true HKN _).mono ?_
              rintro en w1 ⟨rfl, hb1⟩
              have S1 : Hid (StAt w _ st w1) := (HS.out.below (op_bel wr 7 0)).below hb1
              have O1 : Hid (w1.heap[wr.heap.size]? = some (opObj 7 0)) := one_below (heap_alloc_new wr _) hb1
              clear hb1 ck' cn'
              have A1 := Lib.hid (Rnd.new S1.out O1.out)
              obtain ⟨o0, o1⟩ := op_at O1.out
              go_wp2_with fail
              with_reducible refine (takes_c 7 1 HTK _).mono ?_
              rintro en w' ⟨rfl, rfl⟩
              clear o0 o1
              go_upto_region 10 with fail
              obtain ⟨g, hg⟩ : ∃ g, w'.heap.size = g := ⟨_, rfl⟩
              obtain ⟨B, hB⟩ : ∃ B, wr.heap.size = B := ⟨_, rfl⟩
              rw [hg, hB] at A1
              rw [hg, hB]
              generalize w'.alloc (ratObj 0 0) = W1 at A1 ⊢
              clear S1 O1 hg hB
              obtain ⟨a0, a1⟩ := op_at A1.out.op
              obtain ⟨⟨v0, v1⟩, g0, g1⟩ := rat_at A1.out.val
              obtain ⟨t0, t1⟩ := HTOP.out A1.out.stk
              have gne : gs ≠ g := fun e => A1.out.ne (by rw [e]; rfl)
              have hgsl := Mem.lt_of_cell t0
              go_upto_region 21 with fail
              go_region_held3 (fun x => x.cell? ⟨gs, m * 2, none⟩ = some (.int .i64 N0) ∧ x.cell? ⟨gs, m * 2 + 1, none⟩ = some (.int .i64 D)) (first | exact ⟨(cell_far2 _ gne _ _ _).trans t0, (cell_far2 _ gne _ _ _).trans t1⟩ | go_keep) (fail)
              have A3 := Lib.hid (A1.out.set N D).drew
              clear A1 a0 a1 v0 v1 g0 g1 t0 t1 gne hgsl
              generalize ((W1.setCell ⟨g, 0, none⟩ (.int .i64 N)).setCell ⟨g, 1, none⟩ (.int .i64 D)).drew = W3 at A3 ⊢
              obtain ⟨a0, a1⟩ := op_at A3.out.op
              obtain ⟨⟨v0, v1⟩, g0, g1⟩ := rat_at A3.out.val
              go_upto_region 24 with fail
              clear a0 a1 v0 v1 g0 g1
              have q1 := op_at A3.out.op
              have q2 := (rat_at A3.out.val).1
              have hBl := (Array.getElem?_eq_some_iff.1 A3.out.op).1
              have hgl := (Array.getElem?_eq_some_iff.1 A3.out.val).1
              have hnB : (Value.slice (some ⟨gs, 0, none⟩) m cs).ownBlock ≠ some B := own_ne A3.out.stk.own A3.out.op (by decide)
              have hng : (Value.slice (some ⟨gs, 0, none⟩) m cs).ownBlock ≠ some g := A3.out.ne
              have y0 : (0 : Int) ≤ ((m : Nat) : Int) := Int.natCast_nonneg _
              have y1 : ((m : Nat) : Int) ≤ (cs : Int) := by omega
              have y2 : IntKind.i64.wrap ((m : Nat) : Int) = ((m : Nat) : Int) := by rw [IntKind.wrap_i64]; omega
              have hcs0 : ¬ cs = 0 := by omega
              go_region_held3 (fun x => x.cell? ⟨B, 0, none⟩ = some (.int .i64 7) ∧ x.cell? ⟨g, 0, none⟩ = some (.int .i64 N) ∧ x.cell? ⟨g, 1, none⟩ = some (.int .i64 D))
                (first
                  | go_keep
                  | (go_split_ands
                     refine ⟨?_, ?_, ?_⟩
                     · (rw [hgrow.cell_far _ (by simp; omega) (Ne.symm hnB)]; go_keep)
                     · (rw [hgrow.cell_far _ (by simp; omega) (Ne.symm hng)]; go_keep)
                     · (rw [hgrow.cell_far _ (by simp; omega) (Ne.symm hng)]; go_keep)))
                (first
                  | (go_at_call 21; with_reducible refine (takes_c 7 1 HTK _).mono ?_; rintro en w' ⟨rfl, rfl⟩)
                  | (refine step_append_lies _ (by rfl) _ _ _ (by rfl) (w.heap.size + 1) 27 i0 (.agg #[.int .i64 0, .int .i64 0]) 2 16 Tryd.underlying47 HI.out.1 HI.out.2.1 HI.out.2.2.1 HI.out.2.2.2 rfl (by omega) (.slice (some ⟨gs, 0, none⟩) m cs) m _ (by rfl) (((own_cut A3.out.stk.own m (by omega)).alloc _).drew) ⟨W3.heap.size, 0, none⟩ 1 1 [.int .i64 N, .int .i64 D] (by rfl) (by rfl) (World.news_of_block (cs := #[.int .i64 N, .int .i64 D]) (t := 27) (fr := (0, 0)) (heap_alloc_new W3 _)) (by simp [Value.oneCell']) (by omega) (by unfold maxLen; omega) (by omega) (by have := A3.out.stk.lt; simp; omega) (W3.heap.size + 1) (by simp) ?_; intro gg cap w4 hown hgrow hat hltt))
              all_goals
                have HST := Lib.hid (A3.out.stk.push (v2 := .slice (some ⟨gs, 0, none⟩) m cs) rfl hgrow m (by omega) hown)
                clear hown hgrow hat hltt q1 q2 hBl hgl hnB hng
                go_wp2_with fail
                go_round <;> first | exact ⟨j + 1, st.take m ++ [(N, D)], by omega, by go_num, by simp only [List.length_append, List.length_take, List.length_cons, List.length_nil]; omega, HNX.out, HST.out, fun h => by simp at h⟩ | (simp [intOf] <;> omega)
            · have hlen : (st.length : Int) < 1 := by rw [hemp.1]; decide
              have HBAD : Hid (r = (0, 0, 3)) := run_bad HRUN.out (step_no (.inr (by show st.length < 1; omega))) (by decide)
              clear hemp
              go_wp2_with fail
              with_reducible refine (known_c 7 0 true HKN _).mono ?_
              rintro en w1 ⟨rfl, hb1⟩
              have S1 : Hid (StAt w _ st w1) := (HS.out.below (op_bel wr 7 0)).below hb1
              have O1 : Hid (w1.heap[wr.heap.size]? = some (opObj 7 0)) := one_below (heap_alloc_new wr _) hb1
              clear hb1 ck' cn'
              obtain ⟨o0, o1⟩ := op_at O1.out
              go_wp2_with fail
              with_reducible refine (takes_c 7 1 HTK _).mono ?_
              rintro en w' ⟨rfl, rfl⟩
              clear o0 o1
              have HF : Hid _ := S1.out.fin 0 0 _ rfl
              obtain ⟨_, z0, z1⟩ := rat_at S1.out.res
              obtain ⟨⟨r0, r1⟩, _⟩ := rat_at S1.out.res
              go_wp2_with fail
              clear r0 r1
              generalize ((w'.setCell ⟨w.heap.size, 0, none⟩ (.int .i64 0)).setCell ⟨w.heap.size, 1, none⟩ (.int .i64 0)) = WE at HF ⊢
              obtain ⟨⟨r0, r1⟩, _⟩ := rat_at HF.out.1
              exact bodyPost_ret (v := .tuple #[ratVal 0 0, .int .i64 3]) (by simp [results, Tryd.results8, go_sem, r0, r1]) rfl ⟨by rw [HBAD.out] <;> rfl, HF.out.2⟩
          · have hk36 : 3 ≤ k ∧ k ≤ 6 ∧ n = 0 := by have := kn_kinds hkn; omega
            obtain ⟨k3, k6, hn0⟩ := hk36
            subst hn0
            have t1 : (k == 1) = false := by simp [h1]
            have t2 : (k == 2) = false := by simp [h2]
            have t7 : (k == 7) = false := by simp [h7]
            have HKN := Lib.hid hkn
            have htk : tk k = 2 := by unfold tk; rw [if_neg (by omega), if_neg h7]
            have HTK : Hid ((tk k : Int) = 2) := by show _ = _; rw [htk]; rfl
            by_cases hlen : (st.length : Int) < 2
            · have HBAD : Hid (r = (0, 0, 3)) := run_bad HRUN.out (step_no (.inr (by rw [htk]; omega))) (by decide)
              clear hkn h1 h2 h7 k3 k6 htk
              go_wp2_with fail
              with_reducible refine (known_c k 0 true HKN _).mono ?_
              rintro en w1 ⟨rfl, hb1⟩
              have S1 : Hid (StAt w _ st w1) := (HS.out.below (op_bel wr k 0)).below hb1
              have O1 : Hid (w1.heap[wr.heap.size]? = some (opObj k 0)) := one_below (heap_alloc_new wr _) hb1
              clear hb1 ck' cn'
              obtain ⟨o0, o1⟩ := op_at O1.out
              go_wp2_with fail
              with_reducible refine (takes_c k 2 HTK _).mono ?_
              rintro en w' ⟨rfl, rfl⟩
              clear o0 o1
              have HF : Hid _ := S1.out.fin 0 0 _ rfl
              obtain ⟨_, z0, z1⟩ := rat_at S1.out.res
              obtain ⟨⟨r0, r1⟩, _⟩ := rat_at S1.out.res
              go_wp2_with fail
              clear r0 r1
              generalize ((w'.setCell ⟨w.heap.size, 0, none⟩ (.int .i64 0)).setCell ⟨w.heap.size, 1, none⟩ (.int .i64 0)) = WE at HF ⊢
              obtain ⟨⟨r0, r1⟩, _⟩ := rat_at HF.out.1
              exact bodyPost_ret (v := .tuple #[ratVal 0 0, .int .i64 3]) (by simp [results, Tryd.results8, go_sem, r0, r1]) rfl ⟨by rw [HBAD.out] <;> rfl, HF.out.2⟩
            · obtain ⟨gs, rfl⟩ := HFM.out (by omega)
              obtain ⟨m, hm⟩ : ∃ m, st.length = m + 2 := ⟨st.length - 2, by omega⟩
              obtain ⟨m1, hm1⟩ : ∃ m1, m1 = m + 1 := ⟨_, rfl⟩
              have hsub1 : (st.length : Int) - 1 = (m1 : Int) := by omega
              have hsub2 : (st.length : Int) - 2 = (m : Int) := by omega
              obtain ⟨xn, xd, hX⟩ : ∃ a b, st.getD m (0, 0) = (a, b) := ⟨_, _, rfl⟩
              obtain ⟨yn, yd, hY⟩ : ∃ a b, st.getD m1 (0, 0) = (a, b) := ⟨_, _, rfl⟩
              obtain ⟨N, D, e, hR⟩ : ∃ N D e, doV k xn xd yn yd = (N, D, e) := ⟨_, _, _, rfl⟩
              have HRV : Hid (doV k xn xd yn yd = (N, D, e)) := hR
              have hinn := doV_in k xn xd yn yd
              rw [hR] at hinn
              have HIN := Lib.hid hinn
              have hmi : m < st.length := by omega
              have hmi1 : m1 < st.length := by omega
              have HOP : Hid (opV vars st k 0 = (N, D, e)) := by
                show _ = _
                unfold opV top
                rw [if_neg h1, if_neg h2, if_neg h7, show st.length - 2 = m by omega, show st.length - 1 = m1 by omega, hX, hY, hR]
              have HTOP : Hid (∀ {w' : World}, StAt w (.slice (some ⟨gs, 0, none⟩) st.length cs) st w' → (w'.cell? ⟨gs, m * 2, none⟩ = some (.int .i64 xn) ∧ w'.cell? ⟨gs, m * 2 + 1, none⟩ = some (.int .i64 xd)) ∧ (w'.cell? ⟨gs, m1 * 2, none⟩ = some (.int .i64 yn) ∧ w'.cell? ⟨gs, m1 * 2 + 1, none⟩ = some (.int .i64 yd))) := by
                intro w' h
                have h3 := stk_top h.own m hmi
                have h4 := stk_top h.own m1 hmi1
                rw [hX] at h3
                rw [hY] at h4
                exact ⟨h3, h4⟩
              have y2 : IntKind.i64.wrap (m : Int) = (m : Int) := by rw [IntKind.wrap_i64]; omega
              have y2b : IntKind.i64.wrap (m1 : Int) = (m1 : Int) := by rw [IntKind.wrap_i64]; omega
              have y0 : (0 : Int) ≤ (m : Int) := Int.natCast_nonneg _
              have y0b : (0 : Int) ≤ (m1 : Int) := Int.natCast_nonneg _
              have y3 : (m : Int) < (st.length : Int) := by omega
              have y3b : (m1 : Int) < (st.length : Int) := by omega
              have hcs0 : ¬ cs = 0 := by omega
              have HM : Hid (st.length = m + 2) := hm
              have HTKN : Hid (tk k = 2) := htk
              clear hkn h1 h2 h7 htk hX hY hR hinn hm hm1
              go_wp2_with fail
              with_reducible refine (known_c k 0 true HKN _).mono ?_
              rintro en w1 ⟨rfl, hb1⟩
              have S1 : Hid (StAt w _ st w1) := (HS.out.below (op_bel wr k 0)).below hb1
              have O1 : Hid (w1.heap[wr.heap.size]? = some (opObj k 0)) := one_below (heap_alloc_new wr _) hb1
              clear hb1 ck' cn'
              have A1 := Lib.hid (Rnd.new S1.out O1.out)
              obtain ⟨o0, o1⟩ := op_at O1.out
              go_wp2_with fail
              with_reducible refine (takes_c k 2 HTK _).mono ?_
              rintro en w' ⟨rfl, rfl⟩
              clear o0 o1
              go_upto_region 10 with fail
              obtain ⟨g, hg⟩ : ∃ g, w'.heap.size = g := ⟨_, rfl⟩
              obtain ⟨B, hB⟩ : ∃ B, wr.heap.size = B := ⟨_, rfl⟩
              rw [hg, hB] at A1
              rw [hg, hB]
              generalize w'.alloc (ratObj 0 0) = W1 at A1 ⊢
              clear S1 O1 hg hB
              obtain ⟨a0, a1⟩ := op_at A1.out.op
              obtain ⟨⟨v0, v1⟩, g0, g1⟩ := rat_at A1.out.val
              obtain ⟨⟨q0, q1⟩, q2, q3⟩ := HTOP.out A1.out.stk
              have gne : gs ≠ g := fun e => A1.out.ne (by rw [e]; rfl)
              have bne : B ≠ g := A1.out.nb
              have hgsl := Mem.lt_of_cell q0
              have hBl := Mem.lt_of_cell a0
              go_upto_region 11 with fail
              go_region_held3 (fun x => x.cell? ⟨B, 0, none⟩ = some (.int .i64 k) ∧ (x.cell? ⟨gs, m * 2, none⟩ = some (.int .i64 xn) ∧ x.cell? ⟨gs, m * 2 + 1, none⟩ = some (.int .i64 xd)) ∧ (x.cell? ⟨gs, m1 * 2, none⟩ = some (.int .i64 yn) ∧ x.cell? ⟨gs, m1 * 2 + 1, none⟩ = some (.int .i64 yd)))
                (first
                  | exact ⟨a0, ⟨q0, q1⟩, q2, q3⟩
                  | exact ⟨(hb2.cell hBl).trans a0, ⟨(hb2.cell hgsl).trans q0, (hb2.cell hgsl).trans q1⟩, (hb2.cell hgsl).trans q2, (hb2.cell hgsl).trans q3⟩
                  | exact ⟨(cell_far3 _ bne _ _ _).trans ((hb2.cell hBl).trans a0), ⟨(cell_far3 _ gne _ _ _).trans ((hb2.cell hgsl).trans q0), (cell_far3 _ gne _ _ _).trans ((hb2.cell hgsl).trans q1)⟩, (cell_far3 _ gne _ _ _).trans ((hb2.cell hgsl).trans q2), (cell_far3 _ gne _ _ _).trans ((hb2.cell hgsl).trans q3)⟩
                  | go_keep)
                (first
                  | (go_at_call 14; (with_reducible refine (do_c k xn xd yn yd (N, D, e) HRV _).mono ?_); rintro en w2 ⟨rfl, hb2⟩; have A2 := Lib.hid (A1.out.drew.below hb2); obtain ⟨⟨v0b, v1b⟩, g0b, g1b⟩ := rat_at A2.out.val))
              have A3 := Lib.hid (A2.out.set N D)
              clear A1 A2 a0 a1 v0 v1 g0 g1 q0 q1 q2 q3 gne bne hgsl hBl v0b v1b g0b g1b hb2
              generalize ((w2.setCell ⟨g, 0, none⟩ (.int .i64 N)).setCell ⟨g, 1, none⟩ (.int .i64 D)) = W3 at A3 ⊢
              obtain ⟨a0, a1⟩ := op_at A3.out.op
              obtain ⟨⟨v0, v1⟩, g0, g1⟩ := rat_at A3.out.val
              by_cases he : e = 0
              · subst he
                have HNX : Hid (runV vars (l.drop (j + 1)) (st.take m ++ [(N, D)]) = r ∧ Small (st.take m ++ [(N, D)])) := ⟨run_ok HRUN.out (step_ok HKN.out (by rw [HTKN.out]; have := HM.out; omega) HOP.out (by rw [HTKN.out]; have := HM.out; omega)), (HSM.out.take _).snoc HIN.out.1 HIN.out.2.1 HIN.out.2.2.1 HIN.out.2.2.2⟩
                go_upto_region 24 with fail
                clear a0 a1 v0 v1 g0 g1
                have q1 := op_at A3.out.op
                have q2 := (rat_at A3.out.val).1
                have hBl := (Array.getElem?_eq_some_iff.1 A3.out.op).1
                have hgl := (Array.getElem?_eq_some_iff.1 A3.out.val).1
                have hnB : (Value.slice (some ⟨gs, 0, none⟩) m cs).ownBlock ≠ some B := own_ne A3.out.stk.own A3.out.op (by decide)
                have hng : (Value.slice (some ⟨gs, 0, none⟩) m cs).ownBlock ≠ some g := A3.out.ne
                have y0 : (0 : Int) ≤ ((m : Nat) : Int) := Int.natCast_nonneg _
                have y1 : ((m : Nat) : Int) ≤ (cs : Int) := by omega
                have y2 : IntKind.i64.wrap ((m : Nat) : Int) = ((m : Nat) : Int) := by rw [IntKind.wrap_i64]; omega
                have hcs0 : ¬ cs = 0 := by omega
                go_region_held3 (fun x => x.cell? ⟨B, 0, none⟩ = some (.int .i64 k) ∧ x.cell? ⟨g, 0, none⟩ = some (.int .i64 N) ∧ x.cell? ⟨g, 1, none⟩ = some (.int .i64 D))
                  (first
                    | go_keep
                    | (go_split_ands
                       refine ⟨?_, ?_, ?_⟩
                       · (rw [hgrow.cell_far _ (by simp; omega) (Ne.symm hnB)]; go_keep)
                       · (rw [hgrow.cell_far _ (by simp; omega) (Ne.symm hng)]; go_keep)
                       · (rw [hgrow.cell_far _ (by simp; omega) (Ne.symm hng)]; go_keep)))
                  (first
                    | (go_at_call 21; with_reducible refine (takes_c k 2 HTK _).mono ?_; rintro en w' ⟨rfl, rfl⟩)
                    | (refine step_append_lies _ (by rfl) _ _ _ (by rfl) (w.heap.size + 1) 27 i0 (.agg #[.int .i64 0, .int .i64 0]) 2 16 Tryd.underlying47 HI.out.1 HI.out.2.1 HI.out.2.2.1 HI.out.2.2.2 rfl (by omega) (.slice (some ⟨gs, 0, none⟩) m cs) m _ (by rfl) (((own_cut A3.out.stk.own m (by omega)).alloc _).drew) ⟨W3.heap.size, 0, none⟩ 1 1 [.int .i64 N, .int .i64 D] (by rfl) (by rfl) (World.news_of_block (cs := #[.int .i64 N, .int .i64 D]) (t := 27) (fr := (0, 0)) (heap_alloc_new W3 _)) (by simp [Value.oneCell']) (by omega) (by unfold maxLen; omega) (by omega) (by have := A3.out.stk.lt; simp; omega) (W3.heap.size + 1) (by simp) ?_; intro gg cap w4 hown hgrow hat hltt))
                all_goals
                  have HST := Lib.hid (A3.out.stk.push (v2 := .slice (some ⟨gs, 0, none⟩) m cs) rfl hgrow m (by omega) hown)
                  clear hown hgrow hat hltt q1 q2 hBl hgl hnB hng
                  go_wp2_with fail
                  go_round <;> first | exact ⟨j + 1, st.take m ++ [(N, D)], by omega, by go_num, by simp only [List.length_append, List.length_take, List.length_cons, List.length_nil]; omega, HNX.out, HST.out, fun h => by simp at h⟩ | (simp [intOf] <;> omega)
              · have te : ((e : Int) == 0) = false := by simp; omega
                have HBAD : Hid (r = (0, 0, e)) := run_bad HRUN.out (step_bad HKN.out (by rw [HTKN.out]; have := HM.out; omega) HOP.out he) he
                clear he
                go_upto_region 23 with fail
                clear a0 a1 v0 v1 g0 g1
                have HF : Hid _ := A3.out.fin 0 0 _ rfl
                obtain ⟨_, z0, z1⟩ := rat_at A3.out.stk.res
                obtain ⟨⟨r0, r1⟩, _⟩ := rat_at A3.out.stk.res
                go_wp2_with fail
                clear r0 r1
                generalize ((W3.setCell ⟨w.heap.size, 0, none⟩ (.int .i64 0)).setCell ⟨w.heap.size, 1, none⟩ (.int .i64 0)) = WE at HF ⊢
                obtain ⟨⟨r0, r1⟩, _⟩ := rat_at HF.out.1
                exact bodyPost_ret (v := .tuple #[ratVal 0 0, .int .i64 (e : Int)]) (by simp [results, Tryd.results8, go_sem, r0, r1]) rfl ⟨by rw [HBAD.out] <;> rfl, HF.out.2⟩
    · have hkf : kn k n = false := by simpa using hkn
      have HKN := Lib.hid hkf
      have HBAD : Hid (r = (0, 0, 3)) := run_bad HRUN.out (step_no (.inl hkf)) (by decide)
      clear hkn hkf
      go_wp2_with fail
      with_reducible refine (known_c k n false HKN _).mono ?_
      rintro en w1 ⟨rfl, hb1⟩
      have S1 : Hid (StAt w _ st w1) := (HS.out.below (op_bel wr k n)).below hb1
      have O1 : Hid (w1.heap[wr.heap.size]? = some (opObj k n)) := one_below (heap_alloc_new wr _) hb1
      clear hb1 ck' cn'
      have HF : Hid _ := S1.out.fin 0 0 _ rfl
      obtain ⟨_, z0, z1⟩ := rat_at S1.out.res
      obtain ⟨⟨r0, r1⟩, _⟩ := rat_at S1.out.res
      go_wp2_with fail
      clear r0 r1
      generalize ((w1.setCell ⟨w.heap.size, 0, none⟩ (.int .i64 0)).setCell ⟨w.heap.size, 1, none⟩ (.int .i64 0)) = WE at HF ⊢
      obtain ⟨⟨r0, r1⟩, _⟩ := rat_at HF.out.1
      exact bodyPost_ret (v := .tuple #[ratVal 0 0, .int .i64 3]) (by simp [results, Tryd.results8, go_sem, r0, r1]) rfl ⟨by rw [HBAD.out] <;> rfl, HF.out.2⟩
  · have hje : j = l.length := by omega
    have HEND : Hid (endV st = r) := by
      have h := HR.out.1
      rw [hje, List.drop_length] at h
      exact h
    clear hje HR
    by_cases h1 : st.length = 1
    · obtain ⟨gs, rfl⟩ := HFM.out (by omega)
      obtain ⟨N, D, hX⟩ : ∃ a b, st.getD 0 (0, 0) = (a, b) := ⟨_, _, rfl⟩
      have HRR : Hid (r = (N, D, 0)) := by show _ = _; rw [← HEND.out, end_one h1, hX]
      have ht := stk_top HS.out.own 0 (by omega)
      rw [hX] at ht
      obtain ⟨q0, q1⟩ := ht
      simp only [Nat.zero_mul, Nat.zero_add] at q0 q1
      have hl1 : ((st.length : Int) == 1) = true := by rw [h1]; rfl
      have hl2 : (0 : Int) < (st.length : Int) := by omega
      obtain ⟨⟨r0, r1⟩, z0, z1⟩ := rat_at HS.out.res
      have HF : Hid _ := HS.out.fin N D _ rfl
      clear hX h1
      go_wp2_with fail
      clear r0 r1
      generalize ((wr.setCell ⟨w.heap.size, 0, none⟩ (.int .i64 N)).setCell ⟨w.heap.size, 1, none⟩ (.int .i64 D)) = WE at HF ⊢
      obtain ⟨⟨r0, r1⟩, _⟩ := rat_at HF.out.1
      exact bodyPost_ret (v := .tuple #[ratVal N D, .int .i64 0]) (by simp [results, Tryd.results8, go_sem, r0, r1]) rfl ⟨by rw [HRR.out] <;> rfl, HF.out.2⟩
    · have HBAD : Hid (r = (0, 0, 3)) := by show _ = _; rw [← HEND.out, end_bad h1]
      have hl1 : ((st.length : Int) == 1) = false := by simp; omega
      clear h1
      have HF : Hid _ := HS.out.fin 0 0 _ rfl
      obtain ⟨_, z0, z1⟩ := rat_at HS.out.res
      obtain ⟨⟨r0, r1⟩, _⟩ := rat_at HS.out.res
      go_wp2_with fail
      clear r0 r1
      generalize ((wr.setCell ⟨w.heap.size, 0, none⟩ (.int .i64 0)).setCell ⟨w.heap.size, 1, none⟩ (.int .i64 0)) = WE at HF ⊢
      obtain ⟨⟨r0, r1⟩, _⟩ := rat_at HF.out.1
      exact bodyPost_ret (v := .tuple #[ratVal 0 0, .int .i64 3]) (by simp [results, Tryd.results8, go_sem, r0, r1]) rfl ⟨by rw [HBAD.out] <;> rfl, HF.out.2⟩

end Go.Proofs.YtkfjmcdfamhiaaaDoor.FrW
