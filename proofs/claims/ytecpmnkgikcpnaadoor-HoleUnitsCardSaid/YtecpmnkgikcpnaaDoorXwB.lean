/-
  The walks of exce's coordinate, position, count.
-/
import Derived.Test.YtecpmnkgikcpnaaDoorXwA
namespace Go.Proofs.YtecpmnkgikcpnaaDoor.XW
open Go.RowKit Go.Proofs.YtecpmnkgikcpnaaDoor.Base Go.Proofs.YtecpmnkgikcpnaaDoor.Dp Go.Proofs.YtecpmnkgikcpnaaDoor.DeciW Go.Proofs.YtecpmnkgikcpnaaDoor.Xp

theorem sub_list (s : ByteArray) (a k : Nat) : (s.extract a k).data.toList = (s.data.toList.take k).drop a := by
  rw [Lib.extract_data, List.drop_take]
theorem coordV_cons (c : UInt8) (r : List UInt8) (l : UInt8) : coordV (c :: r) l = if c = l then (r.take (wspan r), r.drop (wspan r), isWay (r.take (wspan r))) else ([], c :: r, true) := rfl
def Drew (w w' : World) : Prop := ∃ n, w' = w.drewN n
theorem u8_back (c : UInt8) : ((c.toNat : Int)).toNat.toUInt8 = c := by simp

set_option maxRecDepth 100000 in
set_option maxHeartbeats 800000 in
theorem coord_c (S : ByteArray) (hs : S.size ≤ maxLen) (l : UInt8) (lx : Int) (hlx : Hid ((l.toNat : Int) = lx)) (C R : ByteArray) (ok : Bool) (h : Hid (coordV S.data.toList l = (C.data.toList, R.data.toList, ok))) (w : World) :
    Calls Tryd.prog 74 #[.string S, .int .u8 lx] w fun e w' => e = .returned (.tuple #[.string C, .string R, .bool ok]) ∧ Drew w w' := by
  have HSM := Lib.hid hs
  unfold maxLen at hs
  by_cases h0 : S.size = 0
  · obtain rfl := nil_size h0
    have hh := h.out
    unfold coordV at hh
    simp only [Prod.mk.injEq] at hh
    obtain ⟨h1, h2, h3⟩ := hh
    obtain rfl : C = ⟨#[]⟩ := str_eq h1.symm
    obtain rfl : R = ⟨#[]⟩ := str_eq h2.symm
    subst h3
    clear h h1 h2
    go_enter Tryd.func74, Tryd.ntmps74
    go_wp2_with fail
    go_ret3
    exact ⟨rfl, 0, rfl⟩
  · have hne : (S.toList == []) = false := by rw [str_nil]; exact decide_eq_false h0
    have hp : 0 < S.size := by omega
    obtain ⟨r, hr, hr2⟩ := head_byte S hp
    obtain ⟨c, hc⟩ : ∃ c, S[0] = c := ⟨_, rfl⟩
    rw [hc] at hr
    have hh := h.out
    rw [hr, coordV_cons] at hh
    by_cases hcl : c = l
    · subst hcl
      rw [if_pos rfl] at hh
      simp only [Prod.mk.injEq] at hh
      obtain ⟨h1, h2, h3⟩ := hh
      have HC := Lib.hid h1
      have HR := Lib.hid h2
      have HO := Lib.hid h3
      have HL := Lib.hid hr
      have hrl : r.length + 1 = S.size := by rw [← len_list, hr]; rfl
      have hlx' : (c.toNat : Int) = lx := hlx.out
      clear h h1 h2 h3 hr2 hr
      go_enter Tryd.func74, Tryd.ntmps74
      go_wp2_with fail
      go_loop [7] (fun i => ∃ j : Nat, j + 1 ≤ S.size ∧ Hid (j ≤ sp wayC r) ∧ i = .int .i64 ((j : Int) + 1)) (fun i => S.size + 1 - (intOf i).toNat)
      case atStart => exact ⟨0, by omega, Nat.zero_le _, rfl⟩
      case round =>
        obtain ⟨j, hj, HJ, rfl⟩ := hrel
        by_cases hlt : j + 1 < S.size
        · have hlti : (j : Int) + 1 < (S.size : Int) := by omega
          obtain ⟨x, hx⟩ : ∃ x, S[j + 1] = x := ⟨_, rfl⟩
          have hxr : ∃ hl : j < r.length, r[j] = x := by
            refine ⟨by omega, ?_⟩
            obtain ⟨hl, he⟩ := byte_list S (j + 1) hlt
            rw [← hx, ← he]
            simp only [HL.out, List.getElem_cons_succ]
          have HW : Hid (decide (0 ≤ Lib.indexByte [43, 45, 46, 48, 49, 50, 51, 52, 53, 54, 55, 56, 57] ((x.toNat : Int)).toNat.toUInt8) = wayC x) := by show _ = _; rw [u8_back]; exact way_of x
          obtain ⟨hjl, hjx⟩ := hxr
          cases hwx : wayC x with
          | true =>
            have HJ2 : Hid (j + 1 ≤ sp wayC r) := sp_lt HJ.out hjl (by rw [hjx]; exact hwx)
            have hix : (0 : Int) ≤ Lib.indexByte [43, 45, 46, 48, 49, 50, 51, 52, 53, 54, 55, 56, 57] ((x.toNat : Int)).toNat.toUInt8 := by have := HW.out; rw [hwx] at this; exact of_decide_eq_true this
            obtain ⟨ix, hixe⟩ : ∃ ix, Lib.indexByte [43, 45, 46, 48, 49, 50, 51, 52, 53, 54, 55, 56, 57] ((x.toNat : Int)).toNat.toUInt8 = ix := ⟨_, rfl⟩
            have HIX := Lib.hid hixe
            rw [hixe] at hix
            clear hixe hwx HW hjx hjl
            go_wp2_with fail
            with_reducible refine (Tryd.strings_IndexByte _ _ _).mono ?_
            rintro e w' ⟨rfl, rfl⟩
            have hcl : (⟨#[43, 45, 46, 48, 49, 50, 51, 52, 53, 54, 55, 56, 57]⟩ : ByteArray).data.toList = [43, 45, 46, 48, 49, 50, 51, 52, 53, 54, 55, 56, 57] := rfl
            rw [hcl, HIX.out]
            go_wp2_with fail
            go_round
            case rel => exact ⟨j + 1, by omega, HJ2.out, by go_num⟩
            case measure => simp [intOf]; omega
          | false =>
            have HJ2 : Hid (sp wayC r = j) := sp_stop HJ.out hjl (by rw [hjx]; exact hwx)
            have hix : ¬ (0 : Int) ≤ Lib.indexByte [43, 45, 46, 48, 49, 50, 51, 52, 53, 54, 55, 56, 57] ((x.toNat : Int)).toNat.toUInt8 := by have := HW.out; rw [hwx] at this; exact of_decide_eq_false this
            obtain ⟨ix, hixe⟩ : ∃ ix, Lib.indexByte [43, 45, 46, 48, 49, 50, 51, 52, 53, 54, 55, 56, 57] ((x.toNat : Int)).toNat.toUInt8 = ix := ⟨_, rfl⟩
            have HIX := Lib.hid hixe
            rw [hixe] at hix
            have HE : Hid (j = wspan r) := by show _ = _; rw [wspan_sp, HJ2.out]
            clear hixe hwx HW hjx hjl
            go_wp2_with fail
            with_reducible refine (Tryd.strings_IndexByte _ _ _).mono ?_
            rintro e w' ⟨rfl, rfl⟩
            have hcl : (⟨#[43, 45, 46, 48, 49, 50, 51, 52, 53, 54, 55, 56, 57]⟩ : ByteArray).data.toList = [43, 45, 46, 48, 49, 50, 51, 52, 53, 54, 55, 56, 57] := rfl
            rw [hcl, HIX.out]
            clear HIX hcl
            have hj0 : (0 : Int) ≤ (j : Int) := Int.natCast_nonneg _
            have HC1 : Hid (S.extract 1 (j + 1) = C) := str_eq (by
              rw [sub_list, HL.out, List.take_succ_cons, List.drop_succ_cons, List.drop_zero, HE.out]
              exact HC.out)
            have HR1 : Hid (S.extract (j + 1) S.size = R) := str_eq (by
              rw [ext_list, HL.out, List.drop_succ_cons, HE.out]
              exact HR.out)
            have hCs : C.size ≤ maxLen := by
              rw [← len_list, ← HC.out]
              have := List.length_take (i := wspan r) (l := r)
              unfold maxLen; omega
            have HIS : Hid (isWay C.data.toList = ok) := by show _ = _; rw [← HC.out]; exact HO.out
            go_upto_region 7 with fail
            rw [HC1.out]
            go_quiet ((go_at_call 89; exact Calls.quiet_of_same ((isco_c C hCs ok HIS _).mono fun _ _ h => ⟨h.1, h.2.symm⟩)))
            all_goals
              rw [HR1.out]
              go_wp2_with fail
              go_ret3
              exact ⟨rfl, _, rfl⟩
        · have hlti : ¬ ((j : Int) + 1 < (S.size : Int)) := by omega
          have HE : Hid (j = wspan r) := by
            show _ = _
            have h1 := HJ.out
            have h2 := sp_le wayC r
            rw [wspan_sp]; omega
          have hj0 : (0 : Int) ≤ (j : Int) := Int.natCast_nonneg _
          have HC1 : Hid (S.extract 1 (j + 1) = C) := str_eq (by
            rw [sub_list, HL.out, List.take_succ_cons, List.drop_succ_cons, List.drop_zero, HE.out]
            exact HC.out)
          have HR1 : Hid (S.extract (j + 1) S.size = R) := str_eq (by
            rw [ext_list, HL.out, List.drop_succ_cons, HE.out]
            exact HR.out)
          have hCs : C.size ≤ maxLen := by
            rw [← len_list, ← HC.out]
            have := List.length_take (i := wspan r) (l := r)
            unfold maxLen; omega
          have HIS : Hid (isWay C.data.toList = ok) := by show _ = _; rw [← HC.out]; exact HO.out
          go_upto_region 7 with fail
          rw [HC1.out]
          go_quiet ((go_at_call 89; exact Calls.quiet_of_same ((isco_c C hCs ok HIS _).mono fun _ _ h => ⟨h.1, h.2.symm⟩)))
          all_goals
            rw [HR1.out]
            go_wp2_with fail
            go_ret3
            exact ⟨rfl, _, rfl⟩
    · rw [if_neg hcl] at hh
      simp only [Prod.mk.injEq] at hh
      obtain ⟨h1, h2, h3⟩ := hh
      obtain rfl : C = ⟨#[]⟩ := str_eq h1.symm
      obtain rfl : R = S := str_eq (h2.symm.trans hr.symm)
      subst h3
      have hcx : ((c.toNat : Int) == lx) = false := by
        rw [beq_eq_false_iff_ne, ← hlx.out]
        intro e
        exact hcl (UInt8.toNat_inj.1 (by omega))
      clear h h1 h2 hr hr2
      go_enter Tryd.func74, Tryd.ntmps74
      go_wp2_with fail
      go_ret3
      exact ⟨rfl, 0, rfl⟩

theorem coord_len (s : List UInt8) (l : UInt8) : (coordV s l).1.length ≤ s.length ∧ (coordV s l).2.1.length ≤ s.length := by
  cases s with
  | nil => exact ⟨Nat.le_refl _, Nat.le_refl _⟩
  | cons c r =>
    rw [coordV_cons]
    split
    · simp only [List.length_take, List.length_drop, List.length_cons]; omega
    · exact ⟨Nat.zero_le _, Nat.le_refl _⟩
theorem Drew.trans {a b c : World} (h : Drew a b) (h2 : Drew b c) : Drew a c := by
  obtain ⟨n, rfl⟩ := h
  obtain ⟨m, rfl⟩ := h2
  exact ⟨n + m, by simp [World.drewN, Nat.add_assoc]⟩
theorem results_tmp4 {fn : Func} {t u v x : Tmp} (h : fn.results = #[.tmp t, .tmp u, .tmp v, .tmp x]) (tmps : Array Value) (P : Program) (w : World) :
    (results fn tmps).run P w = .ok (.tuple #[tmps.getD t undef, tmps.getD u undef, tmps.getD v undef, tmps.getD x undef]) w := by
  simp [results, h]
/-- What position returns. -/
def PosOut (o : Option (List UInt8 × List UInt8 × List UInt8)) (e : Ending) : Prop := match o with
  | some (x, y, r) => e = .returned (.tuple #[.string ⟨x.toArray⟩, .string ⟨y.toArray⟩, .string ⟨r.toArray⟩, .bool true])
  | none => e = .returned (.tuple #[.string ⟨#[]⟩, .string ⟨#[]⟩, .string ⟨#[]⟩, .bool false])
theorem bs_eta (S : ByteArray) : (⟨S.data.toList.toArray⟩ : ByteArray) = S := str_eq rfl
theorem list_nil (S : ByteArray) : S.data.toList = [] ↔ S.size = 0 := by
  rw [← len_list]
  exact ⟨fun h => by rw [h]; rfl, List.eq_nil_of_length_eq_zero⟩

set_option maxRecDepth 100000 in
set_option maxHeartbeats 800000 in
theorem pos_c (S : ByteArray) (hs : S.size ≤ maxLen) (o : Option (List UInt8 × List UInt8 × List UInt8)) (h : Hid (posV S.data.toList = o)) (w : World) :
    Calls Tryd.prog 61 #[.string S] w fun e w' => PosOut o e ∧ Drew w w' := by
  obtain ⟨C1, hC1⟩ := str_ex (coordV S.data.toList 88).1
  obtain ⟨R1, hR1⟩ := str_ex (coordV S.data.toList 88).2.1
  obtain ⟨o1, ho1⟩ : ∃ b, (coordV S.data.toList 88).2.2 = b := ⟨_, rfl⟩
  have hl1 := (coord_len S.data.toList 88).2
  rw [← hR1, len_list, len_list] at hl1
  obtain ⟨C2, hC2⟩ := str_ex (coordV R1.data.toList 89).1
  obtain ⟨R2, hR2⟩ := str_ex (coordV R1.data.toList 89).2.1
  obtain ⟨o2, ho2⟩ : ∃ b, (coordV R1.data.toList 89).2.2 = b := ⟨_, rfl⟩
  have HS := Lib.hid hs
  have HR : Hid (R1.size ≤ maxLen) := Nat.le_trans hl1 hs
  have H1 : Hid (coordV S.data.toList 88 = (C1.data.toList, R1.data.toList, o1)) := by show _ = _; rw [hC1, hR1, ← ho1]
  have H2 : Hid (coordV R1.data.toList 89 = (C2.data.toList, R2.data.toList, o2)) := by show _ = _; rw [hC2, hR2, ← ho2]
  have HO : Hid ((if o1 = true ∧ o2 = true ∧ ¬ (C1.size = 0 ∧ C2.size = 0) then some (C1.data.toList, C2.data.toList, R2.data.toList) else none) = o) := by
    show _ = _
    rw [← h.out]
    unfold posV
    rw [H1.out]
    dsimp only
    rw [H2.out]
    dsimp only
    simp only [list_nil]
  clear h hC1 hR1 ho1 hC2 hR2 ho2 hl1 hs
  go_enter Tryd.func61, Tryd.ntmps61
  go_wp2_with fail
  with_reducible refine (coord_c S HS.out 88 88 (Lib.hid (by decide)) C1 R1 o1 H1 _).mono ?_
  rintro e w1 ⟨rfl, hw1⟩
  go_wp2_with fail
  with_reducible refine (coord_c R1 HR.out 89 89 (Lib.hid (by decide)) C2 R2 o2 H2 _).mono ?_
  rintro e w2 ⟨rfl, hw2⟩
  have HW := Lib.hid (hw1.trans hw2)
  clear hw1 hw2
  cases o1 with
  | false =>
    have HN : Hid (o = none) := by show _ = _; rw [← HO.out]; rfl
    go_wp2_with fail
    refine bodyPost_ret (results_tmp4 rfl _ _ _) rfl ?_
    exact ⟨by rw [HN.out]; rfl, HW.out⟩
  | true =>
    cases o2 with
    | false =>
      have HN : Hid (o = none) := by show _ = _; rw [← HO.out]; rfl
      go_wp2_with fail
      refine bodyPost_ret (results_tmp4 rfl _ _ _) rfl ?_
      exact ⟨by rw [HN.out]; rfl, HW.out⟩
    | true =>
      by_cases n1 : C1.size = 0
      · have hn1 : (C1.toList == []) = true := by rw [str_nil]; exact decide_eq_true n1
        by_cases n2 : C2.size = 0
        · have hn2 : (C2.toList == []) = true := by rw [str_nil]; exact decide_eq_true n2
          have HN : Hid (o = none) := by show _ = _; rw [← HO.out, if_neg (fun h => h.2.2 ⟨n1, n2⟩)]
          go_wp2_with fail
          refine bodyPost_ret (results_tmp4 rfl _ _ _) rfl ?_
          exact ⟨by rw [HN.out]; rfl, HW.out⟩
        · have hn2 : (C2.toList == []) = false := by rw [str_nil]; exact decide_eq_false n2
          have HN : Hid (o = some (C1.data.toList, C2.data.toList, R2.data.toList)) := by show _ = _; rw [← HO.out, if_pos ⟨rfl, rfl, fun h => n2 h.2⟩]
          go_wp2_with fail
          refine bodyPost_ret (results_tmp4 rfl _ _ _) rfl ?_
          exact ⟨by rw [HN.out]; unfold PosOut; simp only [bs_eta]; rfl, HW.out⟩
      · have hn1 : (C1.toList == []) = false := by rw [str_nil]; exact decide_eq_false n1
        have HN : Hid (o = some (C1.data.toList, C2.data.toList, R2.data.toList)) := by show _ = _; rw [← HO.out, if_pos ⟨rfl, rfl, fun h => n1 h.1⟩]
        go_wp2_with fail
        refine bodyPost_ret (results_tmp4 rfl _ _ _) rfl ?_
        exact ⟨by rw [HN.out]; unfold PosOut; simp only [bs_eta]; rfl, HW.out⟩

theorem val_mono (l : List UInt8) {j k : Nat} (h : j ≤ k) : val (l.take j) ≤ val (l.take k) := by
  have e := (List.take_append_drop j (l.take k)).symm
  rw [List.take_take, Nat.min_eq_left h] at e
  rw [e, val_append]
  have : 1 ≤ 10 ^ ((l.take k).drop j).length := Nat.pow_pos (by decide)
  have h2 : val (l.take j) * 1 ≤ val (l.take j) * 10 ^ ((l.take k).drop j).length := Nat.mul_le_mul_left _ this
  omega
theorem head_get (l : List UInt8) (h : 0 < l.length) : l.headD 0 = l[0] := by
  cases l with
  | nil => simp at h
  | cons x r => rfl
/-- What count returns. -/
def CountOut (o : Option (Nat × List UInt8)) (e : Ending) : Prop := match o with
  | some (n, r) => e = .returned (.tuple #[.int .i64 (n : Int), .string ⟨r.toArray⟩, .bool true])
  | none => ∃ (n : Int) (r : ByteArray), e = .returned (.tuple #[.int .i64 n, .string r, .bool false])

set_option maxRecDepth 100000 in
set_option maxHeartbeats 800000 in
theorem count_c (S : ByteArray) (hs : S.size ≤ maxLen) (most : Nat) (hm : most ≤ 9999) (mx : Int) (hmx : Hid ((most : Int) = mx)) (o : Option (Nat × List UInt8)) (h : Hid (countV S.data.toList most = o)) (w : World) :
    Calls Tryd.prog 59 #[.string S, .int .i64 mx] w fun e w' => CountOut o e ∧ Drew w w' := by
  unfold maxLen at hs
  have hmx0 : 0 ≤ mx ∧ mx ≤ 9999 := by have := hmx.out; omega
  obtain ⟨hmx1, hmx2⟩ := hmx0
  clear hm
  go_enter Tryd.func59, Tryd.ntmps59
  go_wp2_with fail
  go_loop [7, 8] (fun v i => ∃ (n j : Nat), j ≤ S.size ∧ n ≤ 9999 ∧ Hid (j ≤ nd S.data.toList ∧ n = val (S.data.toList.take j) ∧ n ≤ most ∧ (0 < j → S.data.toList.headD 0 ≠ 48)) ∧ v = .int .i64 n ∧ i = .int .i64 j) (fun _ i => S.size - (intOf i).toNat)
  case atStart => exact ⟨0, 0, Nat.zero_le _, Nat.zero_le _, ⟨Nat.zero_le _, rfl, Nat.zero_le _, fun h => absurd h (Nat.lt_irrefl _)⟩, rfl, rfl⟩
  case round =>
    obtain ⟨n, j, hj, hn, HJ, rfl, rfl⟩ := hrel
    have hexit : Hid (nd S.data.toList = j → o = if j = 0 then none else some (n, S.data.toList.drop j)) := by
      intro he
      obtain ⟨_, h2, h3, h4⟩ := HJ.out
      rw [← h.out]
      unfold countV
      rw [he, ← h2]
      by_cases h0 : j = 0
      · rw [if_pos (.inl h0), if_pos h0]
      · rw [if_neg (by rintro (h | h | h); · exact h0 h
                       · exact h4 (by omega) h
                       · omega), if_neg h0]
    by_cases hlt : j < S.size
    · have hlti : (j : Int) < (S.size : Int) := by omega
      obtain ⟨c, hc⟩ : ∃ c, S[j] = c := ⟨_, rfl⟩
      obtain ⟨hl, he⟩ := byte_list S j hlt
      rw [hc] at he
      by_cases h48 : (48 : Int) ≤ (c.toNat : Int)
      · by_cases h57 : (c.toNat : Int) ≤ 57
        · have hD : isD c = true := (isD_iff c).2 ⟨by omega, by omega⟩
          obtain ⟨d, hd⟩ : ∃ d : Nat, c.toNat - 48 = d := ⟨_, rfl⟩
          have hd9 : d ≤ 9 := by omega
          have hsub : (c.toNat : Int) - 48 = (d : Int) := by omega
          have hw8 : IntKind.u8.wrap (d : Int) = (d : Int) := by rw [IntKind.wrap_u8]; omega
          obtain ⟨n2, hn2⟩ : ∃ n2 : Nat, 10 * n + d = n2 := ⟨_, rfl⟩
          have hadd : 10 * (n : Int) + (d : Int) = (n2 : Int) := by omega
          have HV : Hid (n2 = val (S.data.toList.take (j + 1)) ∧ j + 1 ≤ nd S.data.toList) := by
            obtain ⟨g1, g2, _, _⟩ := HJ.out
            refine ⟨?_, nd_lt g1 hl (by rw [he]; exact hD)⟩
            rw [List.take_succ_eq_append_getElem hl, val_snoc, ← g2, he, hd]
            omega
          by_cases hz : n2 = 0
          · have HN : Hid (o = none) := by
              show _ = _
              obtain ⟨g1, g2, g3, g4⟩ := HJ.out
              have hj0 : j = 0 := by
                apply Classical.byContradiction
                intro hjn
                have hh := g4 (by omega)
                have hnd := HV.out.2
                have h1 : val (S.data.toList.take 1) ≤ val (S.data.toList.take (j + 1)) := val_mono _ (by omega)
                rw [← HV.out.1, hz] at h1
                cases hll : S.data.toList with
                | nil => rw [hll] at hl; simp at hl
                | cons x r =>
                  rw [hll] at h1 hh hnd
                  have hx : isD x = true := by
                    apply Classical.byContradiction
                    intro hx
                    rw [nd_cons, if_neg hx] at hnd
                    omega
                  have hxx := (isD_iff x).1 hx
                  rw [List.take_succ_cons, List.take_zero] at h1
                  have h2 : val [x] = x.toNat - 48 := by simp [val]
                  rw [h2] at h1
                  apply hh
                  show x = 48
                  exact UInt8.toNat_inj.1 (by show x.toNat = 48; omega)
              subst hj0
              rw [← h.out]
              unfold countV
              rw [if_pos]
              right; left
              have hc48 : c = 48 := UInt8.toNat_inj.1 (by show c.toNat = 48; omega)
              rw [head_get _ hl, he, hc48]
            have hzi : ((n2 : Int) == 0) = true := by rw [hz]; rfl
            clear hexit he hd
            go_wp2_with fail
            go_ret3
            exact ⟨by rw [HN.out]; exact ⟨_, _, rfl⟩, 0, rfl⟩
          · have hzi : ((n2 : Int) == 0) = false := by rw [beq_eq_false_iff_ne]; omega
            by_cases hgt : mx < (n2 : Int)
            · have HN : Hid (o = none) := by
                show _ = _
                rw [← h.out]
                unfold countV
                rw [if_pos]
                right; right
                have h1 := val_mono S.data.toList HV.out.2
                rw [← HV.out.1] at h1
                have := hmx.out
                omega
              clear hexit he hd
              go_wp2_with fail
              go_ret3
              exact ⟨by rw [HN.out]; exact ⟨_, _, rfl⟩, 0, rfl⟩
            · have HJ2 : Hid (j + 1 ≤ nd S.data.toList ∧ n2 = val (S.data.toList.take (j + 1)) ∧ n2 ≤ most ∧ (0 < j + 1 → S.data.toList.headD 0 ≠ 48)) := by
                refine ⟨HV.out.2, HV.out.1, by have := hmx.out; omega, fun _ => ?_⟩
                by_cases hj0 : j = 0
                · subst hj0
                  intro h48'
                  have hx : c = 48 := by
                    rw [← h48', head_get _ hl, he]
                  have h0 : n = 0 := by have := HJ.out.2.1; rw [this]; rfl
                  have : c.toNat = 48 := by rw [hx]; rfl
                  omega
                · exact HJ.out.2.2.2 (by omega)
              have hn9 : n2 ≤ 9999 := by omega
              clear hexit he hd
              go_wp2_with fail
              go_round
              case rel => exact ⟨n2, j + 1, by omega, hn9, HJ2.out, rfl, by go_num⟩
              case measure => simp [intOf]; omega
        · have HX : Hid (o = if j = 0 then none else some (n, S.data.toList.drop j)) := hexit.out (nd_stop HJ.out.1 hl (by rw [he]; exact (isD_false c).2 (by omega)))
          clear hexit he
          go_wp2_with fail
          go_quiet (fail)
          all_goals
            go_wp2_with fail
            go_ret3
            by_cases hj0 : j = 0
            · refine ⟨?_, _, rfl⟩
              rw [HX.out, if_pos hj0]
              exact ⟨_, _, by rw [hj0]; rfl⟩
            · refine ⟨?_, _, rfl⟩
              rw [HX.out, if_neg hj0]
              have hd : decide (0 < j) = true := decide_eq_true (by omega)
              have hS : S.extract j S.size = ⟨(S.data.toList.drop j).toArray⟩ := str_eq (ext_list S j)
              show _ = Ending.returned (.tuple #[.int .i64 (n : Int), .string ⟨(S.data.toList.drop j).toArray⟩, .bool true])
              rw [← hS, ← hd]
              rfl
      · have HX : Hid (o = if j = 0 then none else some (n, S.data.toList.drop j)) := hexit.out (nd_stop HJ.out.1 hl (by rw [he]; exact (isD_false c).2 (by omega)))
        clear hexit he
        go_wp2_with fail
        go_quiet (fail)
        all_goals
          go_wp2_with fail
          go_ret3
          by_cases hj0 : j = 0
          · refine ⟨?_, _, rfl⟩
            rw [HX.out, if_pos hj0]
            exact ⟨_, _, by rw [hj0]; rfl⟩
          · refine ⟨?_, _, rfl⟩
            rw [HX.out, if_neg hj0]
            have hd : decide (0 < j) = true := decide_eq_true (by omega)
            have hS : S.extract j S.size = ⟨(S.data.toList.drop j).toArray⟩ := str_eq (ext_list S j)
            show _ = Ending.returned (.tuple #[.int .i64 (n : Int), .string ⟨(S.data.toList.drop j).toArray⟩, .bool true])
            rw [← hS, ← hd]
            rfl
    · have hlti : ¬ ((j : Int) < (S.size : Int)) := by omega
      have HX : Hid (o = if j = 0 then none else some (n, S.data.toList.drop j)) := hexit.out (by have := nd_le S.data.toList; rw [len_list] at this; have := HJ.out.1; omega)
      clear hexit
      go_wp2_with fail
      go_quiet (fail)
      all_goals
        go_wp2_with fail
        go_ret3
        by_cases hj0 : j = 0
        · refine ⟨?_, _, rfl⟩
          rw [HX.out, if_pos hj0]
          exact ⟨_, _, by rw [hj0]; rfl⟩
        · refine ⟨?_, _, rfl⟩
          rw [HX.out, if_neg hj0]
          have hd : decide (0 < j) = true := decide_eq_true (by omega)
          have hS : S.extract j S.size = ⟨(S.data.toList.drop j).toArray⟩ := str_eq (ext_list S j)
          show _ = Ending.returned (.tuple #[.int .i64 (n : Int), .string ⟨(S.data.toList.drop j).toArray⟩, .bool true])
          rw [← hS, ← hd]
          rfl
end Go.Proofs.YtecpmnkgikcpnaaDoor.XW
