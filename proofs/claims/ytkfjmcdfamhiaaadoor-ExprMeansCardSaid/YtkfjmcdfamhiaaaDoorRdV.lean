/-
  The walks of the reader's digits, variable and number.
-/
import Derived.Test.YtkfjmcdfamhiaaaDoorRdW
import Derived.Test.YtkfjmcdfamhiaaaDoorDeciV
namespace Go.Proofs.YtkfjmcdfamhiaaaDoor.RdW
open Go.RowKit Go.Proofs.YtkfjmcdfamhiaaaDoor.Dp Go.Proofs.YtkfjmcdfamhiaaaDoor.Base Go.Proofs.YtkfjmcdfamhiaaaDoor.Ep Go.Proofs.YtkfjmcdfamhiaaaDoor.Mem

theorem digit_c (X : Int) (b : Bool) (hb : Hid ((decide (48 ≤ X) && decide (X ≤ 57)) = b)) (w : World) :
    Calls Tryd.prog 50 #[.int .u8 X] w fun e w' => e = .returned (.bool b) ∧ w = w' := by
  by_cases h1 : 48 ≤ X
  · by_cases h2 : X ≤ 57
    · obtain rfl : true = b := by rw [← hb.out]; simp [h1, h2]
      go_enter Tryd.func50, Tryd.ntmps50
      go_wp2_with fail
      go_ret
      exact ⟨rfl, rfl⟩
    · obtain rfl : false = b := by rw [← hb.out]; simp [h2]
      go_enter Tryd.func50, Tryd.ntmps50
      go_wp2_with fail
      go_ret
      exact ⟨rfl, rfl⟩
  · obtain rfl : false = b := by rw [← hb.out]; simp [h1]
    go_enter Tryd.func50, Tryd.ntmps50
    go_wp2_with fail
    go_ret
    exact ⟨rfl, rfl⟩
/-- A byte of the text, by its place. -/
theorem at_byte {S : ByteArray} {i : Nat} (h : i < S.size) : ∃ X : Nat, S[i].toNat = X ∧ X < 256 := ⟨_, rfl, UInt8.toNat_lt _⟩
theorem drop_at {S : ByteArray} {k j : Nat} (h : k + j < S.size) : ∃ hj : j < (S.data.toList.drop k).length, (S.data.toList.drop k)[j] = S[k + j] := by
  have hl : S.data.toList.length = S.size := len_list S
  exact ⟨by rw [List.length_drop, hl]; omega, by rw [List.getElem_drop]; rfl⟩
theorem nd_going {S : ByteArray} {k i : Nat} (hk : k ≤ i) (h : i < S.size) (hj : i - k ≤ nd (S.data.toList.drop k)) (hd : isD S[i] = true) : i + 1 - k ≤ nd (S.data.toList.drop k) := by
  obtain ⟨j, rfl⟩ : ∃ j, i = k + j := ⟨i - k, by omega⟩
  obtain ⟨h1, h2⟩ := drop_at h
  have := nd_lt (k := j) (by omega) h1 (by rw [h2]; exact hd)
  omega
theorem nd_halt {S : ByteArray} {k i : Nat} (hk : k ≤ i) (h : i < S.size) (hj : i - k ≤ nd (S.data.toList.drop k)) (hd : isD S[i] = false) : k + nd (S.data.toList.drop k) = i := by
  obtain ⟨j, rfl⟩ : ∃ j, i = k + j := ⟨i - k, by omega⟩
  obtain ⟨h1, h2⟩ := drop_at h
  have := nd_stop (k := j) (by omega) h1 (by rw [h2]; exact hd)
  omega
theorem nd_over {S : ByteArray} {k i : Nat} (hk : k ≤ i) (h : ¬ i < S.size) (hi : i ≤ S.size) (hj : i - k ≤ nd (S.data.toList.drop k)) : k + nd (S.data.toList.drop k) = i := by
  have h1 := nd_le (S.data.toList.drop k)
  rw [List.length_drop, len_list] at h1
  omega
theorem dig_bool {S : ByteArray} {i X : Nat} (h : i < S.size) (hX : S[i].toNat = X) (b : Bool) (hb : isD S[i] = b) : (decide (48 ≤ (X : Int)) && decide ((X : Int) ≤ 57)) = b := by
  rw [← hb, ← hX]
  unfold isD
  congr 1 <;> (rw [decide_eq_decide]; omega)

set_option maxHeartbeats 800000 in
theorem digits_c {R : Nat} {S : ByteArray} (hS : S.size ≤ 300) (w : World) (h0 : w.cell? ⟨R, 0, none⟩ = some (.string S)) (k : Nat) (hk : k ≤ S.size) (a : Int) (ha : Hid (a = (k : Int))) (m : Nat) (hm : Hid (k + nd (S.data.toList.drop k) = m)) :
    Calls Tryd.prog 60 #[.pointer (some ⟨R, 0, none⟩), .int .i64 a] w fun e w' => e = .returned (.int .i64 (m : Int)) ∧ w = w' := by
  obtain rfl := ha.out
  go_enter Tryd.func60, Tryd.ntmps60
  go_wp2_with fail
  go_loop [1] (fun a => ∃ i : Nat, k ≤ i ∧ i ≤ S.size ∧ a = .int .i64 (i : Int) ∧ Hid (i - k ≤ nd (S.data.toList.drop k))) (fun a => S.size - (intOf a).toNat)
  case atStart => exact ⟨k, by omega, by omega, rfl, by show k - k ≤ _; omega⟩
  case round =>
    obtain ⟨i, hki, his, rfl, hjn⟩ := hrel
    by_cases hlt : i < S.size
    · obtain ⟨X, hX, hX2⟩ := at_byte hlt
      obtain ⟨b, hb⟩ : ∃ b, isD S[i] = b := ⟨_, rfl⟩
      have HB : Hid ((decide (48 ≤ (X : Int)) && decide ((X : Int) ≤ 57)) = b) := dig_bool hlt hX b hb
      have hXi : ((S[i].toNat : Nat) : Int) = (X : Int) := by rw [hX]
      have HN : Hid ((b = true → i + 1 - k ≤ nd (S.data.toList.drop k)) ∧ (b = false → k + nd (S.data.toList.drop k) = i)) := ⟨fun h => nd_going hki hlt hjn.out (hb.trans h), fun h => nd_halt hki hlt hjn.out (hb.trans h)⟩
      clear hX hb
      cases b with
      | true =>
        go_wp2_with fail
        with_reducible refine (digit_c _ true HB _).mono ?_
        rintro e w' ⟨rfl, rfl⟩
        go_wp2_with fail
        go_round
        case rel => exact ⟨i + 1, by omega, by omega, by go_num, HN.out.1 trivial⟩
        case measure => simp [intOf]; omega
      | false =>
        have HM : Hid (((i : Nat) : Int) = (m : Int)) := by show _ = _; rw [← hm.out, HN.out.2 rfl]
        go_wp2_with fail
        with_reducible refine (digit_c _ false HB _).mono ?_
        rintro e w' ⟨rfl, rfl⟩
        go_wp2_with fail
        go_ret
        exact ⟨ret_int HM.out, rfl⟩
    · have HM : Hid (((i : Nat) : Int) = (m : Int)) := by show _ = _; rw [← hm.out, nd_over hki hlt his hjn.out]
      go_wp2_with fail
      go_ret
      exact ⟨ret_int HM.out, rfl⟩

theorem varN_snoc (l : List UInt8) (c : UInt8) : varN (l ++ [c]) = min (10 * varN l + (c.toNat - 48)) 100 := by simp [varN]
theorem varN_le (l : List UInt8) : varN l ≤ 100 := by
  rcases List.eq_nil_or_concat l with rfl | ⟨l', c, rfl⟩
  · simp [varN]
  · rw [List.concat_eq_append, varN_snoc]; omega
theorem varN_step {S : ByteArray} {k i m X : Nat} (hk : k ≤ i) (h : i < S.size) (hX : S[i].toNat = X) (hm : varN ((S.data.toList.drop k).take (i - k)) = m) : varN ((S.data.toList.drop k).take (i + 1 - k)) = min (10 * m + (X - 48)) 100 := by
  obtain ⟨j, rfl⟩ : ∃ j, i = k + j := ⟨i - k, by omega⟩
  obtain ⟨h1, h2⟩ := drop_at h
  rw [show k + j - k = j by omega] at hm
  rw [show k + j + 1 - k = j + 1 by omega, List.take_succ_eq_append_getElem h1, varN_snoc, hm, h2, hX]
theorem rest_head {S : ByteArray} {k : Nat} {r : List UInt8} (h : S.data.toList.drop k = r) (hne : r ≠ []) : k < S.size ∧ S.data.toList.drop (k + 1) = r.drop 1 := by
  have h1 := congrArg List.length h
  rw [List.length_drop, len_list] at h1
  have h2 := List.length_pos_iff.2 hne
  refine ⟨by omega, ?_⟩
  rw [← h, List.drop_drop]
theorem head_at {S : ByteArray} {k : Nat} (h : k < S.size) : hd (S.data.toList.drop k) = S[k] := by
  have hl : k < S.data.toList.length := by rw [len_list]; exact h
  rw [List.drop_eq_getElem_cons hl]
  rfl

set_option maxRecDepth 100000 in
set_option maxHeartbeats 1600000 in
theorem variable_c {w0 : World} {S : ByteArray} {R deep : Nat} {st : St} (hS : S.size ≤ 300) (w : World) (h : RdA w0 S R deep st w) (he : st.e = 0) (hl : st.ops.length ≤ 1000) (h36 : hd st.r = 36) :
    Calls Tryd.prog 49 #[.pointer (some ⟨R, 0, none⟩)] w (Left w0 S R deep (varV st)) := by
  obtain ⟨k, v, h⟩ := h
  have hne : st.r ≠ [] := by intro e; rw [e] at h36; exact absurd h36 (by decide)
  obtain ⟨hks, hx⟩ := rest_head h.rest hne
  have H := Lib.hid h
  obtain ⟨c0, c1, c2, c3, c4⟩ := h.cells
  have f4 := h.frozen 4
  have HX := Lib.hid hx
  have HE := Lib.hid he
  clear h hx he h36 hne
  go_enter Tryd.func49, Tryd.ntmps49
  go_wp2_with fail
  go_loop [2, 3] (fun a n => ∃ i m : Nat, k + 1 ≤ i ∧ i ≤ S.size ∧ m ≤ 100 ∧ a = .int .i64 (i : Int) ∧ n = .int .i64 (m : Int) ∧ Hid (i - (k + 1) ≤ nd (S.data.toList.drop (k + 1)) ∧ varN ((S.data.toList.drop (k + 1)).take (i - (k + 1))) = m)) (fun a _ => S.size - (intOf a).toNat)
  case atStart => exact ⟨k + 1, 0, by omega, by omega, by omega, by go_num, rfl, by show k + 1 - (k + 1) ≤ _; omega, by rw [Nat.sub_self]; rfl⟩
  case round =>
    obtain ⟨i, m, hki, his, hm, rfl, rfl, hjn⟩ := hrel
    by_cases hgo : i < S.size ∧ isD (S.data.toList.getD i 0) = true
    · obtain ⟨hlt, hdg⟩ := hgo
      have hdg' : isD S[i] = true := by
        have : S.data.toList.getD i 0 = S[i] := by
          rw [List.getD_eq_getElem?_getD, List.getElem?_eq_getElem (by rw [len_list]; exact hlt)]; rfl
        rw [← this]; exact hdg
      obtain ⟨X, hX, hX2⟩ := at_byte hlt
      have HB : Hid ((decide (48 ≤ (X : Int)) && decide ((X : Int) ≤ 57)) = true) := dig_bool hlt hX true hdg'
      have hXi : ((S[i].toNat : Nat) : Int) = (X : Int) := by rw [hX]
      have hXb : 48 ≤ X ∧ X ≤ 57 := by rw [← hX]; exact (isD_iff _).1 hdg'
      obtain ⟨hX48, hX57⟩ := hXb
      obtain ⟨V, hV⟩ : ∃ V : Nat, min (10 * m + (X - 48)) 100 = V := ⟨_, rfl⟩
      have hVi : min (10 * (m : Int) + ((X : Int) - 48)) 100 = (V : Int) := by omega
      have hV100 : V ≤ 100 := by omega
      have HN : Hid (i + 1 - (k + 1) ≤ nd (S.data.toList.drop (k + 1)) ∧ varN ((S.data.toList.drop (k + 1)).take (i + 1 - (k + 1))) = V) := ⟨nd_going hki hlt hjn.out.1 hdg', by rw [varN_step hki hlt hX hjn.out.2, hV]⟩
      clear hX hV hdg hdg'
      go_wp2_with fail
      with_reducible refine (digit_c _ true HB _).mono ?_
      rintro e w' ⟨rfl, rfl⟩
      go_wp2_with fail
      go_round
      case rel => exact ⟨i + 1, V, by omega, by omega, hV100, by go_num, rfl, HN⟩
      case measure => simp [intOf]; omega
    · by_cases hlt : i < S.size
      · obtain ⟨X, hX, hX2⟩ := at_byte hlt
        have hdg' : isD S[i] = false := by
          rw [Bool.eq_false_iff]
          intro hd1
          apply hgo
          refine ⟨hlt, ?_⟩
          have : S.data.toList.getD i 0 = S[i] := by
            rw [List.getD_eq_getElem?_getD, List.getElem?_eq_getElem (by rw [len_list]; exact hlt)]; rfl
          rw [this]; exact hd1
        have HB : Hid ((decide (48 ≤ (X : Int)) && decide ((X : Int) ≤ 57)) = false) := dig_bool hlt hX false hdg'
        have hXi : ((S[i].toNat : Nat) : Int) = (X : Int) := by rw [hX]
        have hF1 := nd_halt hki hlt hjn.out.1 hdg'
        have HF : Hid (k + 1 + nd (S.data.toList.drop (k + 1)) = i ∧ varN ((S.data.toList.drop (k + 1)).take (nd (S.data.toList.drop (k + 1)))) = m) := ⟨hF1, by rw [← hjn.out.2]; congr 2; omega⟩
        clear hX hdg' hgo hF1
        go_wp2_with fail
        with_reducible refine (digit_c _ false HB _).mono ?_
        rintro e w' ⟨rfl, rfl⟩
        go_wp2_with fail
        by_cases hm1 : (m : Int) < 1
        · have HV : Hid (varV st = ⟨st.r, st.ops, 3⟩) := by
            show _ = _
            unfold varV
            rw [← HX.out, HF.out.2, if_pos (.inl (by omega))]
          go_quiet (fail)
          go_wp2_with fail
          refine bodyPost_ret (results_none rfl _ _ _) rfl ?_
          exact ⟨rfl, by rw [HV.out]; exact ⟨k, v, (H.out.drewN _).err 3⟩⟩
        · by_cases hm2 : 99 < (m : Int)
          · have HV : Hid (varV st = ⟨st.r, st.ops, 3⟩) := by
              show _ = _
              unfold varV
              rw [← HX.out, HF.out.2, if_pos (.inr (.inl (by omega)))]
            go_quiet (fail)
            go_wp2_with fail
            refine bodyPost_ret (results_none rfl _ _ _) rfl ?_
            exact ⟨rfl, by rw [HV.out]; exact ⟨k, v, (H.out.drewN _).err 3⟩⟩
          · have hk1 : k + 1 < S.size := by
              apply Classical.byContradiction
              intro hn
              have h1 := HF.out.2
              rw [List.drop_eq_nil_of_le (by rw [len_list]; omega)] at h1
              have h2 : varN (List.take (nd []) []) = 0 := rfl
              omega
            obtain ⟨Y, hY, hY2⟩ := at_byte hk1
            have hYi : ((S[k + 1].toNat : Nat) : Int) = (Y : Int) := by rw [hY]
            have hh : hd (st.r.drop 1) = S[k + 1] := by rw [← HX.out]; exact head_at hk1
            by_cases h48 : Y = 48
            · have t48 : ((Y : Int) == 48) = true := by rw [h48]; rfl
              have HV : Hid (varV st = ⟨st.r, st.ops, 3⟩) := by
                show _ = _
                unfold varV
                rw [if_pos (.inr (.inr (by rw [hh]; apply UInt8.toNat_inj.1; rw [hY, h48]; rfl)))]
              clear hh hY h48
              go_quiet (fail)
              go_wp2_with fail
              refine bodyPost_ret (results_none rfl _ _ _) rfl ?_
              exact ⟨rfl, by rw [HV.out]; exact ⟨k, v, (H.out.drewN _).err 3⟩⟩
            · have t48 : ((Y : Int) == 48) = false := by simp; omega
              have HV : Hid (varV st = ⟨(st.r.drop 1).drop (nd (st.r.drop 1)), st.ops ++ [(2, (m : Int))], 0⟩ ∧ put st 2 (m : Int) = ⟨st.r, st.ops ++ [(2, (m : Int))], 0⟩ ∧ S.data.toList.drop i = (st.r.drop 1).drop (nd (st.r.drop 1))) := by
                refine ⟨?_, by unfold put; rw [if_pos HE.out], by rw [← HX.out, List.drop_drop, HF.out.1]⟩
                unfold varV
                rw [← HX.out, HF.out.2, if_neg]
                rintro (h | h | h)
                · omega
                · omega
                · rw [HX.out, hh] at h
                  apply h48
                  rw [← hY, h]; rfl
              clear hh hY h48
              go_quiet (fail)
              go_wp2_with fail
              with_reducible refine (put_c _ (H.out.drewN _).any hl 2 (m : Int)).mono ?_
              rintro e w' ⟨rfl, k', v', h'⟩
              have H' := Lib.hid h'
              obtain ⟨d0, d1, d2, d3, d4⟩ := h'.cells
              have f1 := h'.frozen 1
              clear h' c0 c1 c2 c3 c4 f4
              go_wp2_with fail
              go_end0
              refine ⟨rfl, i, v', ?_⟩
              have hst := H'.out.step his rfl
              rw [HV.out.2.1, HV.out.2.2] at hst
              rw [HV.out.1]
              exact hst
      · have hF1 := nd_over hki hlt his hjn.out.1
        have HF : Hid (k + 1 + nd (S.data.toList.drop (k + 1)) = i ∧ varN ((S.data.toList.drop (k + 1)).take (nd (S.data.toList.drop (k + 1)))) = m) := ⟨hF1, by rw [← hjn.out.2]; congr 2; omega⟩
        clear hgo hF1
        go_wp2_with fail
        by_cases hm1 : (m : Int) < 1
        · have HV : Hid (varV st = ⟨st.r, st.ops, 3⟩) := by
            show _ = _
            unfold varV
            rw [← HX.out, HF.out.2, if_pos (.inl (by omega))]
          go_quiet (fail)
          go_wp2_with fail
          refine bodyPost_ret (results_none rfl _ _ _) rfl ?_
          exact ⟨rfl, by rw [HV.out]; exact ⟨k, v, (H.out.drewN _).err 3⟩⟩
        · by_cases hm2 : 99 < (m : Int)
          · have HV : Hid (varV st = ⟨st.r, st.ops, 3⟩) := by
              show _ = _
              unfold varV
              rw [← HX.out, HF.out.2, if_pos (.inr (.inl (by omega)))]
            go_quiet (fail)
            go_wp2_with fail
            refine bodyPost_ret (results_none rfl _ _ _) rfl ?_
            exact ⟨rfl, by rw [HV.out]; exact ⟨k, v, (H.out.drewN _).err 3⟩⟩
          · have hk1 : k + 1 < S.size := by
              apply Classical.byContradiction
              intro hn
              have h1 := HF.out.2
              rw [List.drop_eq_nil_of_le (by rw [len_list]; omega)] at h1
              have h2 : varN (List.take (nd []) []) = 0 := rfl
              omega
            obtain ⟨Y, hY, hY2⟩ := at_byte hk1
            have hYi : ((S[k + 1].toNat : Nat) : Int) = (Y : Int) := by rw [hY]
            have hh : hd (st.r.drop 1) = S[k + 1] := by rw [← HX.out]; exact head_at hk1
            by_cases h48 : Y = 48
            · have t48 : ((Y : Int) == 48) = true := by rw [h48]; rfl
              have HV : Hid (varV st = ⟨st.r, st.ops, 3⟩) := by
                show _ = _
                unfold varV
                rw [if_pos (.inr (.inr (by rw [hh]; apply UInt8.toNat_inj.1; rw [hY, h48]; rfl)))]
              clear hh hY h48
              go_quiet (fail)
              go_wp2_with fail
              refine bodyPost_ret (results_none rfl _ _ _) rfl ?_
              exact ⟨rfl, by rw [HV.out]; exact ⟨k, v, (H.out.drewN _).err 3⟩⟩
            · have t48 : ((Y : Int) == 48) = false := by simp; omega
              have HV : Hid (varV st = ⟨(st.r.drop 1).drop (nd (st.r.drop 1)), st.ops ++ [(2, (m : Int))], 0⟩ ∧ put st 2 (m : Int) = ⟨st.r, st.ops ++ [(2, (m : Int))], 0⟩ ∧ S.data.toList.drop i = (st.r.drop 1).drop (nd (st.r.drop 1))) := by
                refine ⟨?_, by unfold put; rw [if_pos HE.out], by rw [← HX.out, List.drop_drop, HF.out.1]⟩
                unfold varV
                rw [← HX.out, HF.out.2, if_neg]
                rintro (h | h | h)
                · omega
                · omega
                · rw [HX.out, hh] at h
                  apply h48
                  rw [← hY, h]; rfl
              clear hh hY h48
              go_quiet (fail)
              go_wp2_with fail
              with_reducible refine (put_c _ (H.out.drewN _).any hl 2 (m : Int)).mono ?_
              rintro e w' ⟨rfl, k', v', h'⟩
              have H' := Lib.hid h'
              obtain ⟨d0, d1, d2, d3, d4⟩ := h'.cells
              have f1 := h'.frozen 1
              clear h' c0 c1 c2 c3 c4 f4
              go_wp2_with fail
              go_end0
              refine ⟨rfl, i, v', ?_⟩
              have hst := H'.out.step his rfl
              rw [HV.out.2.1, HV.out.2.2] at hst
              rw [HV.out.1]
              exact hst
end Go.Proofs.YtkfjmcdfamhiaaaDoor.RdW
