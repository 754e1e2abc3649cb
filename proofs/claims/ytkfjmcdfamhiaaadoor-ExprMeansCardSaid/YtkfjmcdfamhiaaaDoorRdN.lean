/-
  The walk of the reader's number.
-/
import Derived.Test.YtkfjmcdfamhiaaaDoorRdV
namespace Go.Proofs.YtkfjmcdfamhiaaaDoor.RdW
open Go.RowKit Go.Proofs.YtkfjmcdfamhiaaaDoor.Dp Go.Proofs.YtkfjmcdfamhiaaaDoor.Base Go.Proofs.YtkfjmcdfamhiaaaDoor.Ep Go.Proofs.YtkfjmcdfamhiaaaDoor.Mem Go.Proofs.YtkfjmcdfamhiaaaDoor.DeciW

theorem parse_n (s : ByteArray) (v : Int) (b : Bool) (hv : Hid ((dec s.data.toList).getD 0 = v ∧ (dec s.data.toList).isSome = b)) (hs : s.size ≤ maxLen) (w : World) :
    Calls Tryd.prog 61 #[.string s] w fun e w' => e = .returned (.tuple #[.int .i64 v, .bool b]) ∧ w' = w := by
  obtain ⟨h1, h2⟩ := hv.out
  subst h1; subst h2
  exact (parse_any s w hs).mono fun _ _ h => ⟨h.1, h.2.symm⟩
theorem ext_take (S : ByteArray) (k m : Nat) : (S.extract k m).data.toList = (S.data.toList.drop k).take (m - k) := by
  rw [Lib.extract_data]
/-- The number's end, by places. -/
theorem num_end {S : ByteArray} {k : Nat} {m1 : Nat} (hm1 : k + nd (S.data.toList.drop k) = m1) :
    (¬ (m1 < S.size ∧ hd (S.data.toList.drop m1) = 46) → k + numLen (S.data.toList.drop k) = m1) ∧ (hd (S.data.toList.drop m1) = 46 → k + numLen (S.data.toList.drop k) = m1 + 1 + nd (S.data.toList.drop (m1 + 1))) := by
  have e1 : (S.data.toList.drop k).drop (nd (S.data.toList.drop k)) = S.data.toList.drop m1 := by rw [List.drop_drop, hm1]
  have e2 : (S.data.toList.drop k).drop (nd (S.data.toList.drop k) + 1) = S.data.toList.drop (m1 + 1) := by rw [List.drop_drop]; congr 1; omega
  unfold numLen
  rw [e1, e2]
  constructor
  · intro h
    rw [if_neg]
    · exact hm1
    · intro h46
      apply h
      refine ⟨?_, h46⟩
      apply Classical.byContradiction
      intro hn
      rw [List.drop_eq_nil_of_le (by rw [len_list]; omega)] at h46
      exact absurd h46 (by decide)
  · intro h
    rw [if_pos h]; omega
theorem nd_size (S : ByteArray) (k : Nat) (hk : k ≤ S.size) : k + nd (S.data.toList.drop k) ≤ S.size := by
  have h1 := nd_le (S.data.toList.drop k)
  rw [List.length_drop, len_list] at h1
  omega

set_option maxRecDepth 100000 in
set_option maxHeartbeats 1600000 in
theorem number_c {w0 : World} {S : ByteArray} {R deep : Nat} {st : St} (hS : S.size ≤ 300) (w : World) (h : RdA w0 S R deep st w) (he : st.e = 0) (hl : st.ops.length ≤ 1000) :
    Calls Tryd.prog 51 #[.pointer (some ⟨R, 0, none⟩)] w (Left w0 S R deep (numV st)) := by
  obtain ⟨k, v, h⟩ := h
  have hk := h.k_le
  have H := Lib.hid h
  obtain ⟨c0, c1, c2, c3, c4⟩ := h.cells
  have f1 := h.frozen 1
  have f4 := h.frozen 4
  have HE := Lib.hid he
  obtain ⟨m1, hm1⟩ : ∃ m1, k + nd (S.data.toList.drop k) = m1 := ⟨_, rfl⟩
  have HM1 := Lib.hid hm1
  have hm1s : m1 ≤ S.size := by rw [← hm1]; exact nd_size S k hk
  have hkm1 : k ≤ m1 := by omega
  obtain ⟨m, hm⟩ : ∃ m, k + numLen (S.data.toList.drop k) = m := ⟨_, rfl⟩
  have HM := Lib.hid hm
  have hne := num_end hm1
  have hms : k ≤ m ∧ m ≤ S.size := by
    refine ⟨by omega, ?_⟩
    by_cases h46 : m1 < S.size ∧ hd (S.data.toList.drop m1) = 46
    · have h1 := hne.2 h46.2
      have h2 := nd_size S (m1 + 1) (by omega)
      omega
    · have h1 := hne.1 h46
      omega
  obtain ⟨hkm, hms⟩ := hms
  have HNE := Lib.hid hne
  clear h he hm1 hm hne
  obtain ⟨z, hz⟩ : ∃ z, (dec (S.extract k m).data.toList).getD 0 = z := ⟨_, rfl⟩
  obtain ⟨b, hb⟩ : ∃ b, (dec (S.extract k m).data.toList).isSome = b := ⟨_, rfl⟩
  have HP : Hid ((dec (S.extract k m).data.toList).getD 0 = z ∧ (dec (S.extract k m).data.toList).isSome = b) := ⟨hz, hb⟩
  have hxs : (S.extract k m).size ≤ 300 := by
    have h1 := congrArg List.length (ext_take S k m)
    rw [len_list, List.length_take] at h1
    omega
  have HEX : Hid ((S.extract k m).data.toList = st.r.take (numLen st.r)) := by
    show _ = _
    rw [ext_take, H.out.rest]
    congr 1
    have := HM.out
    rw [H.out.rest] at this
    omega
  clear hz hb
  have i0 : (0 : Int) ≤ (k : Int) := by omega
  have i1 : (k : Int) ≤ (m : Int) := by omega
  have i2 : (m : Int) ≤ (S.size : Int) := by omega
  go_enter Tryd.func51, Tryd.ntmps51
  go_wp2_with fail
  with_reducible refine (digits_c hS _ c0 k hk _ (Lib.hid (Eq.refl _)) m1 HM1).mono ?_
  rintro e w' ⟨rfl, rfl⟩
  by_cases hlt : m1 < S.size
  · obtain ⟨X, hX, hX2⟩ := at_byte hlt
    have hXi : ((S[m1].toNat : Nat) : Int) = (X : Int) := by rw [hX]
    have hh := head_at hlt
    by_cases h46 : X = 46
    · have t46 : ((X : Int) == 46) = true := by rw [h46]; rfl
      have HEQ : Hid (m1 + 1 + nd (S.data.toList.drop (m1 + 1)) = m) := by
        show _ = _
        rw [← HM.out]
        exact (HNE.out.2 (by rw [hh]; apply UInt8.toNat_inj.1; rw [hX, h46]; rfl)).symm
      have H11 : Hid ((m1 : Int) + 1 = ((m1 + 1 : Nat) : Int)) := by show _ = _; omega
      clear hX hh h46
      go_wp2_with fail
      with_reducible refine (digits_c hS _ c0 (m1 + 1) (by omega) _ H11 m HEQ).mono ?_
      rintro e w' ⟨rfl, rfl⟩
      go_wp2_with fail
      go_quiet ((go_at_call 61; exact Calls.quiet_of_same (parse_n _ z b HP (by unfold maxLen; omega) _)))
      cases b with
      | false =>
        have HV : Hid (numV st = ⟨st.r, st.ops, 3⟩) := by
          show _ = _
          have h1 := HP.out.2
          rw [HEX.out] at h1
          unfold numV
          cases hd1 : dec (st.r.take (numLen st.r)) with
          | none => rfl
          | some n => rw [hd1] at h1; cases h1
        go_wp2_with fail
        refine bodyPost_ret (results_none rfl _ _ _) rfl ?_
        exact ⟨rfl, by rw [HV.out]; exact ⟨k, v, (H.out.drewN _).err 3⟩⟩
      | true =>
        have HV : Hid (numV st = ⟨st.r.drop (numLen st.r), st.ops ++ [(1, z)], 0⟩ ∧ put st 1 z = ⟨st.r, st.ops ++ [(1, z)], 0⟩ ∧ S.data.toList.drop m = st.r.drop (numLen st.r)) := by
          refine ⟨?_, by unfold put; rw [if_pos HE.out], by rw [← HM.out, H.out.rest, ← List.drop_drop, H.out.rest]⟩
          have h1 := HP.out
          rw [HEX.out] at h1
          unfold numV
          cases hd1 : dec (st.r.take (numLen st.r)) with
          | none => rw [hd1] at h1; cases h1.2
          | some n => rw [hd1] at h1; have h2 : n = z := h1.1; rw [h2]
        go_wp2_with fail
        with_reducible refine (put_c _ (H.out.drewN _).any hl 1 z).mono ?_
        rintro e w' ⟨rfl, k', v', h'⟩
        have H' := Lib.hid h'
        obtain ⟨d0, d1, d2, d3, d4⟩ := h'.cells
        have g1 := h'.frozen 1
        clear h' c0 c1 c2 c3 c4 f4 f1
        go_wp2_with fail
        go_end0
        refine ⟨rfl, m, v', ?_⟩
        have hst := H'.out.step hms rfl
        rw [HV.out.2.1, HV.out.2.2] at hst
        rw [HV.out.1]
        exact hst
    · have t46 : ((X : Int) == 46) = false := by simp; omega
      obtain rfl : m1 = m := by
        rw [← HM.out]
        refine (HNE.out.1 ?_).symm
        rintro ⟨_, h⟩
        rw [hh] at h
        apply h46
        rw [← hX, h]; rfl
      clear hX hh h46
      go_wp2_with fail
      go_quiet ((go_at_call 61; exact Calls.quiet_of_same (parse_n _ z b HP (by unfold maxLen; omega) _)))
      cases b with
      | false =>
        have HV : Hid (numV st = ⟨st.r, st.ops, 3⟩) := by
          show _ = _
          have h1 := HP.out.2
          rw [HEX.out] at h1
          unfold numV
          cases hd1 : dec (st.r.take (numLen st.r)) with
          | none => rfl
          | some n => rw [hd1] at h1; cases h1
        go_wp2_with fail
        refine bodyPost_ret (results_none rfl _ _ _) rfl ?_
        exact ⟨rfl, by rw [HV.out]; exact ⟨k, v, (H.out.drewN _).err 3⟩⟩
      | true =>
        have HV : Hid (numV st = ⟨st.r.drop (numLen st.r), st.ops ++ [(1, z)], 0⟩ ∧ put st 1 z = ⟨st.r, st.ops ++ [(1, z)], 0⟩ ∧ S.data.toList.drop m1 = st.r.drop (numLen st.r)) := by
          refine ⟨?_, by unfold put; rw [if_pos HE.out], by rw [← HM.out, H.out.rest, ← List.drop_drop, H.out.rest]⟩
          have h1 := HP.out
          rw [HEX.out] at h1
          unfold numV
          cases hd1 : dec (st.r.take (numLen st.r)) with
          | none => rw [hd1] at h1; cases h1.2
          | some n => rw [hd1] at h1; have h2 : n = z := h1.1; rw [h2]
        go_wp2_with fail
        with_reducible refine (put_c _ (H.out.drewN _).any hl 1 z).mono ?_
        rintro e w' ⟨rfl, k', v', h'⟩
        have H' := Lib.hid h'
        obtain ⟨d0, d1, d2, d3, d4⟩ := h'.cells
        have g1 := h'.frozen 1
        clear h' c0 c1 c2 c3 c4 f4 f1
        go_wp2_with fail
        go_end0
        refine ⟨rfl, m1, v', ?_⟩
        have hst := H'.out.step hms rfl
        rw [HV.out.2.1, HV.out.2.2] at hst
        rw [HV.out.1]
        exact hst
  · obtain rfl : m1 = m := by
      rw [← HM.out]
      exact (HNE.out.1 (fun h => hlt h.1)).symm
    go_wp2_with fail
    go_quiet ((go_at_call 61; exact Calls.quiet_of_same (parse_n _ z b HP (by unfold maxLen; omega) _)))
    cases b with
    | false =>
      have HV : Hid (numV st = ⟨st.r, st.ops, 3⟩) := by
        show _ = _
        have h1 := HP.out.2
        rw [HEX.out] at h1
        unfold numV
        cases hd1 : dec (st.r.take (numLen st.r)) with
        | none => rfl
        | some n => rw [hd1] at h1; cases h1
      go_wp2_with fail
      refine bodyPost_ret (results_none rfl _ _ _) rfl ?_
      exact ⟨rfl, by rw [HV.out]; exact ⟨k, v, (H.out.drewN _).err 3⟩⟩
    | true =>
      have HV : Hid (numV st = ⟨st.r.drop (numLen st.r), st.ops ++ [(1, z)], 0⟩ ∧ put st 1 z = ⟨st.r, st.ops ++ [(1, z)], 0⟩ ∧ S.data.toList.drop m1 = st.r.drop (numLen st.r)) := by
        refine ⟨?_, by unfold put; rw [if_pos HE.out], by rw [← HM.out, H.out.rest, ← List.drop_drop, H.out.rest]⟩
        have h1 := HP.out
        rw [HEX.out] at h1
        unfold numV
        cases hd1 : dec (st.r.take (numLen st.r)) with
        | none => rw [hd1] at h1; cases h1.2
        | some n => rw [hd1] at h1; have h2 : n = z := h1.1; rw [h2]
      go_wp2_with fail
      with_reducible refine (put_c _ (H.out.drewN _).any hl 1 z).mono ?_
      rintro e w' ⟨rfl, k', v', h'⟩
      have H' := Lib.hid h'
      obtain ⟨d0, d1, d2, d3, d4⟩ := h'.cells
      have g1 := h'.frozen 1
      clear h' c0 c1 c2 c3 c4 f4 f1
      go_wp2_with fail
      go_end0
      refine ⟨rfl, m1, v', ?_⟩
      have hst := H'.out.step hms rfl
      rw [HV.out.2.1, HV.out.2.2] at hst
      rw [HV.out.1]
      exact hst
end Go.Proofs.YtkfjmcdfamhiaaaDoor.RdW
