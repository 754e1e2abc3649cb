/-
  The walks of unit.Coord and of the reference's Coord.
-/
import Derived.Test.YtecpmnkgikcpnaaDoorHnW
import Derived.Test.YtecpmnkgikcpnaaDoorUq
namespace Go.Proofs.YtecpmnkgikcpnaaDoor.UnitW
open Go.RowKit Go.Proofs.YtecpmnkgikcpnaaDoor.Dp Go.Proofs.YtecpmnkgikcpnaaDoor.Base Go.Proofs.YtecpmnkgikcpnaaDoor.DeciW Go.Proofs.YtecpmnkgikcpnaaDoor.Up

set_option maxRecDepth 100000 in
set_option maxHeartbeats 1600000 in
theorem coord_any (s : ByteArray) (u i d : Int) (t : Bool) (hs : s.size ≤ 9223372036854775807) (w : World) :
    Calls Tryd.prog 102 #[.string s, fmtVal u i d t] w fun e w' => e = .returned (.tuple #[.int .i64 ((coordV s.data.toList u i d t).getD 0), .bool (coordV s.data.toList u i d t).isSome]) ∧ Below w.heap.size w w' := by
  cases hf : fmtOk u i d with
  | false =>
    have hN : coordV s.data.toList u i d t = none := coordV_no (fun h => by rw [hf] at h; cases h.1)
    have HN := Lib.hid hN
    have HF := Lib.hid hf
    clear hN hf
    go_enter Tryd.func102, Tryd.ntmps102
    go_wp2_with fail
    refine (uok_at u i d t false HF _).mono ?_
    rintro e w' ⟨rfl, rfl⟩
    go_wp2_with fail
    go_ret2
    rw [HN.out]
    exact ⟨rfl, ((Below.refl _ _).alloc (Nat.le_refl _) _).alloc (by simp) _⟩
  | true =>
    have hfb := (fmtOk_iff u i d).1 hf
    obtain ⟨I, rfl⟩ : ∃ I : Nat, i = I := ⟨i.toNat, by omega⟩
    obtain ⟨D, rfl⟩ : ∃ D : Nat, d = D := ⟨d.toNat, by omega⟩
    have hI : I ≤ 6 := by omega
    have hD : D ≤ 6 := by omega
    have HF := Lib.hid hf
    clear hf hfb
    go_enter Tryd.func102, Tryd.ntmps102
    go_wp2_with fail
    refine (uok_at u I D t true HF _).mono ?_
    rintro e w' ⟨rfl, rfl⟩
    go_upto_region 4 with fail
    go_cut [24] (fun c wx => c = .bool (sgn s.data.toList) ∧ (w.alloc (fmtObj u I D t)).alloc (fmtObj u I D t) = wx)
    case first =>
      by_cases h0 : 0 < s.size
      · have HB := Lib.hid (sgn_of s h0)
        have hne : s.toList.isEmpty = false := by rw [Lib.toList_data, head_of s h0]; rfl
        have hne2 : ¬ s.toList = [] := by intro h; rw [h] at hne; cases hne
        by_cases h43 : s[0].toNat = 43
        all_goals
          go_wp2
          go_meet
          refine ⟨congrArg Value.bool ?_, rfl⟩
          rw [HB.out]
          simp [h43, byteq45]
          try omega
      · have HB := Lib.hid (sgn_no s h0)
        have hne : s.toList = [] := by rw [Lib.toList_data]; exact list_nil s h0
        go_wp2
        go_meet
        exact ⟨congrArg Value.bool HB.out.symm, rfl⟩
    case rest =>
      obtain ⟨rfl, rfl⟩ := hcut
      go_upto_if 24 with fail
      go_cut [0, 6] (fun a b wx => ∃ T : ByteArray, a = .string T ∧ T.size ≤ 9223372036854775807 ∧ T.data.toList = (strip s.data.toList).2 ∧ b = .bool (strip s.data.toList).1 ∧ (w.alloc (fmtObj u I D t)).alloc (fmtObj u I D t) = wx)
      case first =>
        cases hg : sgn s.data.toList with
        | true =>
          have h0 := sgn_pos hg
          have HS := Lib.hid (strip_yes s h0 hg)
          clear hg
          go_wp2
          go_meet
          rw [HS.out]
          exact ⟨_, rfl, by simp; omega, drop1 s, congrArg Value.bool (byteq45 _), rfl⟩
        | false =>
          have HS := Lib.hid (strip_no hg)
          clear hg
          go_wp2
          go_meet
          rw [HS.out]
          exact ⟨_, rfl, hs, rfl, rfl, rfl⟩
      case rest =>
        obtain ⟨T, rfl, ht, hl, rfl, rfl⟩ := hcut
        have hbel : Below w.heap.size w ((w.alloc (fmtObj u I D t)).alloc (fmtObj u I D t)) := ((Below.refl _ _).alloc (Nat.le_refl _) _).alloc (by simp) _
        have HBL := Lib.hid hbel
        clear hbel
        obtain ⟨l, hl'⟩ : ∃ l, T.data.toList = l := ⟨_, rfl⟩
        have hlen : l.length = T.size := by rw [← hl']; simp
        have hls : (strip s.data.toList).2 = l := by rw [← hl, hl']
        by_cases h1 : 1 ≤ T.size
        · by_cases h2 : T.size ≤ I + D
          · by_cases h3 : nd l = l.length
            · have hyes := coordV_yes (t := t) ⟨HF.out, by rw [hls]; omega, by rw [hls]; omega, by rw [hls]; exact h3⟩
              rw [hls] at hyes
              have hv := val_size h3
              have hval1 : val l < 10 ^ T.size := by rw [← hlen]; exact hv
              have HY := Lib.hid hyes
              have H3 := Lib.hid h3
              have HL := Lib.hid hl'
              have HV := Lib.hid hval1
              have HLEN := Lib.hid hlen
              clear hyes h3 hl hl' hv hval1 hls hlen
              generalize (strip s.data.toList).1 = b at HY ⊢
              go_wp2_with fail
              go_loop [8, 46] (fun v i => ∃ (k : Nat) (x : Int), k ≤ T.size ∧ 0 ≤ x ∧ x < 1000000000000 ∧ x = val (l.take k) ∧ i = .int .i64 k ∧ v = .int .i64 x) (fun _ i => T.size - (intOf i).toNat)
              case atStart => exact ⟨0, 0, Nat.zero_le _, by omega, by omega, rfl, rfl, rfl⟩
              case round =>
                obtain ⟨k, x, hk, hx0, hx1, hx, rfl, rfl⟩ := hrel
                by_cases hlt : k < T.size
                · have hdig : isD T[k] = true := by
                    have h4 := (nd_spec l).1 k (by rw [HLEN.out]; exact hlt) (by rw [H3.out, HLEN.out]; exact hlt)
                    have : T.data.toList[k]'(by simpa using hlt) = T[k] := getl T k hlt
                    rw [← this]
                    have e : ∀ (m : List UInt8) (h : k < m.length), m = l → isD m[k] = true := by intro m h hm; subst hm; exact h4
                    exact e _ _ HL.out
                  obtain ⟨hc1, hc2⟩ := (isD_iff T[k]).1 hdig
                  have hvl := val_take_lt l k (by rw [H3.out, HLEN.out]; omega)
                  have hp : (10 : Nat) ^ k ≤ 10 ^ 11 := Nat.pow_le_pow_right (by decide) (by omega)
                  have hxb : x < 100000000000 := by omega
                  have HS : Hid (val (l.take (k + 1)) = val (l.take k) * 10 + (T[k].toNat - 48)) := by
                    show _ = _
                    rw [← HL.out, take_snoc T k hlt]; exact val_snoc _ _
                  have HX := Lib.hid hx
                  have e1 : ¬ T[k].toNat < 48 := by omega
                  have e2 : ¬ 57 < T[k].toNat := by omega
                  clear hx hvl hp hdig
                  go_wp2
                  go_round
                  case rel => exact ⟨k + 1, x * 10 + (T[k].toNat - 48), by omega, by omega, by omega, by rw [HS.out, HX.out]; omega, by go_num, by go_num⟩
                  case measure => simp [intOf]; omega
                · obtain rfl : k = T.size := by omega
                  have hxv : x = (val l : Nat) := by rw [hx, List.take_of_length_le (by rw [HLEN.out]; exact Nat.le_refl _)]
                  have hxb : x.natAbs < 10 ^ T.size := by rw [hxv, Int.natAbs_natCast]; exact HV.out
                  have HXV := Lib.hid hxv
                  have hx12 : x.natAbs ≤ 1000000000000 := by omega
                  clear hx hxv
                  have fin : ∀ m : Int, 0 ≤ m → m = ((millV l (I + D) D t : Nat) : Int) → ∃ (v : Int) (o : Bool), ((grainV (if b then -m else m) u).getD 0 = v ∧ (grainV (if b then -m else m) u).isSome = o) ∧ (coordV s.data.toList u I D t).getD 0 = v ∧ (coordV s.data.toList u I D t).isSome = o := by
                    intro m _ hm
                    refine ⟨_, _, ⟨rfl, rfl⟩, ?_⟩
                    rw [HY.out, hm]; exact ⟨rfl, rfl⟩
                  have FIN := Lib.hid fin
                  clear fin
                  cases t with
                  | true =>
                    obtain ⟨y, hy⟩ : ∃ y : Int, x * ((10 ^ (I + D - T.size) : Nat) : Int) = y := ⟨_, rfl⟩
                    obtain ⟨z, hz⟩ : ∃ z : Int, y * ((10 ^ (6 - D) : Nat) : Int) = z := ⟨_, rfl⟩
                    have hyb : y.natAbs < 10 ^ (I + D) := by
                      rw [← hy, Int.natAbs_mul, Int.natAbs_natCast]
                      have := Nat.mul_lt_mul_of_pos_right hxb (Nat.pow_pos (n := I + D - T.size) (show 0 < 10 by decide))
                      rwa [← Nat.pow_add, show T.size + (I + D - T.size) = I + D by omega] at this
                    have hzb : z.natAbs < 10 ^ (I + 6) := by
                      rw [← hz, Int.natAbs_mul, Int.natAbs_natCast]
                      have := Nat.mul_lt_mul_of_pos_right hyb (Nat.pow_pos (n := 6 - D) (show 0 < 10 by decide))
                      rwa [← Nat.pow_add, show I + D + (6 - D) = I + 6 by omega] at this
                    have hb1 : x.natAbs * 10 ^ (I + D - T.size) ≤ 1000000000000000000 := by
                      have h1 : x.natAbs * 10 ^ (I + D - T.size) = y.natAbs := by rw [← hy, Int.natAbs_mul, Int.natAbs_natCast]
                      have h2 := pow_le12 (I + D) (by omega)
                      omega
                    have hb2 : y.natAbs * 10 ^ (6 - D) ≤ 1000000000000000000 := by
                      have h1 : y.natAbs * 10 ^ (6 - D) = z.natAbs := by rw [← hz, Int.natAbs_mul, Int.natAbs_natCast]
                      have h2 := pow_le12 (I + 6) (by omega)
                      omega
                    have hz12 := pow_le12 (I + 6) (by omega)
                    have hz0 : 0 ≤ z := by
                      rw [← hz, ← hy]
                      exact Int.mul_nonneg (Int.mul_nonneg hx0 (Int.natCast_nonneg _)) (Int.natCast_nonneg _)
                    have hz1 : z ≤ 1000000000000 := by omega
                    have hzm : z = ((millV l (I + D) D true : Nat) : Int) := by
                      unfold millV
                      rw [if_pos rfl, ← hz, ← hy, HXV.out, HLEN.out, Int.natCast_mul, Int.natCast_mul]
                    obtain ⟨v, o, hv1, hv2, hv3⟩ := FIN.out z hz0 hzm
                    have HVV := Lib.hid hv1
                    have HV2 := Lib.hid hv2
                    have HV3 := Lib.hid hv3
                    have HYY := Lib.hid hy
                    have HZZ := Lib.hid hz
                    have HB1 := Lib.hid hb1
                    have HB2 := Lib.hid hb2
                    clear hy hz hyb hzb hb1 hb2 hz12 hzm hv1 hv2 hv3 hxb hx12
                    go_wp2_with fail
                    refine (tens_at x _ (I + D - T.size) (by omega) (by omega) HB1.out y HYY _).mono ?_
                    rintro e w' ⟨rfl, rfl⟩
                    go_wp2_with fail
                    refine (tens_at y _ (6 - D) (by omega) (by omega) HB2.out z HZZ _).mono ?_
                    rintro e w' ⟨rfl, rfl⟩
                    cases b with
                    | true =>
                      have HVW : Hid ((grainV (-z) u).getD 0 = v ∧ (grainV (-z) u).isSome = o) := HVV.out
                      go_wp2_with fail
                      with_reducible refine (grain_at _ u v o HVW _).mono ?_
                      rintro e w' ⟨rfl, rfl⟩
                      go_wp2_with fail
                      go_ret2
                      rw [HV2.out, HV3.out]
                      exact ⟨rfl, HBL.out⟩
                    | false =>
                      have HVW : Hid ((grainV z u).getD 0 = v ∧ (grainV z u).isSome = o) := HVV.out
                      go_wp2_with fail
                      with_reducible refine (grain_at _ u v o HVW _).mono ?_
                      rintro e w' ⟨rfl, rfl⟩
                      go_wp2_with fail
                      go_ret2
                      rw [HV2.out, HV3.out]
                      exact ⟨rfl, HBL.out⟩
                  | false =>
                    obtain ⟨z, hz⟩ : ∃ z : Int, x * ((10 ^ (6 - D) : Nat) : Int) = z := ⟨_, rfl⟩
                    have hzb : z.natAbs < 10 ^ (I + 6) := by
                      rw [← hz, Int.natAbs_mul, Int.natAbs_natCast]
                      have h1 := Nat.mul_lt_mul_of_pos_right hxb (Nat.pow_pos (n := 6 - D) (show 0 < 10 by decide))
                      rw [← Nat.pow_add] at h1
                      exact Nat.lt_of_lt_of_le h1 (Nat.pow_le_pow_right (by decide) (by omega))
                    have hb2 : x.natAbs * 10 ^ (6 - D) ≤ 1000000000000000000 := by
                      have h1 : x.natAbs * 10 ^ (6 - D) = z.natAbs := by rw [← hz, Int.natAbs_mul, Int.natAbs_natCast]
                      have h2 := pow_le12 (I + 6) (by omega)
                      omega
                    have hz12 := pow_le12 (I + 6) (by omega)
                    have hz0 : 0 ≤ z := by
                      rw [← hz]
                      exact Int.mul_nonneg hx0 (Int.natCast_nonneg _)
                    have hz1 : z ≤ 1000000000000 := by omega
                    have hzm : z = ((millV l (I + D) D false : Nat) : Int) := by
                      unfold millV
                      rw [if_neg (by decide), ← hz, HXV.out, Int.natCast_mul, Nat.mul_one]
                    obtain ⟨v, o, hv1, hv2, hv3⟩ := FIN.out z hz0 hzm
                    have HVV := Lib.hid hv1
                    have HV2 := Lib.hid hv2
                    have HV3 := Lib.hid hv3
                    have HZZ := Lib.hid hz
                    have HB2 := Lib.hid hb2
                    clear hz hzb hb2 hz12 hzm hv1 hv2 hv3 hxb hx12
                    go_wp2_with fail
                    refine (tens_at x _ (6 - D) (by omega) (by omega) HB2.out z HZZ _).mono ?_
                    rintro e w' ⟨rfl, rfl⟩
                    cases b with
                    | true =>
                      have HVW : Hid ((grainV (-z) u).getD 0 = v ∧ (grainV (-z) u).isSome = o) := HVV.out
                      go_wp2_with fail
                      with_reducible refine (grain_at _ u v o HVW _).mono ?_
                      rintro e w' ⟨rfl, rfl⟩
                      go_wp2_with fail
                      go_ret2
                      rw [HV2.out, HV3.out]
                      exact ⟨rfl, HBL.out⟩
                    | false =>
                      have HVW : Hid ((grainV z u).getD 0 = v ∧ (grainV z u).isSome = o) := HVV.out
                      go_wp2_with fail
                      with_reducible refine (grain_at _ u v o HVW _).mono ?_
                      rintro e w' ⟨rfl, rfl⟩
                      go_wp2_with fail
                      go_ret2
                      rw [HV2.out, HV3.out]
                      exact ⟨rfl, HBL.out⟩
            · have hno : coordV s.data.toList u I D t = none := coordV_no (fun h => h3 (by have := h.2.2.2; rwa [hls] at this))
              have HNO := Lib.hid hno
              have hnl := nd_le l
              have hlt0 : nd l < T.size := by omega
              have HL := Lib.hid hl'
              have HLEN := Lib.hid hlen
              clear hno h3 hl hl' hls hlen hnl
              generalize (strip s.data.toList).1 = b
              go_wp2_with fail
              go_loop [8, 46] (fun v i => ∃ (k : Nat) (x : Int), k ≤ nd l ∧ 0 ≤ x ∧ x < 1000000000000 ∧ x = val (l.take k) ∧ i = .int .i64 k ∧ v = .int .i64 x) (fun _ i => T.size - (intOf i).toNat)
              case atStart => exact ⟨0, 0, Nat.zero_le _, by omega, by omega, rfl, rfl, rfl⟩
              case round =>
                obtain ⟨k, x, hk, hx0, hx1, hx, rfl, rfl⟩ := hrel
                have hkT : k < T.size := by omega
                have hget : ∀ (m : List UInt8) (h : k < m.length), m = l → (k < nd l → isD m[k] = true) ∧ (nd l = k → isD m[k] = false) := by
                  intro m h hm; subst hm
                  exact ⟨fun h4 => (nd_spec m).1 k h h4, fun h4 => by
                    have := (nd_spec m).2 (by omega)
                    simpa [h4] using this⟩
                have hg := hget T.data.toList (by simpa using hkT) HL.out
                rw [getl T k hkT] at hg
                by_cases hlt : k < nd l
                · obtain ⟨hc1, hc2⟩ := (isD_iff T[k]).1 (hg.1 hlt)
                  have hvl := val_take_lt l k (by omega)
                  have hp : (10 : Nat) ^ k ≤ 10 ^ 11 := Nat.pow_le_pow_right (by decide) (by omega)
                  have hxb : x < 100000000000 := by omega
                  have HS : Hid (val (l.take (k + 1)) = val (l.take k) * 10 + (T[k].toNat - 48)) := by
                    show _ = _
                    rw [← HL.out, take_snoc T k hkT]; exact val_snoc _ _
                  have HX := Lib.hid hx
                  have e1 : ¬ T[k].toNat < 48 := by omega
                  have e2 : ¬ 57 < T[k].toNat := by omega
                  clear hx hvl hp hg hget
                  go_wp2
                  go_round
                  case rel => exact ⟨k + 1, x * 10 + (T[k].toNat - 48), by omega, by omega, by omega, by rw [HS.out, HX.out]; omega, by go_num, by go_num⟩
                  case measure => simp [intOf]; omega
                · have hc := (isD_false T[k]).1 (hg.2 (by omega))
                  clear hx hg hget
                  rcases hc with hc | hc
                  · go_wp2
                    go_ret2
                    rw [HNO.out]
                    exact ⟨rfl, HBL.out⟩
                  · have e1 : ¬ T[k].toNat < 48 := by omega
                    go_wp2
                    go_ret2
                    rw [HNO.out]
                    exact ⟨rfl, HBL.out⟩
          · have hno : coordV s.data.toList u I D t = none := coordV_no (fun h => h2 (by have := h.2.2.1; rw [hls] at this; omega))
            have HNO := Lib.hid hno
            clear hno hl hl' hls hlen
            generalize (strip s.data.toList).1 = b
            go_wp2_with fail
            go_ret2
            rw [HNO.out]
            exact ⟨rfl, HBL.out⟩
        · have hno : coordV s.data.toList u I D t = none := coordV_no (fun h => h1 (by have := h.2.1; rw [hls] at this; omega))
          have HNO := Lib.hid hno
          clear hno hl hl' hls hlen
          generalize (strip s.data.toList).1 = b
          go_wp2_with fail
          go_ret2
          rw [HNO.out]
          exact ⟨rfl, HBL.out⟩
theorem coord_at (s : ByteArray) (l : List UInt8) (hl : Hid (s.data.toList = l)) (u i d : Int) (t : Bool) (v : Int) (b : Bool) (hv : Hid ((coordV l u i d t).getD 0 = v ∧ (coordV l u i d t).isSome = b)) (hs : s.size ≤ 9223372036854775807) (w : World) :
    Calls Tryd.prog 102 #[.string s, fmtVal u i d t] w fun e w' => e = .returned (.tuple #[.int .i64 v, .bool b]) ∧ Below w.heap.size w w' := by
  have h1 := hl.out
  obtain ⟨h2, h3⟩ := hv.out
  subst h1; subst h2; subst h3
  exact coord_any s u i d t hs w
#print axioms coord_at
end Go.Proofs.YtecpmnkgikcpnaaDoor.UnitW
