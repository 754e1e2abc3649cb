/-
  The walk of the reference's Coord.
-/
import Derived.Test.YtmclabehdjdpnaaDoorCoordW
namespace Go.Proofs.YtmclabehdjdpnaaDoor.UnitW
open Go.RowKit Go.Proofs.YtmclabehdjdpnaaDoor.Dp Go.Proofs.YtmclabehdjdpnaaDoor.Base Go.Proofs.YtmclabehdjdpnaaDoor.DeciW Go.Proofs.YtmclabehdjdpnaaDoor.Up

set_option maxRecDepth 100000 in
set_option maxHeartbeats 1600000 in
theorem rcoord_any (s : ByteArray) (u i d : Int) (t : Bool) (hs : s.size ≤ 9223372036854775807) (w : World) :
    Calls Tryd.prog 38 #[.string s, fmtVal u i d t] w fun e w' => e = .returned (.tuple #[.int .i64 ((coordV s.data.toList u i d t).getD 0), .bool (coordV s.data.toList u i d t).isSome]) ∧ Below w.heap.size w w' := by
  cases hf : fmtOk u i d with
  | false =>
    have hN : coordV s.data.toList u i d t = none := coordV_no (fun h => by rw [hf] at h; cases h.1)
    have HN := Lib.hid hN
    have HF := Lib.hid hf
    clear hN hf
    go_enter Tryd.func38, Tryd.ntmps38
    go_wp2_with fail
    refine (rfok_at u i d t false HF _).mono ?_
    rintro e w' ⟨rfl, rfl⟩
    go_wp2_with fail
    go_ret2
    rw [HN.out]
    exact ⟨rfl, ((Below.refl _ _).alloc (Nat.le_refl _) _).alloc (by simp) _⟩
  | true =>
    have hfb := (fmtOk_iff u i d).1 hf
    obtain ⟨I, rfl⟩ : ∃ I : Nat, i = I := ⟨i.toNat, by omega⟩
    obtain ⟨D, rfl⟩ : ∃ D : Nat, d = D := ⟨d.toNat, by omega⟩
    have hI : I ≤ 6 := by omega
    have hD : D ≤ 6 := by omega
    have HF := Lib.hid hf
    clear hf hfb
    go_enter Tryd.func38, Tryd.ntmps38
    go_wp2_with fail
    refine (rfok_at u I D t true HF _).mono ?_
    rintro e w' ⟨rfl, rfl⟩
    go_upto_region 4 with fail
    go_cut [24] (fun c wx => c = .bool (sgn s.data.toList) ∧ (w.alloc (fmtObj u I D t)).alloc (fmtObj u I D t) = wx)
    case first =>
      by_cases h0 : 0 < s.size
      · have HB := Lib.hid (sgn_of s h0)
        by_cases h43 : s[0].toNat = 43
        all_goals
          go_wp2
          go_meet
          refine ⟨congrArg Value.bool ?_, rfl⟩
          rw [HB.out]
          simp [h43, byteq45]
          try omega
      · have HB := Lib.hid (sgn_no s h0)
        go_wp2
        go_meet
        exact ⟨congrArg Value.bool HB.out.symm, rfl⟩
    case rest =>
      obtain ⟨rfl, rfl⟩ := hcut
      go_upto_if 24 with fail
      go_cut [6] (fun i wx => ∃ k : Nat, i = .int .i64 k ∧ k ≤ 1 ∧ k ≤ s.size ∧ s.data.toList.drop k = (strip s.data.toList).2 ∧ (w.alloc (fmtObj u I D t)).alloc (fmtObj u I D t) = wx)
      case first =>
        cases hg : sgn s.data.toList with
        | true =>
          have h0 := sgn_pos hg
          have HS := Lib.hid (strip_yes s h0 hg)
          clear hg
          go_wp2
          go_meet
          rw [HS.out]
          exact ⟨1, rfl, Nat.le_refl _, h0, rfl, rfl⟩
        | false =>
          have HS := Lib.hid (strip_no hg)
          clear hg
          go_wp2
          go_meet
          rw [HS.out]
          exact ⟨0, rfl, by omega, by omega, rfl, rfl⟩
      case rest =>
        obtain ⟨k, rfl, hk1, hks, hl, rfl⟩ := hcut
        have hbel : Below w.heap.size w ((w.alloc (fmtObj u I D t)).alloc (fmtObj u I D t)) := ((Below.refl _ _).alloc (Nat.le_refl _) _).alloc (by simp) _
        have HBL := Lib.hid hbel
        clear hbel
        obtain ⟨l, hl'⟩ : ∃ l, (strip s.data.toList).2 = l := ⟨_, rfl⟩
        rw [hl'] at hl
        obtain ⟨a, ha⟩ : ∃ a, nd l = a := ⟨_, rfl⟩
        have hal := nd_le l
        have hlen : l.length = s.size - k := by rw [← hl]; simp
        have HL := Lib.hid hl
        have HA := Lib.hid ha
        have HLS := Lib.hid hl'
        have HLEN := Lib.hid hlen
        by_cases h1 : 1 ≤ a
        · by_cases h2 : a ≤ I + D
          · by_cases h3 : k + a = s.size
            · have hyes := coordV_yes (t := t) ⟨HF.out, by rw [hl']; omega, by rw [hl']; omega, by rw [hl']; omega⟩
              rw [hl'] at hyes
              have h3' : nd l = l.length := by omega
              have hla : l.length = a := by omega
              have hv := val_size h3'
              rw [hla] at hv
              have hdig : ∀ c ∈ l, isD c = true := by
                have := take_nd l a (by omega)
                rwa [List.take_of_length_le (by omega)] at this
              have hsd : (s.extract k s.size).data.toList = l := by rw [Lib.extract_data, hl]; exact List.take_of_length_le (by omega)
              have hsz : (s.extract k s.size).size ≤ 18 := by rw [← len_list, hsd]; omega
              have hs0 : 0 < s.size := by omega
              have hmin := minus_iff s hs0
              obtain ⟨x, hx⟩ : ∃ x : Int, ((val l : Nat) : Int) = x := ⟨_, rfl⟩
              have hxb : x.natAbs < 10 ^ a := by rw [← hx, Int.natAbs_natCast]; exact hv
              have hx0 : 0 ≤ x := by omega
              have hx12 : x.natAbs ≤ 1000000000000 := by have := pow_le12 a (by omega); omega
              have HX := Lib.hid hx
              have HSD := Lib.hid hsd
              have HDG := Lib.hid hdig
              have HY := Lib.hid hyes
              have HM := Lib.hid hmin
              have HLA := Lib.hid hla
              generalize (strip s.data.toList).1 = b at HY HM
              have fin : ∀ m : Int, 0 ≤ m → m = ((millV l (I + D) D t : Nat) : Int) → ∃ (v : Int) (o : Bool), ((grainV (if b then -m else m) u).getD 0 = v ∧ (grainV (if b then -m else m) u).isSome = o) ∧ (coordV s.data.toList u I D t).getD 0 = v ∧ (coordV s.data.toList u I D t).isSome = o := by
                intro m _ hm
                refine ⟨_, _, ⟨rfl, rfl⟩, ?_⟩
                rw [HY.out, hm]; exact ⟨rfl, rfl⟩
              have FIN := Lib.hid fin
              have hend3 : ((k : Int) + (a : Int) != (s.size : Int)) = false := by simp; omega
              have hend2 : ((k : Int) + (a : Int) == (s.size : Int)) = true := by simp; omega
              have H3 := Lib.hid h3
              clear fin hyes h3' hv hdig hsd hmin hx hl' hl ha hal hlen hla h3
              obtain ⟨p, hp⟩ : ∃ p : Int, ((10 ^ (6 - D) : Nat) : Int) = p := ⟨_, rfl⟩
              have HP := Lib.hid hp
              cases t with
              | true =>
                obtain ⟨p1, hp1⟩ : ∃ p : Int, ((10 ^ (I + D - a) : Nat) : Int) = p := ⟨_, rfl⟩
                have HP1 := Lib.hid hp1
                obtain ⟨y, hy⟩ : ∃ y : Int, x * p1 = y := ⟨_, rfl⟩
                obtain ⟨z, hz⟩ : ∃ z : Int, y * p = z := ⟨_, rfl⟩
                have hyb : y.natAbs < 10 ^ (I + D) := by
                  rw [← hy, ← hp1, Int.natAbs_mul, Int.natAbs_natCast]
                  have := Nat.mul_lt_mul_of_pos_right hxb (Nat.pow_pos (n := I + D - a) (show 0 < 10 by decide))
                  rwa [← Nat.pow_add, show a + (I + D - a) = I + D by omega] at this
                have hzb : z.natAbs < 10 ^ (I + 6) := by
                  rw [← hz, ← hp, Int.natAbs_mul, Int.natAbs_natCast]
                  have := Nat.mul_lt_mul_of_pos_right hyb (Nat.pow_pos (n := 6 - D) (show 0 < 10 by decide))
                  rwa [← Nat.pow_add, show I + D + (6 - D) = I + 6 by omega] at this
                have hy12 := pow_le12 (I + D) (by omega)
                have hz12 := pow_le12 (I + 6) (by omega)
                have hz0 : 0 ≤ z := by
                  rw [← hz, ← hy, ← hp1, ← hp]
                  exact Int.mul_nonneg (Int.mul_nonneg hx0 (Int.natCast_nonneg _)) (Int.natCast_nonneg _)
                have hz1 : z ≤ 1000000000000 := by omega
                have hw1 : IntKind.i64.wrap (x * p1) = y := by rw [hy]; exact IntWalk.i64_in _ (by omega)
                have hw2 : IntKind.i64.wrap (y * p) = z := by rw [hz]; exact IntWalk.i64_in _ (by omega)
                have hzm : z = ((millV l (I + D) D true : Nat) : Int) := by
                  unfold millV
                  rw [if_pos rfl, ← hz, ← hy, ← hp1, ← hp, ← HX.out, HLA.out, Int.natCast_mul, Int.natCast_mul]
                obtain ⟨v, o, hv1, hv2, hv3⟩ := FIN.out z hz0 hzm
                have HVV := Lib.hid hv1
                have HV2 := Lib.hid hv2
                have HV3 := Lib.hid hv3
                clear hy hz hyb hzb hz12 hy12 hzm hv1 hv2 hv3 hxb hx12 hp hp1
                go_wp2_with fail
                with_reducible refine (rdigits_at s _ k rfl hks l HL a HA _ hs).mono ?_
                rintro e w' ⟨rfl, rfl⟩
                go_wp2_with fail
                with_reducible refine (whole_at _ l HSD HDG hsz x HX _).mono ?_
                rintro e w' ⟨rfl, rfl⟩
                go_wp2_with fail
                with_reducible refine (rtens_at _ (I + D - a) (by omega) (by omega) p1 HP1 _).mono ?_
                rintro e w' ⟨rfl, rfl⟩
                go_wp2_with fail
                with_reducible refine (rtens_at _ (6 - D) (by omega) (by omega) p HP _).mono ?_
                rintro e w' ⟨rfl, rfl⟩
                by_cases h45 : s[0].toNat = 45
                · have hb : b = true := by rw [HM.out]; simp [h45]
                  subst hb
                  have HVW : Hid ((grainV (-z) u).getD 0 = v ∧ (grainV (-z) u).isSome = o) := HVV.out
                  go_wp2_with fail
                  with_reducible refine (rgrain_at _ u v o HVW _).mono ?_
                  rintro e w' ⟨rfl, rfl⟩
                  go_wp2_with fail
                  go_ret2
                  rw [HV2.out, HV3.out]
                  exact ⟨rfl, HBL.out⟩
                · have hb : b = false := by rw [HM.out]; simp [h45]
                  subst hb
                  have HVW : Hid ((grainV z u).getD 0 = v ∧ (grainV z u).isSome = o) := HVV.out
                  go_wp2_with fail
                  with_reducible refine (rgrain_at _ u v o HVW _).mono ?_
                  rintro e w' ⟨rfl, rfl⟩
                  go_wp2_with fail
                  go_ret2
                  rw [HV2.out, HV3.out]
                  exact ⟨rfl, HBL.out⟩
              | false =>
                obtain ⟨z, hz⟩ : ∃ z : Int, x * p = z := ⟨_, rfl⟩
                have hzb : z.natAbs < 10 ^ (I + 6) := by
                  rw [← hz, ← hp, Int.natAbs_mul, Int.natAbs_natCast]
                  have h1 := Nat.mul_lt_mul_of_pos_right hxb (Nat.pow_pos (n := 6 - D) (show 0 < 10 by decide))
                  rw [← Nat.pow_add] at h1
                  exact Nat.lt_of_lt_of_le h1 (Nat.pow_le_pow_right (by decide) (by omega))
                have hz12 := pow_le12 (I + 6) (by omega)
                have hz0 : 0 ≤ z := by
                  rw [← hz, ← hp]
                  exact Int.mul_nonneg hx0 (Int.natCast_nonneg _)
                have hz1 : z ≤ 1000000000000 := by omega
                have hw2 : IntKind.i64.wrap (x * p) = z := by rw [hz]; exact IntWalk.i64_in _ (by omega)
                have hzm : z = ((millV l (I + D) D false : Nat) : Int) := by
                  unfold millV
                  rw [if_neg (by decide), ← hz, ← hp, ← HX.out, Int.natCast_mul, Nat.mul_one]
                obtain ⟨v, o, hv1, hv2, hv3⟩ := FIN.out z hz0 hzm
                have HVV := Lib.hid hv1
                have HV2 := Lib.hid hv2
                have HV3 := Lib.hid hv3
                clear hz hzb hz12 hzm hv1 hv2 hv3 hxb hx12 hp
                go_wp2_with fail
                with_reducible refine (rdigits_at s _ k rfl hks l HL a HA _ hs).mono ?_
                rintro e w' ⟨rfl, rfl⟩
                go_wp2_with fail
                with_reducible refine (whole_at _ l HSD HDG hsz x HX _).mono ?_
                rintro e w' ⟨rfl, rfl⟩
                go_wp2_with fail
                with_reducible refine (rtens_at _ (6 - D) (by omega) (by omega) p HP _).mono ?_
                rintro e w' ⟨rfl, rfl⟩
                by_cases h45 : s[0].toNat = 45
                · have hb : b = true := by rw [HM.out]; simp [h45]
                  subst hb
                  have HVW : Hid ((grainV (-z) u).getD 0 = v ∧ (grainV (-z) u).isSome = o) := HVV.out
                  go_wp2_with fail
                  with_reducible refine (rgrain_at _ u v o HVW _).mono ?_
                  rintro e w' ⟨rfl, rfl⟩
                  go_wp2_with fail
                  go_ret2
                  rw [HV2.out, HV3.out]
                  exact ⟨rfl, HBL.out⟩
                · have hb : b = false := by rw [HM.out]; simp [h45]
                  subst hb
                  have HVW : Hid ((grainV z u).getD 0 = v ∧ (grainV z u).isSome = o) := HVV.out
                  go_wp2_with fail
                  with_reducible refine (rgrain_at _ u v o HVW _).mono ?_
                  rintro e w' ⟨rfl, rfl⟩
                  go_wp2_with fail
                  go_ret2
                  rw [HV2.out, HV3.out]
                  exact ⟨rfl, HBL.out⟩
            · have hno : coordV s.data.toList u I D t = none := coordV_no (fun h => h3 (by have := h.2.2.2; rw [hl'] at this; omega))
              have HNO := Lib.hid hno
              have hend3 : ((k : Int) + (a : Int) != (s.size : Int)) = true := by simp; omega
              have hend2 : ((k : Int) + (a : Int) == (s.size : Int)) = false := by simp; omega
              have hka : k + a ≤ s.size := by omega
              clear hno hl hl' ha hal hlen
              go_wp2_with fail
              with_reducible refine (rdigits_at s _ k rfl hks l HL a HA _ hs).mono ?_
              rintro e w' ⟨rfl, rfl⟩
              go_wp2_with fail
              go_ret2
              rw [HNO.out]
              exact ⟨rfl, HBL.out⟩
          · have hno : coordV s.data.toList u I D t = none := coordV_no (fun h => h2 (by have h4 := h.2.2.1; have h5 := h.2.2.2; rw [hl'] at h4 h5; omega))
            have HNO := Lib.hid hno
            have hka : k + a ≤ s.size := by omega
            clear hno hl hl' ha hal hlen
            go_wp2_with fail
            with_reducible refine (rdigits_at s _ k rfl hks l HL a HA _ hs).mono ?_
            rintro e w' ⟨rfl, rfl⟩
            go_wp2_with fail
            go_ret2
            rw [HNO.out]
            exact ⟨rfl, HBL.out⟩
        · have hno : coordV s.data.toList u I D t = none := coordV_no (fun h => h1 (by have h4 := h.2.1; have h5 := h.2.2.2; rw [hl'] at h4 h5; omega))
          have HNO := Lib.hid hno
          clear hno hl hl' ha hal hlen
          go_wp2_with fail
          with_reducible refine (rdigits_at s _ k rfl hks l HL a HA _ hs).mono ?_
          rintro e w' ⟨rfl, rfl⟩
          go_wp2_with fail
          go_ret2
          rw [HNO.out]
          exact ⟨rfl, HBL.out⟩
theorem rcoord_at (s : ByteArray) (u i d : Int) (t : Bool) (v : Int) (b : Bool) (hv : Hid ((coordV s.data.toList u i d t).getD 0 = v ∧ (coordV s.data.toList u i d t).isSome = b)) (hs : s.size ≤ 9223372036854775807) (w : World) :
    Calls Tryd.prog 38 #[.string s, fmtVal u i d t] w fun e w' => e = .returned (.tuple #[.int .i64 v, .bool b]) ∧ Below w.heap.size w w' := by
  obtain ⟨h2, h3⟩ := hv.out
  subst h2; subst h3
  exact rcoord_any s u i d t hs w
end Go.Proofs.YtmclabehdjdpnaaDoor.UnitW
