/-
  The walk of the reference's Dec.
-/
import Derived.Test.YtecpmnkgikcpnaaGreatDoorRefV
namespace Go.Proofs.YtecpmnkgikcpnaaGreatDoor.DeciW
open Go.RowKit Go.Proofs.YtecpmnkgikcpnaaGreatDoor.Dp Go.Proofs.YtecpmnkgikcpnaaGreatDoor.Base

theorem minus_iff (s : ByteArray) (h : 0 < s.size) : (strip s.data.toList).1 = decide (s[0].toNat = 45) := by
  rw [head_of s h]
  simp only [strip]
  split
  · rename_i h1; simp [h1]
  · split
    · rename_i h1; simp [h1]
    · rename_i h1; simp [h1]
/-- The reference's order of tests, once. -/
theorem decU_ref (l : List UInt8) : decU l =
    (match l.drop (nd l) with
     | [] => if nd l ≤ 6 ∧ nd l ≠ 0 then some (val (l.take (nd l)) * 1000000) else none
     | c :: t => if c.toNat = 46 ∧ nd l ≤ 6 ∧ nd t ≤ 6 ∧ nd t = t.length ∧ nd l + nd t ≠ 0 then some (val (l.take (nd l)) * 1000000 + val t * 10 ^ (6 - nd t)) else none) := by
  unfold decU
  split
  · rename_i h
    rw [h]
    have h1 : l.length ≤ nd l := List.drop_eq_nil_iff.1 h
    rw [List.take_of_length_le h1]
  · rename_i h
    rw [h]

set_option maxRecDepth 100000 in
set_option maxHeartbeats 1600000 in
theorem rdec_any (s : ByteArray) (w : World) (hs : s.size ≤ 9223372036854775807) :
    Calls Tryz.prog 35 #[.string s] w fun e w' => e = .returned (.tuple #[.int .i64 ((dec s.data.toList).getD 0), .bool (dec s.data.toList).isSome]) ∧ w = w' := by
  go_enter Tryz.func35, Tryz.ntmps35
  go_upto_region 2 with fail
  go_cut [23] (fun c wx => c = .bool (sgn s.data.toList) ∧ w = wx)
  case first =>
    by_cases h0 : 0 < s.size
    · have HB := Lib.hid (sgn_of s h0)
      by_cases h43 : s[0].toNat = 43
      all_goals
        go_wp2
        go_meet
        refine ⟨congrArg Value.bool ?_, rfl⟩
        rw [HB.out]
        simp [h43, byteq45]
        try omega
    · have HB := Lib.hid (sgn_no s h0)
      go_wp2
      go_meet
      exact ⟨congrArg Value.bool HB.out.symm, rfl⟩
  case rest =>
    obtain ⟨rfl, rfl⟩ := hcut
    go_upto_if 23 with fail
    go_cut [4] (fun i wx => ∃ k : Nat, i = .int .i64 k ∧ k ≤ 1 ∧ k ≤ s.size ∧ s.data.toList.drop k = (strip s.data.toList).2 ∧ w = wx)
    case first =>
      cases hg : sgn s.data.toList with
      | true =>
        have h0 := sgn_pos hg
        have HS := Lib.hid (strip_yes s h0 hg)
        clear hg
        go_wp2
        go_meet
        rw [HS.out]
        exact ⟨1, rfl, Nat.le_refl _, h0, rfl, rfl⟩
      | false =>
        have HS := Lib.hid (strip_no hg)
        clear hg
        go_wp2
        go_meet
        rw [HS.out]
        exact ⟨0, rfl, by omega, by omega, rfl, rfl⟩
    case rest =>
      obtain ⟨k, rfl, hk1, hks, hl, rfl⟩ := hcut
      obtain ⟨l, hl'⟩ : ∃ l, (strip s.data.toList).2 = l := ⟨_, rfl⟩
      rw [hl'] at hl
      obtain ⟨a, ha⟩ : ∃ a, nd l = a := ⟨_, rfl⟩
      have hal := nd_le l
      have hlen : l.length = s.size - k := by rw [← hl]; simp
      have hka : k + a ≤ s.size := by omega
      have hdec : dec s.data.toList = (decU l).map fun n => if (strip s.data.toList).1 then -(n : Int) else n := by unfold dec; rw [hl']
      have hU := decU_ref l
      have hdk : s.data.toList.drop (k + a) = l.drop a := by rw [← hl, List.drop_drop]
      have htk : (s.extract k (k + a)).data.toList = l.take a := by
        rw [Lib.extract_data, hl]; congr 1; omega
      rw [ha] at hU
      have HL := Lib.hid hl
      have HA := Lib.hid ha
      have HTK := Lib.hid htk
      have HD := Lib.hid hdec
      clear hl hdec hl' htk
      rcases hr : l.drop a with _ | ⟨c, r⟩
      · rw [hr] at hU hdk
        have hend : ¬ k + a < s.size := by
          have := List.drop_eq_nil_iff.1 hdk
          simp at this; omega
        simp only at hU
        by_cases hgood : a ≤ 6 ∧ a ≠ 0
        · rw [if_pos hgood] at hU
          obtain ⟨ha6, ha0⟩ := hgood
          have hdig : ∀ c ∈ l.take a, isD c = true := take_nd l a (by omega)
          have hvl := val_take_lt l a (by omega)
          obtain ⟨v, hv⟩ : ∃ v : Int, ((val (l.take a) : Nat) : Int) = v := ⟨_, rfl⟩
          have hv0 : 0 ≤ v := by omega
          have hv1 : v < 1000000 := by
            have : 10 ^ a ≤ 10 ^ 6 := Nat.pow_le_pow_right (by decide) ha6
            omega
          have hE : (ByteArray.empty).data.toList = [] := rfl
          have hEd : ∀ c ∈ ([] : List UInt8), isD c = true := by simp
          have hE0 : ((val ([] : List UInt8) : Nat) : Int) = 0 := rfl
          have hs0 : 0 < s.size := by omega
          have hmin := minus_iff s hs0
          have HU := Lib.hid hU
          have HV := Lib.hid hv
          have HDG := Lib.hid hdig
          have HE := Lib.hid hE
          have HED := Lib.hid hEd
          have HE0 := Lib.hid hE0
          have HM := Lib.hid hmin
          have hsa : (s.extract k (k + a)).size ≤ 18 := by simp; omega
          have hsb : (ByteArray.empty).size ≤ 18 := by decide
          have hend2 : ((k : Int) + (a : Int) == (s.size : Int)) = true := by simp; omega
          have hend3 : ((k : Int) + (a : Int) != (s.size : Int)) = false := by simp; omega
          have ha0' : ((a : Int) == 0) = false := by simp; omega
          clear hU hv hdig hE hEd hE0 hmin hvl ha0 ha hdk hr
          go_wp2_with fail
          with_reducible refine (rdigits_at s _ k rfl hks l HL a HA _ hs).mono ?_
          rintro e w' ⟨rfl, rfl⟩
          go_wp2_with fail
          with_reducible refine (whole_at _ _ HTK HDG hsa v HV _).mono ?_
          rintro e w' ⟨rfl, rfl⟩
          go_wp2_with fail
          with_reducible refine (whole_at _ _ HE HED hsb 0 HE0 _).mono ?_
          rintro e w' ⟨rfl, rfl⟩
          go_wp2_with fail
          go_loop [9, 10] (fun y i => ∃ j : Nat, j ≤ 6 ∧ i = .int .i64 j ∧ y = .int .i64 0) (fun _ i => (6 - intOf i).toNat)
          case atStart => exact ⟨0, by omega, rfl, rfl⟩
          case round =>
            obtain ⟨j, hj2, rfl, rfl⟩ := hrel
            by_cases hj : j < 6
            · go_wp2_with fail
              go_round
              case rel => exact ⟨j + 1, by omega, by go_num, by go_num⟩
              case measure => simp [intOf]; omega
            · by_cases hmm : s[0].toNat = 45
              · have hm45 : ((s[0].toNat : Int) == 45) = true := by simp; omega
                have hfin : dec s.data.toList = some (-(v * 1000000)) := by
                  rw [HD.out, HU.out, HM.out, decide_eq_true hmm]
                  simp [← HV.out]
                have HF := Lib.hid hfin
                clear hfin hmm
                go_wp2_with fail
                go_ret2
                rw [HF.out]
                exact ⟨by simp, rfl⟩
              · have hm45 : ((s[0].toNat : Int) == 45) = false := by simp; omega
                have hfin : dec s.data.toList = some (v * 1000000) := by
                  rw [HD.out, HU.out, HM.out, decide_eq_false hmm]
                  simp [← HV.out]
                have HF := Lib.hid hfin
                clear hfin hmm
                go_wp2_with fail
                go_ret2
                rw [HF.out]
                exact ⟨by simp, rfl⟩
        · rw [if_neg hgood] at hU
          have hfin : dec s.data.toList = none := by rw [HD.out, hU]; rfl
          have HF := Lib.hid hfin
          by_cases ha6 : a ≤ 6
          · have ha0 : a = 0 := by omega
            have ha0' : ((a : Int) == 0) = true := by simp [ha0]
            have hgt : ¬ (6 : Int) < (a : Int) := by omega
            clear hU hfin hgood hdk hr ha0
            go_wp2_with fail
            with_reducible refine (rdigits_at s _ k rfl hks l HL a HA _ hs).mono ?_
            rintro e w' ⟨rfl, rfl⟩
            go_wp2_with fail
            go_ret2
            rw [HF.out]
            exact ⟨rfl, rfl⟩
          · have hgt : (6 : Int) < (a : Int) := by omega
            clear hU hfin hgood hdk hr
            go_wp2_with fail
            with_reducible refine (rdigits_at s _ k rfl hks l HL a HA _ hs).mono ?_
            rintro e w' ⟨rfl, rfl⟩
            go_wp2_with fail
            go_ret2
            rw [HF.out]
            exact ⟨rfl, rfl⟩
      · rw [hr] at hU hdk
        simp only at hU
        have hlt : k + a < s.size := by
          have : (s.data.toList.drop (k + a)).length = s.size - (k + a) := by simp
          rw [hdk] at this
          simp at this; omega
        have hc : s[k + a] = c := by
          have := List.drop_eq_getElem_cons (l := s.data.toList) (i := k + a) (by simpa using hlt)
          rw [hdk, getl s (k + a) hlt] at this
          injection this with x y
          exact x.symm
        have hrl : r.length + 1 = s.size - (k + a) := by
          have : (s.data.toList.drop (k + a)).length = s.size - (k + a) := by simp
          rw [hdk] at this
          simpa using this
        by_cases h46 : c.toNat = 46
        · have hc46 : ((s[k + a].toNat : Int) == 46) = true := by rw [hc]; simp; omega
          have hdr : s.data.toList.drop (k + a + 1) = r := by rw [← List.drop_drop, hdk]; rfl
          obtain ⟨b, hb⟩ : ∃ b, nd r = b := ⟨_, rfl⟩
          have hbl := nd_le r
          rw [hb] at hU hbl
          have HDR := Lib.hid hdr
          have HB := Lib.hid hb
          have hka1 : k + a + 1 ≤ s.size := by omega
          by_cases hgood : c.toNat = 46 ∧ a ≤ 6 ∧ b ≤ 6 ∧ b = r.length ∧ a + b ≠ 0
          · rw [if_pos hgood] at hU
            obtain ⟨_, ha6, hb6, hbr, hab⟩ := hgood
            have hdig : ∀ c ∈ l.take a, isD c = true := take_nd l a (by omega)
            have hdig2 : ∀ c ∈ r, isD c = true := by
              have := take_nd r b (by omega)
              rwa [List.take_of_length_le (by omega)] at this
            have hvl := val_take_lt l a (by omega)
            have hfl := val_lt r hdig2
            rw [← hbr] at hfl
            obtain ⟨v, hv⟩ : ∃ v : Int, ((val (l.take a) : Nat) : Int) = v := ⟨_, rfl⟩
            obtain ⟨f, hf⟩ : ∃ f : Nat, val r = f := ⟨_, rfl⟩
            have hv0 : 0 ≤ v := by omega
            have hv1 : v < 1000000 := by
              have : 10 ^ a ≤ 10 ^ 6 := Nat.pow_le_pow_right (by decide) ha6
              omega
            rw [hf] at hfl hU
            have hE : (s.extract (k + a + 1) (k + a + 1 + b)).data.toList = r := by
              rw [Lib.extract_data, hdr]
              exact List.take_of_length_le (by omega)
            have hf' : ((val r : Nat) : Int) = (f : Int) := by rw [hf]
            have hs0 : 0 < s.size := by omega
            have hmin := minus_iff s hs0
            have HU := Lib.hid hU
            have HV := Lib.hid hv
            have HF := Lib.hid hf'
            have HDG := Lib.hid hdig
            have HE := Lib.hid hE
            have HED := Lib.hid hdig2
            have HM := Lib.hid hmin
            have HFL := Lib.hid hfl
            have hsa : (s.extract k (k + a)).size ≤ 18 := by simp; omega
            have hsb : (s.extract (k + a + 1) (k + a + 1 + b)).size ≤ 18 := by simp; omega
            have hend : k + a + 1 + b = s.size := by omega
            have hend3 : ((k : Int) + (a : Int) + 1 + (b : Int) != (s.size : Int)) = false := by simp; omega
            have hab0 : ((a : Int) + (b : Int) == 0) = false := by simp; omega
            have hle : k + a + 1 + b ≤ s.size := by omega
            clear hU hv hf hf' hdig hE hdig2 hmin hvl hfl hab ha hdk hr hb hdr hc hbr hend h46
            go_wp2_with fail
            with_reducible refine (rdigits_at s _ k rfl hks l HL a HA _ hs).mono ?_
            rintro e w' ⟨rfl, rfl⟩
            go_wp2_with fail
            with_reducible refine (rdigits_at s _ (k + a + 1) (by omega) hka1 r HDR b HB _ hs).mono ?_
            rintro e w' ⟨rfl, rfl⟩
            go_wp2_with fail
            with_reducible refine (whole_at _ _ HTK HDG hsa v HV _).mono ?_
            rintro e w' ⟨rfl, rfl⟩
            go_wp2_with fail
            go_goals
            with_reducible refine (whole_at _ _ HE HED hsb f HF _).mono ?_
            rintro e w' ⟨rfl, rfl⟩
            go_wp2_with fail
            go_loop [9, 10] (fun y i => ∃ j x : Nat, b ≤ j ∧ j ≤ 6 ∧ x = f * 10 ^ (j - b) ∧ i = .int .i64 j ∧ y = .int .i64 x) (fun _ i => (6 - intOf i).toNat)
            case atStart => exact ⟨b, f, Nat.le_refl _, hb6, by simp, rfl, rfl⟩
            case round =>
              obtain ⟨j, x, hj1, hj2, hx, rfl, rfl⟩ := hrel
              have hxl : x < 1000000 := by
                rw [hx]
                have h1 : f * 10 ^ (j - b) < 10 ^ b * 10 ^ (j - b) := Nat.mul_lt_mul_of_pos_right HFL.out (Nat.pow_pos (by decide))
                rw [← Nat.pow_add, show b + (j - b) = j by omega] at h1
                exact Nat.lt_of_lt_of_le h1 (by have := Nat.pow_le_pow_right (n := 10) (by decide) hj2; simpa using this)
              have HX := Lib.hid hx
              clear hx
              by_cases hj : j < 6
              · go_wp2_with fail
                go_round
                case rel => exact ⟨j + 1, x * 10, by omega, by omega, by rw [HX.out, show j + 1 - b = j - b + 1 by omega, Nat.pow_succ, Nat.mul_assoc], by go_num, by go_num⟩
                case measure => simp [intOf]; omega
              · have hj6 : j = 6 := by omega
                have hdu : decU l = some (val (l.take a) * 1000000 + x) := by rw [HU.out, HX.out, hj6]
                have hdu2 : ((val (l.take a) * 1000000 + x : Nat) : Int) = v * 1000000 + x := by
                  have := HV.out
                  omega
                by_cases hmm : s[0].toNat = 45
                · have hm45 : ((s[0].toNat : Int) == 45) = true := by simp; omega
                  have hfin : dec s.data.toList = some (-(v * 1000000 + x)) := by
                    rw [HD.out, hdu, HM.out, decide_eq_true hmm, ← hdu2]
                    rfl
                  have HF := Lib.hid hfin
                  clear hfin hmm hdu hdu2 hj6
                  go_wp2_with fail
                  go_ret2
                  rw [HF.out]
                  exact ⟨by simp, rfl⟩
                · have hm45 : ((s[0].toNat : Int) == 45) = false := by simp; omega
                  have hfin : dec s.data.toList = some (v * 1000000 + x) := by
                    rw [HD.out, hdu, HM.out, decide_eq_false hmm, ← hdu2]
                    rfl
                  have HF := Lib.hid hfin
                  clear hfin hmm hdu hdu2 hj6
                  go_wp2_with fail
                  go_ret2
                  rw [HF.out]
                  exact ⟨by simp, rfl⟩
          · rw [if_neg hgood] at hU
            have hfin : dec s.data.toList = none := by rw [HD.out, hU]; rfl
            have HF := Lib.hid hfin
            by_cases ha6 : a ≤ 6
            · by_cases hb6 : b ≤ 6
              · by_cases hab : a + b = 0
                · have hab0 : ((a : Int) + (b : Int) == 0) = true := by simp; omega
                  clear hU hfin hgood hdk hr hb hdr hc h46 hab ha
                  go_wp2_with fail
                  with_reducible refine (rdigits_at s _ k rfl hks l HL a HA _ hs).mono ?_
                  rintro e w' ⟨rfl, rfl⟩
                  go_wp2_with fail
                  with_reducible refine (rdigits_at s _ (k + a + 1) (by omega) hka1 r HDR b HB _ hs).mono ?_
                  rintro e w' ⟨rfl, rfl⟩
                  go_wp2_with fail
                  go_ret2
                  rw [HF.out]
                  exact ⟨rfl, rfl⟩
                · have hab0 : ((a : Int) + (b : Int) == 0) = false := by simp; omega
                  have hne : b ≠ r.length := fun h => hgood ⟨h46, ha6, hb6, h, hab⟩
                  have hend3 : ((k : Int) + (a : Int) + 1 + (b : Int) != (s.size : Int)) = true := by simp; omega
                  clear hU hfin hgood hdk hr hb hdr hc h46 hab hne ha
                  go_wp2_with fail
                  with_reducible refine (rdigits_at s _ k rfl hks l HL a HA _ hs).mono ?_
                  rintro e w' ⟨rfl, rfl⟩
                  go_wp2_with fail
                  with_reducible refine (rdigits_at s _ (k + a + 1) (by omega) hka1 r HDR b HB _ hs).mono ?_
                  rintro e w' ⟨rfl, rfl⟩
                  go_wp2_with fail
                  go_ret2
                  rw [HF.out]
                  exact ⟨rfl, rfl⟩
              · have hgt : (6 : Int) < (b : Int) := by omega
                clear hU hfin hgood hdk hr hb hdr hc h46 ha
                go_wp2_with fail
                with_reducible refine (rdigits_at s _ k rfl hks l HL a HA _ hs).mono ?_
                rintro e w' ⟨rfl, rfl⟩
                go_wp2_with fail
                with_reducible refine (rdigits_at s _ (k + a + 1) (by omega) hka1 r HDR b HB _ hs).mono ?_
                rintro e w' ⟨rfl, rfl⟩
                go_wp2_with fail
                go_ret2
                rw [HF.out]
                exact ⟨rfl, rfl⟩
            · have hgt : (6 : Int) < (a : Int) := by omega
              clear hU hfin hgood hdk hr hb hdr hc h46 ha
              go_wp2_with fail
              with_reducible refine (rdigits_at s _ k rfl hks l HL a HA _ hs).mono ?_
              rintro e w' ⟨rfl, rfl⟩
              go_wp2_with fail
              with_reducible refine (rdigits_at s _ (k + a + 1) (by omega) hka1 r HDR b HB _ hs).mono ?_
              rintro e w' ⟨rfl, rfl⟩
              go_wp2_with fail
              go_ret2
              rw [HF.out]
              exact ⟨rfl, rfl⟩
        · rw [if_neg (fun h => h46 h.1)] at hU
          have hfin : dec s.data.toList = none := by rw [HD.out, hU]; rfl
          have HF := Lib.hid hfin
          have hc46 : ((s[k + a].toNat : Int) == 46) = false := by rw [hc]; simp; omega
          have hend3 : ((k : Int) + (a : Int) != (s.size : Int)) = true := by simp; omega
          clear hU hfin hdk hr hc h46 ha
          go_wp2_with fail
          with_reducible refine (rdigits_at s _ k rfl hks l HL a HA _ hs).mono ?_
          rintro e w' ⟨rfl, rfl⟩
          go_wp2_with fail
          all_goals
            go_ret2
            rw [HF.out]
            exact ⟨rfl, rfl⟩
#print axioms rdec_any
end Go.Proofs.YtecpmnkgikcpnaaGreatDoor.DeciW
