/-
  The walks of package deci: Ok, Parse.
-/
import Derived.Test.YtecpmnkgikcpnaaDoorDeciW
import Derived.Deep.DeepCutAuto
import Derived.Deep.CutRange
import Derived.Lib.Strings
import Derived.Outline
namespace Go.Proofs.YtecpmnkgikcpnaaDoor.DeciW
open Go.RowKit Go.Proofs.YtecpmnkgikcpnaaDoor.Dp

set_option maxHeartbeats 400000 in
theorem ok_any (n : Int) (w : World) : Calls Tryd.prog 78 #[.int .i64 n] w fun e w' => e = .returned (.bool (okN n)) ∧ w = w' := by
  go_enter Tryd.func78, Tryd.ntmps78
  by_cases h1 : -1000000000000 < n
  · by_cases h2 : n < 1000000000000
    · have hb : okN n = true := by simp [okN, h1, h2]
      go_wp2
      go_ret
      rw [hb]; exact ⟨rfl, rfl⟩
    · have hb : okN n = false := by simp [okN, h2]
      have HB := Lib.hid hb
      clear hb
      go_wp2
      go_ret
      rw [HB.out]; exact ⟨rfl, rfl⟩
  · have hb : okN n = false := by simp [okN, h1]
    have HB := Lib.hid hb
    clear hb
    go_wp2
    go_ret
    rw [HB.out]; exact ⟨rfl, rfl⟩

theorem bool_tt {b : Bool} (h : b = true) : Value.bool b = .bool true := by rw [h]

theorem byteq45 (n : Nat) : ((n : Int) == 45) = decide (n = 45) := by rw [Bool.eq_iff_iff]; simp; omega
theorem digits_at (s : ByteArray) (l : List UInt8) (hl : Hid (s.data.toList = l)) (w : World) (hs : s.size ≤ 9223372036854775807) (k : Nat) (hk : Hid (k = min 6 (nd l))) (v : Nat) (hv : Hid (v = val (l.take k))) :
    Calls Tryd.prog 73 #[.string s] w fun e w' => e = .returned (.tuple #[.int .i64 v, .int .i64 k]) ∧ w = w' := by
  have h0 := hl.out
  have h1 := hk.out
  have h2 := hv.out
  subst h0; subst h1; subst h2
  exact digits_any s w hs
/-- Does a sign stand ahead. -/
def sgn (l : List UInt8) : Bool := match l with | [] => false | c :: _ => decide (c.toNat = 43) || decide (c.toNat = 45)
theorem head_of (s : ByteArray) (h : 0 < s.size) : s.data.toList = s[0] :: s.data.toList.drop 1 := by
  have := getl s 0 h
  rw [← this]
  exact (List.drop_eq_getElem_cons (i := 0) (l := s.data.toList) (show 0 < s.data.toList.length by simpa using h))
theorem list_nil (s : ByteArray) (h : ¬ 0 < s.size) : s.data.toList = [] := by
  apply List.eq_nil_of_length_eq_zero
  have : s.data.toList.length = s.size := by simp
  omega
theorem sgn_of (s : ByteArray) (h : 0 < s.size) : sgn s.data.toList = (decide (s[0].toNat = 43) || decide (s[0].toNat = 45)) := by rw [head_of s h]; rfl
theorem sgn_no (s : ByteArray) (h : ¬ 0 < s.size) : sgn s.data.toList = false := by rw [list_nil s h]; rfl
/-- What stands behind a sign. -/
theorem drop1 (s : ByteArray) : (s.extract 1 s.size).data.toList = s.data.toList.drop 1 := by
  rw [Lib.extract_data]
  exact List.take_of_length_le (by simp)
theorem dropk (s : ByteArray) (k : Nat) : (s.extract k s.size).data.toList = s.data.toList.drop k := by
  rw [Lib.extract_data]
  exact List.take_of_length_le (by simp)
theorem strip_no {l : List UInt8} (h : sgn l = false) : strip l = (false, l) := by
  cases l with
  | nil => rfl
  | cons c r =>
    simp [sgn] at h
    simp [strip, h]
theorem strip_yes (s : ByteArray) (h : 0 < s.size) (hs : sgn s.data.toList = true) : strip s.data.toList = (decide (s[0].toNat = 45), s.data.toList.drop 1) := by
  rw [sgn_of s h] at hs
  rw [head_of s h]
  simp only [strip]
  split
  · rename_i h1; simp [h1]
  · rename_i h1
    simp [h1] at hs
    simp [hs]
theorem sgn_pos {s : ByteArray} (h : sgn s.data.toList = true) : 0 < s.size := by
  apply Classical.byContradiction; intro hn
  rw [sgn_no s hn] at h; cases h

set_option maxRecDepth 100000 in
set_option maxHeartbeats 400000 in
theorem parse_any (s : ByteArray) (w : World) (hs : s.size ≤ maxLen) :
    Calls Tryd.prog 60 #[.string s] w fun e w' => e = .returned (.tuple #[.int .i64 ((dec s.data.toList).getD 0), .bool (dec s.data.toList).isSome]) ∧ w = w' := by
  unfold maxLen at hs
  go_enter Tryd.func60, Tryd.ntmps60
  go_upto_region 2 with fail
  go_cut [21] (fun c wx => c = .bool (sgn s.data.toList) ∧ w = wx)
  case first =>
    by_cases h0 : 0 < s.size
    · have HB := Lib.hid (sgn_of s h0)
      have hne : s.toList.isEmpty = false := by rw [Lib.toList_data, head_of s h0]; rfl
      have hne2 : ¬ s.toList = [] := by intro h; rw [h] at hne; cases hne
      by_cases h43 : s[0].toNat = 43
      all_goals
        go_wp2
        go_meet
        refine ⟨congrArg Value.bool ?_, rfl⟩
        rw [HB.out]
        simp [h43, byteq45]
        try omega
    · have HB := Lib.hid (sgn_no s h0)
      have hne : s.toList = [] := by rw [Lib.toList_data]; exact list_nil s h0
      go_wp2
      go_meet
      exact ⟨congrArg Value.bool HB.out.symm, rfl⟩
  case rest =>
    obtain ⟨rfl, rfl⟩ := hcut
    go_upto_if 21 with fail
    go_cut [0, 4] (fun a b wx => ∃ t : ByteArray, a = .string t ∧ t.size ≤ 9223372036854775807 ∧ t.data.toList = (strip s.data.toList).2 ∧ b = .bool (strip s.data.toList).1 ∧ w = wx)
    case first =>
      cases hg : sgn s.data.toList with
      | true =>
        have h0 := sgn_pos hg
        have HS := Lib.hid (strip_yes s h0 hg)
        clear hg
        go_wp2
        go_meet
        rw [HS.out]
        exact ⟨_, rfl, by simp; omega, drop1 s, congrArg Value.bool (byteq45 _), rfl⟩
      | false =>
        have HS := Lib.hid (strip_no hg)
        clear hg
        go_wp2
        go_meet
        rw [HS.out]
        exact ⟨_, rfl, hs, rfl, rfl, rfl⟩
    case rest =>
      obtain ⟨t, rfl, ht, hl, rfl, rfl⟩ := hcut
      obtain ⟨l, hl'⟩ : ∃ l, t.data.toList = l := ⟨_, rfl⟩
      obtain ⟨k, hk⟩ : ∃ k, k = min 6 (nd l) := ⟨_, rfl⟩
      obtain ⟨v, hv⟩ : ∃ v, v = val (l.take k) := ⟨_, rfl⟩
      have hvl : v < 1000000 := by
        rw [hv]
        exact Nat.lt_of_lt_of_le (val_take_lt l k (by omega)) (by have := Nat.pow_le_pow_right (n := 10) (by decide) (show k ≤ 6 by omega); simpa using this)
      have hlen : l.length = t.size := by rw [← hl']; simp
      have hkt : k ≤ t.size := by have := nd_le l; omega
      have hdrop : (t.extract k t.size).data.toList = l.drop k := by rw [dropk, hl']
      have hdec : dec s.data.toList = (decU l).map fun n => if (strip s.data.toList).1 then -(n : Int) else n := by unfold dec; rw [← hl, hl']
      have HL := Lib.hid hl'
      have HK := Lib.hid hk
      have HV := Lib.hid hv
      generalize (strip s.data.toList).1 = b at hdec ⊢
      have HD := Lib.hid hdec
      clear hl hl' hv hdec hlen
      rcases hr : l.drop k with _ | ⟨c, r⟩
      · have he : (t.extract k t.size).toList = [] := by rw [Lib.toList_data, hdrop, hr]
        have hA := decU_A hk hr
        by_cases h0 : k = 0
        · rw [if_pos h0] at hA
          have HA := Lib.hid hA
          have hk0 : ((k : Int) == 0) = true := by simp [h0]
          clear hA h0 hdrop hr hk
          go_wp2_with fail
          refine (digits_at t l HL _ ht k HK v HV).mono ?_
          rintro e w' ⟨rfl, rfl⟩
          go_wp2_with fail
          go_ret2
          rw [HD.out, HA.out]
          exact ⟨rfl, rfl⟩
        · rw [if_neg h0] at hA
          have HA := Lib.hid hA
          have hk0 : ((k : Int) == 0) = false := by simp [h0]
          clear hA h0 hdrop hr hk
          cases b
          all_goals
            go_wp2_with fail
            refine (digits_at t l HL _ ht k HK v HV).mono ?_
            rintro e w' ⟨rfl, rfl⟩
            go_wp2_with fail
            go_ret2
            rw [HD.out, HA.out, ← HV.out]
            exact ⟨rfl, rfl⟩
      · have hpos : 0 < t.size - k := by
          have : (t.extract k t.size).data.toList.length = t.size - k := by simp
          rw [hdrop, hr] at this
          simp at this; omega
        have hne : (t.extract k t.size).toList.isEmpty = false := by rw [Lib.toList_data, hdrop, hr]; rfl
        have hne2 : ¬ (t.extract k t.size).toList = [] := by intro h; rw [h] at hne; cases hne
        have hsz : 0 < (t.extract k t.size).size := by simpa using hpos
        have hc : (t.extract k t.size)[0] = c := by
          have := head_of _ hsz
          rw [hdrop, hr] at this
          injection this with a b
          exact a.symm
        by_cases h46 : c.toNat = 46
        · obtain ⟨m, hm⟩ : ∃ m, m = min 6 (nd r) := ⟨_, rfl⟩
          obtain ⟨d, hd⟩ : ∃ d, d = val (r.take m) := ⟨_, rfl⟩
          have hD := decU_D hk hr h46 hm
          have hd0 : d < 10 ^ m := by rw [hd]; exact val_take_lt r m (by omega)
          have hc46 : (((t.extract k t.size)[0].toNat : Int) == 46) = true := by rw [hc]; simp; omega
          have hm6 : m ≤ 6 := by omega
          have hk6 : k ≤ 6 := by omega
          have hrl : r.length + 1 = t.size - k := by
            have : (t.extract k t.size).data.toList.length = t.size - k := by simp
            rw [hdrop, hr] at this
            simpa using this
          have hml : m ≤ r.length := by have := nd_le r; omega
          have hR : ((t.extract k t.size).extract 1 (t.size - k)).data.toList = r := by
            rw [Lib.extract_data, hdrop, hr]
            exact List.take_of_length_le (by simp; omega)
          have hR2 : ((t.extract k t.size).extract (1 + m) (t.size - k)).data.toList = r.drop m := by
            rw [Lib.extract_data, hdrop, hr, Nat.add_comm 1 m, List.drop_succ_cons]
            exact List.take_of_length_le (by simp; omega)
          have hmk : m + 1 ≤ t.size - k := by omega
          have HM := Lib.hid hm
          have HDv := Lib.hid hd
          have HDD := Lib.hid hD
          have HR := Lib.hid hR
          have HR2 := Lib.hid hR2
          clear hm hd hD hk hc h46 hR hR2 hrl hdrop hr
          go_wp2_with fail
          refine (digits_at t l HL _ ht k HK v HV).mono ?_
          rintro e w' ⟨rfl, rfl⟩
          go_wp2_with fail
          refine (digits_at _ r HR _ (by simp; omega) m HM d HDv).mono ?_
          rintro e w' ⟨rfl, rfl⟩
          go_wp2_with fail
          go_loop [7, 9] (fun y i => ∃ j x : Nat, m ≤ j ∧ j ≤ 6 ∧ x = d * 10 ^ (j - m) ∧ i = .int .i64 j ∧ y = .int .i64 x) (fun _ i => (6 - intOf i).toNat)
          case atStart => exact ⟨m, d, Nat.le_refl _, hm6, by simp, rfl, rfl⟩
          case round =>
            obtain ⟨j, x, hj1, hj2, hx, rfl, rfl⟩ := hrel
            have hxl : x < 1000000 := by
              rw [hx]
              have h1 : d * 10 ^ (j - m) < 10 ^ m * 10 ^ (j - m) := Nat.mul_lt_mul_of_pos_right hd0 (Nat.pow_pos (by decide))
              rw [← Nat.pow_add, show m + (j - m) = j by omega] at h1
              exact Nat.lt_of_lt_of_le h1 (by have := Nat.pow_le_pow_right (n := 10) (by decide) hj2; simpa using this)
            have HX := Lib.hid hx
            clear hx
            by_cases hj : j < 6
            · go_wp2_with fail
              go_round
              case rel => exact ⟨j + 1, x * 10, by omega, by omega, by rw [HX.out, show j + 1 - m = j - m + 1 by omega, Nat.pow_succ, Nat.mul_assoc], by go_num, by go_num⟩
              case measure => simp [intOf]; omega
            · have hj6 : Hid (j = 6) := by show _ = _; omega
              by_cases hz : r.drop m = []
              · have he2 : ((t.extract k t.size).extract (1 + m) (t.size - k)).toList = [] := by rw [Lib.toList_data, HR2.out, hz]
                by_cases h0 : k + m = 0
                · have hN : decU l = none := by rw [HDD.out, if_neg (fun h => h.2 h0)]
                  have HN := Lib.hid hN
                  have hk0 : ((k : Int) + (m : Int) == 0) = true := by simp; omega
                  clear hN hz h0
                  go_wp2_with fail
                  go_ret2
                  rw [HD.out, HN.out]
                  exact ⟨rfl, rfl⟩
                · have hN : decU l = some (v * 1000000 + x) := by rw [HDD.out, if_pos ⟨hz, h0⟩, HX.out, HDv.out, HV.out, hj6.out]
                  have HN := Lib.hid hN
                  have hk0 : ((k : Int) + (m : Int) == 0) = false := by simp; omega
                  clear hN hz h0
                  cases b
                  all_goals
                    go_wp2_with fail
                    go_ret2
                    rw [HD.out, HN.out]
                    exact ⟨by simp, rfl⟩
              · have he2 : ((t.extract k t.size).extract (1 + m) (t.size - k)).toList.isEmpty = false := by
                  rw [Lib.toList_data, HR2.out]
                  cases h : r.drop m with
                  | nil => exact absurd h hz
                  | cons _ _ => rfl
                have hN : decU l = none := by rw [HDD.out, if_neg (fun h => hz h.1)]
                have HN := Lib.hid hN
                clear hN hz
                go_wp2_with fail
                go_ret2
                rw [HD.out, HN.out]
                exact ⟨rfl, rfl⟩
        · have hB := decU_B hk hr h46
          have HB := Lib.hid hB
          have hc46 : (((t.extract k t.size)[0].toNat : Int) == 46) = false := by rw [hc]; simp; omega
          clear hB hdrop hr hk hc h46
          go_wp2_with fail
          refine (digits_at t l HL _ ht k HK v HV).mono ?_
          rintro e w' ⟨rfl, rfl⟩
          go_wp2_with fail
          go_ret2
          rw [HD.out, HB.out]
          exact ⟨rfl, rfl⟩
#print axioms parse_any
end Go.Proofs.YtecpmnkgikcpnaaDoor.DeciW
