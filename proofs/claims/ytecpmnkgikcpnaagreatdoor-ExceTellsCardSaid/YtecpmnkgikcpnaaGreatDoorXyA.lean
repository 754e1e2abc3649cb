/-
  The walks of the document's own reader of drill files: run, has, dotted, way.
-/
import Derived.Test.YtecpmnkgikcpnaaGreatDoorRefO
import Derived.Test.YtecpmnkgikcpnaaGreatDoorXwC
import Derived.Test.YtecpmnkgikcpnaaGreatDoorXr
set_option linter.unusedVariables false
set_option linter.unusedSimpArgs false
namespace Go.Proofs.YtecpmnkgikcpnaaGreatDoor.YW
open Go.RowKit Go.Proofs.YtecpmnkgikcpnaaGreatDoor.Base Go.Proofs.YtecpmnkgikcpnaaGreatDoor.Dp Go.Proofs.YtecpmnkgikcpnaaGreatDoor.DeciW Go.Proofs.YtecpmnkgikcpnaaGreatDoor.Xp Go.Proofs.YtecpmnkgikcpnaaGreatDoor.XW

set_option maxHeartbeats 400000 in
theorem run_any (s : ByteArray) (a : Nat) (ha : a ≤ s.size) (w : World) (hs : s.size ≤ 9223372036854775807) :
    Calls Tryz.prog 37 #[.string s, .int .i64 a] w fun e w' => e = .returned (.int .i64 (nd (s.data.toList.drop a))) ∧ w = w' := by
  go_enter Tryz.func37, Tryz.ntmps37
  go_wp2
  go_loop [5] (fun i => ∃ k : Nat, k ≤ nd (s.data.toList.drop a) ∧ i = .int .i64 k) (fun i => s.size - (intOf i).toNat)
  case atStart => exact ⟨0, Nat.zero_le _, rfl⟩
  case round =>
    obtain ⟨k, hk, rfl⟩ := hrel
    have hl := nd_le (s.data.toList.drop a)
    have hsz : (s.data.toList.drop a).length = s.size - a := by simp
    have hk2 : a + k ≤ s.size := by omega
    by_cases hlt : a + k < s.size
    · by_cases hd : 48 ≤ s[a + k].toNat ∧ s[a + k].toNat ≤ 57
      · have hn : k < nd (s.data.toList.drop a) := nd_lt hk (by omega) (by rw [getl_drop s a k hlt]; exact (isD_iff _).2 hd)
        obtain ⟨hd1, hd2⟩ := hd
        clear hsz hl
        go_wp2
        go_round
        case rel => exact ⟨k + 1, by omega, by go_num⟩
        case measure => simp [intOf]; omega
      · have hn : nd (s.data.toList.drop a) = k := nd_stop hk (by omega) (by rw [getl_drop s a k hlt]; exact (isD_false _).2 (by omega))
        have HN := Lib.hid hn
        clear hsz hn hl hk
        go_wp2
        all_goals (go_ret; rw [HN.out]; exact ⟨rfl, rfl⟩)
    · have HN : Hid (nd (s.data.toList.drop a) = k) := by show _ = _; omega
      clear hsz hl hk
      go_wp2
      go_ret
      rw [HN.out]; exact ⟨rfl, rfl⟩

theorem take_list (s : ByteArray) (k : Nat) : (s.extract 0 k).data.toList = s.data.toList.take k := by
  rw [Lib.extract_data]; simp
set_option maxHeartbeats 400000 in
theorem has_c (S P : ByteArray) (hs : S.size ≤ 9223372036854775807) (hp : P.size ≤ 9223372036854775807) (b : Bool) (hb : Hid ((S.data.toList.take P.size == P.data.toList) = b)) (w : World) :
    Calls Tryz.prog 33 #[.string S, .string P] w fun e w' => e = .returned (.bool b) ∧ w = w' := by
  by_cases h : (P.size : Int) ≤ (S.size : Int)
  · obtain ⟨T, hT⟩ : ∃ T, S.extract 0 P.size = T := ⟨_, rfl⟩
    have hq : (T.toList == P.toList) = b := by
      rw [Lib.toList_data, Lib.toList_data, ← hT, take_list]; exact hb.out
    clear hb
    go_enter Tryz.func33, Tryz.ntmps33
    go_wp2_with fail
    go_ret
    exact ⟨rfl, rfl⟩
  · have HE : Hid (false = b) := by
      show _ = _
      rw [← hb.out]
      refine (beq_eq_false_iff_ne.2 fun e => ?_).symm
      have := congrArg List.length e
      rw [List.length_take, len_list, len_list] at this
      omega
    clear hb
    go_enter Tryz.func33, Tryz.ntmps33
    go_wp2_with fail
    go_ret
    exact ⟨ret_b HE.out, rfl⟩
theorem mem_drop {l : List UInt8} {k : Nat} {c : UInt8} (h : k < l.length) (hc : l[k] = c) : c ∈ l := by rw [← hc]; exact List.getElem_mem h
set_option maxHeartbeats 400000 in
theorem dotted_c (S : ByteArray) (hs : S.size ≤ 9223372036854775807) (b : Bool) (hb : Hid (S.data.toList.contains 46 = b)) (w : World) :
    Calls Tryz.prog 70 #[.string S] w fun e w' => e = .returned (.bool b) ∧ w = w' := by
  go_enter Tryz.func70, Tryz.ntmps70
  go_wp2_with fail
  go_loop [3] (fun i => ∃ k : Nat, k ≤ S.size ∧ Hid (k ≤ sp (· != 46) S.data.toList) ∧ i = .int .i64 k) (fun i => S.size - (intOf i).toNat)
  case atStart => exact ⟨0, Nat.zero_le _, Nat.zero_le _, rfl⟩
  case round =>
    obtain ⟨k, hk, HK, rfl⟩ := hrel
    by_cases hlt : k < S.size
    · have hlti : (k : Int) < (S.size : Int) := by omega
      obtain ⟨c, hc⟩ : ∃ c, S[k] = c := ⟨_, rfl⟩
      obtain ⟨hl, hcl⟩ := byte_list S k hlt
      rw [hc] at hcl
      by_cases h46 : c = 46
      · subst h46
        have HE : Hid (true = b) := by
          show _ = _
          rw [← hb.out]
          exact (by simpa using mem_drop hl hcl : S.data.toList.contains 46 = true).symm
        have hci : ((46 : UInt8).toNat : Int) = 46 := rfl
        clear hl hcl
        go_wp2_with fail
        go_ret
        exact ⟨ret_b HE.out, rfl⟩
      · have g46 : ((c.toNat : Int) == 46) = false := by rw [beq_eq_false_iff_ne]; intro e; exact h46 (UInt8.toNat_inj.1 (by show c.toNat = 46; omega))
        have HK2 : Hid (k + 1 ≤ sp (· != 46) S.data.toList) := sp_lt HK.out hl (by rw [hcl]; simpa using h46)
        clear hl hcl
        go_wp2_with fail
        go_round <;> first | exact ⟨k + 1, by omega, HK2.out, by go_num⟩ | (simp [intOf] <;> omega)
    · have hlti : ¬ ((k : Int) < (S.size : Int)) := by omega
      have HE : Hid (false = b) := by
        show _ = _
        rw [← hb.out]
        refine (Bool.eq_false_iff.2 fun h => ?_).symm
        have h2 : (46 : UInt8) ∈ S.data.toList := by simpa using h
        have := sp_full (p := (· != 46)) (l := S.data.toList) (by have := HK.out; have := sp_le (· != 46) S.data.toList; rw [len_list] at *; omega) 46 h2
        simp at this
      go_wp2_with fail
      go_ret
      exact ⟨ret_b HE.out, rfl⟩

/-! ### A way -/
theorem rspan_sp (c : UInt8) (r : List UInt8) (h : c = 43 ∨ c = 45 ∨ rwayC c = true) : rspan (c :: r) = sp rwayC r + 1 := by rw [rspan_cons, if_pos h]; rfl
theorem rspan_le (s : List UInt8) : rspan s ≤ s.length := by
  cases s with
  | nil => exact Nat.le_refl _
  | cons c r =>
    rw [rspan_cons]
    split
    · have := sp_le rwayC r
      unfold sp at this
      simp; omega
    · exact Nat.zero_le _
/-- May the byte at k stand in a way? -/
def okAt (s : List UInt8) (k : Nat) (h : k < s.length) : Prop := rwayC s[k] = true ∨ (k = 0 ∧ (s[k] = 43 ∨ s[k] = 45))
theorem rspan_lt {s : List UInt8} {k : Nat} (hk : k ≤ rspan s) (h : k < s.length) (ho : okAt s k h) : k + 1 ≤ rspan s := by
  cases s with
  | nil => simp at h
  | cons c r =>
    cases k with
    | zero =>
      unfold okAt at ho
      simp only [List.getElem_cons_zero, true_and] at ho
      rw [rspan_sp c r (by rcases ho with ho | ho | ho <;> simp [ho])]
      omega
    | succ k =>
      unfold okAt at ho
      simp only [List.getElem_cons_succ, Nat.succ_ne_zero, false_and, or_false] at ho
      rw [rspan_cons] at hk ⊢
      split at hk
      · rename_i hc
        rw [if_pos hc]
        have h1 : k ≤ sp rwayC r := by unfold sp; omega
        have := sp_lt h1 (by simpa using h) ho
        unfold sp at this
        omega
      · omega
theorem rspan_stop {s : List UInt8} {k : Nat} (hk : k ≤ rspan s) (h : k < s.length) (ho : ¬ okAt s k h) : rspan s = k := by
  cases s with
  | nil => simp at h
  | cons c r =>
    cases k with
    | zero =>
      unfold okAt at ho
      simp only [List.getElem_cons_zero, true_and] at ho
      rw [rspan_cons, if_neg]
      rintro (e | e | e)
      · exact ho (.inr (.inl e))
      · exact ho (.inr (.inr e))
      · exact ho (.inl e)
    | succ k =>
      unfold okAt at ho
      simp only [List.getElem_cons_succ, Nat.succ_ne_zero, false_and, or_false] at ho
      rw [rspan_cons] at hk ⊢
      split at hk
      · rename_i hc
        rw [if_pos hc]
        have h1 : k ≤ sp rwayC r := by unfold sp; omega
        have := sp_stop h1 (by simpa using h) (by simpa using ho)
        unfold sp at this
        omega
      · omega

def SgnB (k m : Nat) (b : Bool) : Prop := (b = true → k = 1 + m) ∧ (b = false → k = m)
def WayB (S : ByteArray) (k : Nat) (b : Bool) : Prop := (b = true → k < S.size ∧ k + 1 ≤ rspan S.data.toList) ∧ (b = false → rspan S.data.toList = k)
set_option maxRecDepth 100000 in
set_option maxHeartbeats 3200000 in
theorem rway_c (S : ByteArray) (hs : S.size ≤ 9223372036854775807) (W R : ByteArray) (ok : Bool) (h : Hid (W.data.toList = S.data.toList.take (rspan S.data.toList) ∧ R.data.toList = S.data.toList.drop (rspan S.data.toList) ∧ rok (S.data.toList.take (rspan S.data.toList)) = ok)) (w : World) :
    Calls Tryz.prog 60 #[.string S] w fun e w' => e = .returned (.tuple #[.string W, .string R, .bool ok]) ∧ Drew w w' := by
  go_enter Tryz.func60, Tryz.ntmps60
  go_wp2_with fail
  go_loop [5] (fun i => ∃ k : Nat, k ≤ S.size ∧ Hid (k ≤ rspan S.data.toList) ∧ i = .int .i64 k) (fun i => S.size - (intOf i).toNat)
  case atStart => exact ⟨0, Nat.zero_le _, Nat.zero_le _, rfl⟩
  case round =>
    obtain ⟨k, hk, HK, rfl⟩ := hrel
    go_upto_region 2 with fail
    go_cut [47] from 10 to 49 (fun q wx => ∃ b : Bool, q = .bool b ∧ Hid (WayB S k b) ∧ w = wx)
    case first =>
      by_cases hlt : k < S.size
      · have hlti : (k : Int) < (S.size : Int) := by omega
        have hk0 : (0 : Int) ≤ (k : Int) := by omega
        obtain ⟨c, hc⟩ : ∃ c, S[k] = c := ⟨_, rfl⟩
        obtain ⟨hl, hcl⟩ := byte_list S k hlt
        rw [hc] at hcl
        have HY : Hid (rwayC c = true ∨ (k = 0 ∧ (c = 43 ∨ c = 45)) → k + 1 ≤ rspan S.data.toList) := fun h => rspan_lt HK.out hl (by unfold okAt; rw [hcl]; exact h)
        have HN : Hid (¬ (rwayC c = true ∨ (k = 0 ∧ (c = 43 ∨ c = 45))) → rspan S.data.toList = k) := fun h => rspan_stop HK.out hl (by unfold okAt; rw [hcl]; exact h)
        clear hl hcl
        by_cases h46 : c = 46
        · subst h46
          have hci : ((46 : UInt8).toNat : Int) = 46 := rfl
          go_wp2_with fail
          go_meet
          exact ⟨true, rfl, ⟨fun _ => ⟨hlt, HY.out (.inl (by decide))⟩, fun h => Bool.noConfusion h⟩, rfl⟩
        · have g46 : ((c.toNat : Int) == 46) = false := by rw [beq_eq_false_iff_ne]; intro e; exact h46 (UInt8.toNat_inj.1 (by show c.toNat = 46; omega))
          by_cases hd : isD c = true
          · have hd' := (isD_iff c).1 hd
            have e1 : (48 : Int) ≤ (c.toNat : Int) := by omega
            have e2 : (c.toNat : Int) ≤ 57 := by omega
            clear hd'
            go_wp2_with fail
            go_meet
            exact ⟨true, rfl, ⟨fun _ => ⟨hlt, HY.out (.inl (by unfold rwayC; rw [hd]; simp))⟩, fun h => Bool.noConfusion h⟩, rfl⟩
          · have hrw : rwayC c = false := by unfold rwayC; rw [Bool.eq_false_iff.2 hd]; simp [h46]
            have hd' := (isD_false c).1 (Bool.eq_false_iff.2 hd)
            by_cases hk00 : k = 0
            · subst hk00
              by_cases h43 : c = 43
              · subst h43
                have hci : ((43 : UInt8).toNat : Int) = 43 := rfl
                have HZ := Lib.hid (HY.out (.inr ⟨rfl, .inl rfl⟩))
                clear hd' HY HN
                go_wp2_with fail
                go_meet
                exact ⟨true, rfl, ⟨fun _ => ⟨hlt, HZ.out⟩, fun h => Bool.noConfusion h⟩, rfl⟩
              · have g43 : ((c.toNat : Int) == 43) = false := by rw [beq_eq_false_iff_ne]; intro e; exact h43 (UInt8.toNat_inj.1 (by show c.toNat = 43; omega))
                by_cases h45 : c = 45
                · subst h45
                  have hci : ((45 : UInt8).toNat : Int) = 45 := rfl
                  have HZ := Lib.hid (HY.out (.inr ⟨rfl, .inr rfl⟩))
                  clear hd' HY HN
                  go_wp2_with fail
                  go_meet
                  exact ⟨true, rfl, ⟨fun _ => ⟨hlt, HZ.out⟩, fun h => Bool.noConfusion h⟩, rfl⟩
                · have g45 : ((c.toNat : Int) == 45) = false := by rw [beq_eq_false_iff_ne]; intro e; exact h45 (UInt8.toNat_inj.1 (by show c.toNat = 45; omega))
                  have HE := Lib.hid (HN.out (by rintro (h | ⟨_, h | h⟩); rw [hrw] at h; cases h; exact h43 h; exact h45 h))
                  rcases hd' with hd' | hd'
                  · have e1 : ¬ (48 : Int) ≤ (c.toNat : Int) := by omega
                    go_wp2_with fail
                    go_meet
                    exact ⟨false, rfl, ⟨fun h => Bool.noConfusion h, fun _ => HE.out⟩, rfl⟩
                  · have e1 : (48 : Int) ≤ (c.toNat : Int) := by omega
                    have e2 : ¬ (c.toNat : Int) ≤ 57 := by omega
                    go_wp2_with fail
                    go_meet
                    exact ⟨false, rfl, ⟨fun h => Bool.noConfusion h, fun _ => HE.out⟩, rfl⟩
            · have gk : ((k : Int) == 0) = false := by rw [beq_eq_false_iff_ne]; omega
              have HE := Lib.hid (HN.out (by rintro (h | ⟨h, _⟩); rw [hrw] at h; cases h; exact hk00 h))
              rcases hd' with hd' | hd'
              · have e1 : ¬ (48 : Int) ≤ (c.toNat : Int) := by omega
                go_wp2_with fail
                go_meet
                exact ⟨false, rfl, ⟨fun h => Bool.noConfusion h, fun _ => HE.out⟩, rfl⟩
              · have e1 : (48 : Int) ≤ (c.toNat : Int) := by omega
                have e2 : ¬ (c.toNat : Int) ≤ 57 := by omega
                go_wp2_with fail
                go_meet
                exact ⟨false, rfl, ⟨fun h => Bool.noConfusion h, fun _ => HE.out⟩, rfl⟩
      · have hlti : ¬ ((k : Int) < (S.size : Int)) := by omega
        have HE : Hid (rspan S.data.toList = k) := by have := HK.out; have := rspan_le S.data.toList; rw [len_list] at this; show _ = _; omega
        go_wp2_with fail
        go_meet
        exact ⟨false, rfl, ⟨fun h => Bool.noConfusion h, fun _ => HE.out⟩, rfl⟩
    case rest =>
    obtain ⟨b, rfl, HB, rfl⟩ := hcut
    cases b with
    | true =>
      have h1 := HB.out.1 rfl
      have HK2 := Lib.hid h1.2
      have hlt := h1.1
      clear h1 HB
      go_wp2_with fail
      go_round <;> first | exact ⟨k + 1, by omega, HK2.out, by go_num⟩ | (simp [intOf] <;> omega)
    | false =>
      have HE := Lib.hid (HB.out.2 rfl)
      obtain ⟨hW, hR, hok⟩ := h.out
      rw [HE.out] at hW hR hok
      rw [← hW] at hok
      have hT : S.extract 0 k = W := str_eq (by rw [take_list, hW])
      have hRe : S.extract k S.size = R := str_eq (by rw [ext_list, hR])
      clear hW hR HB h
      have hTz : W.size = k := by rw [← hT, ByteArray.size_extract]; omega
      have hki : (k : Int) ≤ (S.size : Int) := by omega
      have hk0 : (0 : Int) ≤ (k : Int) := by omega
      have HOK := Lib.hid hok
      clear hok
      cases hdt : W.data.toList.contains 46 with
      | true =>
        go_wp2_with fail
        refine (dotted_c W (by omega) true (Lib.hid hdt) _).mono ?_
        rintro e w' ⟨rfl, rfl⟩
        go_wp2_with fail
        refine (rdec_any W _ (by omega)).mono ?_
        rintro e w' ⟨rfl, rfl⟩
        have HE2 : Hid ((dec W.data.toList).isSome = ok) := by
          show _ = _
          have := HOK.out
          unfold rok at this
          rw [if_pos hdt] at this
          exact this
        obtain ⟨z, hz⟩ : ∃ z, (dec W.data.toList).getD 0 = z := ⟨_, rfl⟩
        rw [hz, HE2.out]
        clear hz hdt
        go_upto_region 7 with fail
        go_quiet (fail)
        all_goals
          go_wp2_with fail
          go_ret3
          exact ⟨rfl, _, rfl⟩
      | false =>
        obtain ⟨m, hm⟩ : ∃ m, (bare W.data.toList).length = m := ⟨_, rfl⟩
        have HM : Hid ((decide (1 ≤ m) && decide (m ≤ 12)) = ok) := by
          show _ = _
          have := HOK.out
          unfold rok at this
          rw [hdt, if_neg (by decide), hm] at this
          exact this
        go_wp2_with fail
        refine (dotted_c W (by omega) false (Lib.hid hdt) _).mono ?_
        rintro e w' ⟨rfl, rfl⟩
        clear hdt
        go_upto_region 9 with fail
        go_cut [76] (fun q wx => ∃ b : Bool, q = .bool b ∧ Hid (SgnB k m b) ∧ w = wx)
        case first =>
          by_cases hkz : k = 0
          · subst hkz
            have hm0 : m = 0 := by
              rw [← hm, (XW.list_nil W).2 hTz]; rfl
            subst hm0
            clear hm HM
            go_wp2_with fail
            go_meet
            exact ⟨false, rfl, ⟨fun h => Bool.noConfusion h, fun _ => rfl⟩, rfl⟩
          · have hkp : (0 : Int) < (k : Int) := by omega
            obtain ⟨c, r, hcr⟩ : ∃ c r, W.data.toList = c :: r := by
              cases hl : W.data.toList with
              | nil => have := (XW.list_nil W).1 hl; omega
              | cons c r => exact ⟨c, r, rfl⟩
            have hrl : r.length + 1 = k := by rw [← hTz, ← len_list, hcr]; rfl
            have hW0 : W[0]'(by omega) = c := by
              obtain ⟨h1, h2⟩ := byte_list W 0 (by omega)
              rw [← h2]; simp only [hcr, List.getElem_cons_zero]
            have hWp : (0 : Int) < (W.size : Int) := by omega
            rw [hcr, bare_cons] at hm
            by_cases h43 : c = 43
            · subst h43
              have hci : ((43 : UInt8).toNat : Int) = 43 := rfl
              rw [if_pos (by decide)] at hm
              have HS : Hid (SgnB k m true) := ⟨fun _ => by omega, fun h => Bool.noConfusion h⟩
              clear hm hcr
              go_wp2_with fail
              go_meet
              exact ⟨true, rfl, HS.out, rfl⟩
            · have g43 : ((c.toNat : Int) == 43) = false := by rw [beq_eq_false_iff_ne]; intro e; exact h43 (UInt8.toNat_inj.1 (by show c.toNat = 43; omega))
              by_cases h45 : c = 45
              · subst h45
                have hci : ((45 : UInt8).toNat : Int) = 45 := rfl
                rw [if_pos (by decide)] at hm
                have HS : Hid (SgnB k m true) := ⟨fun _ => by omega, fun h => Bool.noConfusion h⟩
                clear hm hcr
                go_wp2_with fail
                go_meet
                exact ⟨true, rfl, HS.out, rfl⟩
              · have g45 : ((c.toNat : Int) == 45) = false := by rw [beq_eq_false_iff_ne]; intro e; exact h45 (UInt8.toNat_inj.1 (by show c.toNat = 45; omega))
                rw [if_neg (by rintro (h | h); exact h43 h; exact h45 h)] at hm
                have HS : Hid (SgnB k m false) := ⟨fun h => Bool.noConfusion h, fun _ => by simp at hm; omega⟩
                clear hm hcr
                go_wp2_with fail
                go_meet
                exact ⟨false, rfl, HS.out, rfl⟩
        case rest =>
        obtain ⟨b, rfl, HS, rfl⟩ := hcut
        go_upto_if 76 with fail
        go_cut [9] (fun v wx => ∃ j : Nat, v = .int .i64 (j : Int) ∧ Hid (k = j + m) ∧ w = wx)
        case first =>
          cases b with
          | true => go_wp2_with fail; go_meet; exact ⟨1, rfl, HS.out.1 rfl, rfl⟩
          | false => go_wp2_with fail; go_meet; exact ⟨0, rfl, by have := HS.out.2 rfl; show _ = _; omega, rfl⟩
        case rest =>
        obtain ⟨j, rfl, HJ, rfl⟩ := hcut
        have hkj : (k : Int) - (j : Int) = (m : Int) := by have := HJ.out; omega
        have hwm : IntKind.i64.wrap (m : Int) = (m : Int) := by rw [IntKind.wrap_i64]; have := HJ.out; omega
        clear hm HS
        by_cases a1 : (1 : Int) ≤ (m : Int)
        · by_cases a2 : (m : Int) ≤ 12
          · have HB : Hid (true = ok) := by rw [← HM.out, decide_eq_true (show 1 ≤ m by omega), decide_eq_true (show m ≤ 12 by omega)]; exact rfl
            obtain rfl := HB.out
            go_upto_region 11 with fail
            go_quiet (fail)
            all_goals
              go_wp2_with fail
              go_ret3
              exact ⟨rfl, _, rfl⟩
          · have HB : Hid (false = ok) := by rw [← HM.out, decide_eq_false (show ¬ m ≤ 12 by omega), Bool.and_false]; exact rfl
            obtain rfl := HB.out
            go_upto_region 11 with fail
            go_quiet (fail)
            all_goals
              go_wp2_with fail
              go_ret3
              exact ⟨rfl, _, rfl⟩
        · have HB : Hid (false = ok) := by rw [← HM.out, decide_eq_false (show ¬ 1 ≤ m by omega), Bool.false_and]; exact rfl
          obtain rfl := HB.out
          go_upto_region 11 with fail
          go_quiet (fail)
          all_goals
            go_wp2_with fail
            go_ret3
            exact ⟨rfl, _, rfl⟩
end Go.Proofs.YtecpmnkgikcpnaaGreatDoor.YW
