/-
  The walks of macro's number, primitive, fits; what strconv's Atoi answers at digits.
-/
import Derived.Test.YtglmofeeggjemaaGreatDoorGv
import Derived.Test.YtglmofeeggjemaaGreatDoorShelf
import Derived.Lib.ConvBytes
set_option linter.unusedVariables false
namespace Go.Proofs.YtglmofeeggjemaaGreatDoor.GW
open Go.RowKit Go.Proofs.YtglmofeeggjemaaGreatDoor.Base Go.Proofs.YtglmofeeggjemaaGreatDoor.Dp Go.Proofs.YtglmofeeggjemaaGreatDoor.DeciW Go.Proofs.YtglmofeeggjemaaGreatDoor.Mem Go.Proofs.YtglmofeeggjemaaGreatDoor.RdW Go.Proofs.YtglmofeeggjemaaGreatDoor.Gp

/-- What number returns. -/
def NbOut : Option (ByteArray × ByteArray) → Ending → Prop
  | none, e => e = .returned (.tuple #[.string ⟨#[]⟩, .string ⟨#[]⟩, .bool false])
  | some x, e => e = .returned (.tuple #[.string x.1, .string x.2, .bool true])
theorem nb_ex (s : List UInt8) : ∃ o : Option (ByteArray × ByteArray), numberV s = o.map fun x => (x.1.data.toList, x.2.data.toList) := by
  unfold numberV
  split
  · exact ⟨none, rfl⟩
  · exact ⟨some (⟨(s.take (nd s)).toArray⟩, ⟨(s.drop (nd s)).toArray⟩), rfl⟩

set_option maxRecDepth 100000 in
set_option maxHeartbeats 3200000 in
theorem number_c (S : ByteArray) (hs : S.size ≤ 1000000000) (o : Option (ByteArray × ByteArray)) (ho : Hid (numberV S.data.toList = o.map fun x => (x.1.data.toList, x.2.data.toList))) (w : World) :
    Calls Tryz.prog 65 #[.string S] w fun e w' => NbOut o e ∧ Drew w w' := by
  have hl := ho.out
  unfold numberV at hl
  obtain ⟨n, hn⟩ : ∃ n, nd S.data.toList = n := ⟨_, rfl⟩
  have HND := Lib.hid hn
  have HO1 : Hid (n = 0 → o = none) := by
    intro h
    rw [if_pos (.inl (by rw [hn]; exact h))] at hl
    cases o with
    | none => rfl
    | some x => cases hl
  have HO2 : Hid (∀ h : 0 < S.size, S[0] = 48 → o = none) := by
    intro hp h
    rw [if_pos (.inr (by rw [head_of S hp]; exact h))] at hl
    cases o with
    | none => rfl
    | some x => cases hl
  have HO3 : Hid (n ≠ 0 → ∀ h : 0 < S.size, S[0] ≠ 48 → o = some (S.extract 0 n, S.extract n S.size)) := by
    intro h0 hp h
    rw [if_neg (by rintro (h1 | h1); exact h0 (by rw [← hn]; exact h1); exact h (by rw [head_of S hp] at h1; exact h1))] at hl
    cases o with
    | none => cases hl
    | some x =>
      obtain ⟨a, b⟩ := x
      have h2 := Option.some.inj hl
      simp only [Prod.mk.injEq] at h2
      have ha : a = S.extract 0 n := str_eq (by rw [tak_list, ← hn]; exact h2.1.symm)
      have hb : b = S.extract n S.size := str_eq (by rw [ext_list, ← hn]; exact h2.2.symm)
      rw [ha, hb]
  clear hl hn ho
  go_enter Tryz.func65, Tryz.ntmps65
  go_wp2_with fail
  go_loop [5] (fun i => ∃ k : Nat, Hid (k ≤ nd S.data.toList) ∧ i = .int .i64 (k : Int)) (fun i => S.size - (intOf i).toNat)
  case atStart => exact ⟨0, Nat.zero_le _, rfl⟩
  case round =>
    obtain ⟨k, HK, rfl⟩ := hrel
    have hkl : k ≤ S.size := by have h1 := nd_le S.data.toList; have := HK.out; rw [len_list] at h1; omega
    by_cases hlt : k < S.size
    · have hkl' : k < S.data.toList.length := by rw [len_list]; exact hlt
      have hlti : (k : Int) < (S.size : Int) := by omega
      by_cases hd : 48 ≤ S[k].toNat ∧ S[k].toNat ≤ 57
      · have HN : Hid (k + 1 ≤ nd S.data.toList) := nd_lt HK.out hkl' (by rw [getl S k hlt]; exact (isD_iff _).2 hd)
        obtain ⟨hd1, hd2⟩ := hd
        go_wp2_with fail
        go_round
        case rel => exact ⟨k + 1, HN, by go_num⟩
        case measure => simp [intOf]; omega
      · have HN : Hid (k = n) := by
          show _ = _
          rw [← HND.out]
          exact (nd_stop HK.out hkl' (by rw [getl S k hlt]; exact (isD_false _).2 (by omega))).symm
        by_cases h1 : 48 ≤ S[k].toNat
        · have h2 : ¬ S[k].toNat ≤ 57 := fun h => hd ⟨h1, h⟩
          obtain rfl : k = n := HN.out
          clear HN HK
          by_cases h0 : k = 0
          · have HQ := Lib.hid (HO1.out h0)
            have k0 : ((k : Int) == 0) = true := by simp; omega
            clear h0
            go_wp2_with fail
            go_ret3
            rw [HQ.out]
            exact ⟨rfl, 0, rfl⟩
          · have k0 : ((k : Int) == 0) = false := by simp; omega
            have hp : 0 < S.size := by omega
            obtain ⟨c, hc⟩ : ∃ c, S[0] = c := ⟨_, rfl⟩
            by_cases h48 : c = 48
            · have HQ := Lib.hid (HO2.out hp (hc.trans h48))
              subst h48
              have x0 : ((48 : UInt8).toNat : Int) = 48 := rfl
              clear h0
              go_wp2_with fail
              go_ret3
              rw [HQ.out]
              exact ⟨rfl, 0, rfl⟩
            · have HQ := Lib.hid (HO3.out h0 hp (by rw [hc]; exact h48))
              have x0 : ((c.toNat : Int) == 48) = false := byte_ne (k := 48) (by decide) h48
              clear h0 h48
              go_wp2_with fail
              go_region
              all_goals
                go_wp2_with fail
                go_ret3
                rw [HQ.out]
                exact ⟨rfl, 1, rfl⟩
        · skip
          obtain rfl : k = n := HN.out
          clear HN HK
          by_cases h0 : k = 0
          · have HQ := Lib.hid (HO1.out h0)
            have k0 : ((k : Int) == 0) = true := by simp; omega
            clear h0
            go_wp2_with fail
            go_ret3
            rw [HQ.out]
            exact ⟨rfl, 0, rfl⟩
          · have k0 : ((k : Int) == 0) = false := by simp; omega
            have hp : 0 < S.size := by omega
            obtain ⟨c, hc⟩ : ∃ c, S[0] = c := ⟨_, rfl⟩
            by_cases h48 : c = 48
            · have HQ := Lib.hid (HO2.out hp (hc.trans h48))
              subst h48
              have x0 : ((48 : UInt8).toNat : Int) = 48 := rfl
              clear h0
              go_wp2_with fail
              go_ret3
              rw [HQ.out]
              exact ⟨rfl, 0, rfl⟩
            · have HQ := Lib.hid (HO3.out h0 hp (by rw [hc]; exact h48))
              have x0 : ((c.toNat : Int) == 48) = false := byte_ne (k := 48) (by decide) h48
              clear h0 h48
              go_wp2_with fail
              go_region
              all_goals
                go_wp2_with fail
                go_ret3
                rw [HQ.out]
                exact ⟨rfl, 1, rfl⟩
    · have HN : Hid (k = n) := by
        show _ = _
        rw [← HND.out]
        have h1 := nd_le S.data.toList
        have := HK.out
        rw [len_list] at h1
        omega
      have hlti : ¬ ((k : Int) < (S.size : Int)) := by omega
      obtain rfl : k = n := HN.out
      clear HN HK
      by_cases h0 : k = 0
      · have HQ := Lib.hid (HO1.out h0)
        have k0 : ((k : Int) == 0) = true := by simp; omega
        clear h0
        go_wp2_with fail
        go_ret3
        rw [HQ.out]
        exact ⟨rfl, 0, rfl⟩
      · have k0 : ((k : Int) == 0) = false := by simp; omega
        have hp : 0 < S.size := by omega
        obtain ⟨c, hc⟩ : ∃ c, S[0] = c := ⟨_, rfl⟩
        by_cases h48 : c = 48
        · have HQ := Lib.hid (HO2.out hp (hc.trans h48))
          subst h48
          have x0 : ((48 : UInt8).toNat : Int) = 48 := rfl
          clear h0
          go_wp2_with fail
          go_ret3
          rw [HQ.out]
          exact ⟨rfl, 0, rfl⟩
        · have HQ := Lib.hid (HO3.out h0 hp (by rw [hc]; exact h48))
          have x0 : ((c.toNat : Int) == 48) = false := byte_ne (k := 48) (by decide) h48
          clear h0 h48
          go_wp2_with fail
          go_region
          all_goals
            go_wp2_with fail
            go_ret3
            rw [HQ.out]
            exact ⟨rfl, 1, rfl⟩

set_option maxRecDepth 100000 in
set_option maxHeartbeats 3200000 in
theorem primitive_c (S : ByteArray) (n : Int) (hn : Hid (primV S.data.toList = n)) (w : World) :
    Calls Tryz.prog 68 #[.string S] w fun e w' => e = .returned (.int .i64 n) ∧ w = w' := by
  have hl := hn.out
  unfold primV at hl
  by_cases q1 : S.data.toList = [49]
  · rw [if_pos q1] at hl
    have e1 : (S.toList == [49]) = true := by rw [str_is]; exact decide_eq_true q1
    subst hl
    clear hn q1
    go_enter Tryz.func68, Tryz.ntmps68
    go_wp2_with fail
    go_ret
    exact ⟨rfl, rfl⟩
  · rw [if_neg q1] at hl
    have e1 : (S.toList == [49]) = false := by rw [str_is]; exact decide_eq_false q1
    by_cases q2 : S.data.toList = [52]
    · rw [if_pos q2] at hl
      have e2 : (S.toList == [52]) = true := by rw [str_is]; exact decide_eq_true q2
      subst hl
      clear hn q1 q2
      go_enter Tryz.func68, Tryz.ntmps68
      go_wp2_with fail
      go_ret
      exact ⟨rfl, rfl⟩
    · rw [if_neg q2] at hl
      have e2 : (S.toList == [52]) = false := by rw [str_is]; exact decide_eq_false q2
      by_cases q3 : S.data.toList = [55]
      · rw [if_pos q3] at hl
        have e3 : (S.toList == [55]) = true := by rw [str_is]; exact decide_eq_true q3
        subst hl
        clear hn q1 q2 q3
        go_enter Tryz.func68, Tryz.ntmps68
        go_wp2_with fail
        go_ret
        exact ⟨rfl, rfl⟩
      · rw [if_neg q3] at hl
        have e3 : (S.toList == [55]) = false := by rw [str_is]; exact decide_eq_false q3
        by_cases q4 : S.data.toList = [50, 48]
        · rw [if_pos q4] at hl
          have e4 : (S.toList == [50, 48]) = true := by rw [str_is]; exact decide_eq_true q4
          subst hl
          clear hn q1 q2 q3 q4
          go_enter Tryz.func68, Tryz.ntmps68
          go_wp2_with fail
          go_ret
          exact ⟨rfl, rfl⟩
        · rw [if_neg q4] at hl
          have e4 : (S.toList == [50, 48]) = false := by rw [str_is]; exact decide_eq_false q4
          by_cases q5 : S.data.toList = [50, 49]
          · rw [if_pos q5] at hl
            have e5 : (S.toList == [50, 49]) = true := by rw [str_is]; exact decide_eq_true q5
            subst hl
            clear hn q1 q2 q3 q4 q5
            go_enter Tryz.func68, Tryz.ntmps68
            go_wp2_with fail
            go_ret
            exact ⟨rfl, rfl⟩
          · rw [if_neg q5] at hl
            have e5 : (S.toList == [50, 49]) = false := by rw [str_is]; exact decide_eq_false q5
            subst hl
            clear hn q1 q2 q3 q4 q5
            go_enter Tryz.func68, Tryz.ntmps68
            go_wp2_with fail
            go_ret
            exact ⟨rfl, rfl⟩

set_option maxRecDepth 100000 in
set_option maxHeartbeats 6400000 in
theorem fits_c (n : Int) (k : Nat) (p : Option Addr) (c : Nat) (b : Bool) (hn : n = 1 ∨ n = 4 ∨ n = 7 ∨ n = 20 ∨ n = 21) (hk : k ≤ 1100) (hb : Hid (fitsP n k = b)) (w : World) :
    Calls Tryz.prog 69 #[.agg #[.int .i64 3, .int .i64 n, .string ⟨#[]⟩, .slice p k c]] w fun e w' => e = .returned (.bool b) ∧ Below w.heap.size w w' := by
  have hx : Hid (b = fitsP n k) := hb.out.symm
  clear hb
  have HBB : ∀ o, Hid (Below w.heap.size w (w.alloc o)) := fun o => (Below.refl _ _).alloc (Nat.le_refl _) _
  obtain rfl | rfl | rfl | rfl | rfl := hn
  · skip
    by_cases h0 : k = 4
    · have k0 : ((k : Int) == 4) = true := by simp; omega
      go_enter Tryz.func69, Tryz.ntmps69
      go_wp2_with fail
      go_ret
      refine ⟨ret_b ?_, (HBB _).out⟩
      rw [hx.out]
      simp [fitsP, *]
    · have k0 : ((k : Int) == 4) = false := by simp; omega
      by_cases h1 : k = 5
      · have k1 : ((k : Int) == 5) = true := by simp; omega
        go_enter Tryz.func69, Tryz.ntmps69
        go_wp2_with fail
        go_ret
        refine ⟨ret_b ?_, (HBB _).out⟩
        rw [hx.out]
        simp [fitsP, *]
      · have k1 : ((k : Int) == 5) = false := by simp; omega
        go_enter Tryz.func69, Tryz.ntmps69
        go_wp2_with fail
        go_ret
        refine ⟨ret_b ?_, (HBB _).out⟩
        rw [hx.out]
        simp [fitsP, *]
  · skip
    by_cases h0 : k % 2 = 1
    · have k0 : ((k : Int) % 2 == 1) = true := by simp; omega
      have k0' : (Int.tmod (k : Int) 2 == 1) = true := by rw [Int.tmod_eq_emod_of_nonneg (by omega)]; exact k0
      by_cases h1 : 7 ≤ k
      · have k1 : 7 ≤ (k : Int) := by omega
        have k2 : (k : Int) ≤ 1100 := by omega
        go_enter Tryz.func69, Tryz.ntmps69
        go_wp2_with fail
        go_ret
        refine ⟨ret_b ?_, (HBB _).out⟩
        rw [hx.out]
        simp [fitsP, *]
      · have k1 : ¬ 7 ≤ (k : Int) := by omega
        go_enter Tryz.func69, Tryz.ntmps69
        go_wp2_with fail
        go_ret
        refine ⟨ret_b ?_, (HBB _).out⟩
        rw [hx.out]
        simp [fitsP, *]
    · have k0 : ((k : Int) % 2 == 1) = false := by simp; omega
      have k0' : (Int.tmod (k : Int) 2 == 1) = false := by rw [Int.tmod_eq_emod_of_nonneg (by omega)]; exact k0
      go_enter Tryz.func69, Tryz.ntmps69
      go_wp2_with fail
      go_ret
      refine ⟨ret_b ?_, (HBB _).out⟩
      rw [hx.out]
      simp [fitsP, *]
  · skip
    by_cases h0 : k = 6
    · have k0 : ((k : Int) == 6) = true := by simp; omega
      go_enter Tryz.func69, Tryz.ntmps69
      go_wp2_with fail
      go_ret
      refine ⟨ret_b ?_, (HBB _).out⟩
      rw [hx.out]
      simp [fitsP, *]
    · have k0 : ((k : Int) == 6) = false := by simp; omega
      go_enter Tryz.func69, Tryz.ntmps69
      go_wp2_with fail
      go_ret
      refine ⟨ret_b ?_, (HBB _).out⟩
      rw [hx.out]
      simp [fitsP, *]
  · skip
    by_cases h0 : k = 7
    · have k0 : ((k : Int) == 7) = true := by simp; omega
      go_enter Tryz.func69, Tryz.ntmps69
      go_wp2_with fail
      go_ret
      refine ⟨ret_b ?_, (HBB _).out⟩
      rw [hx.out]
      simp [fitsP, *]
    · have k0 : ((k : Int) == 7) = false := by simp; omega
      go_enter Tryz.func69, Tryz.ntmps69
      go_wp2_with fail
      go_ret
      refine ⟨ret_b ?_, (HBB _).out⟩
      rw [hx.out]
      simp [fitsP, *]
  · skip
    by_cases h0 : k = 6
    · have k0 : ((k : Int) == 6) = true := by simp; omega
      go_enter Tryz.func69, Tryz.ntmps69
      go_wp2_with fail
      go_ret
      refine ⟨ret_b ?_, (HBB _).out⟩
      rw [hx.out]
      simp [fitsP, *]
    · have k0 : ((k : Int) == 6) = false := by simp; omega
      go_enter Tryz.func69, Tryz.ntmps69
      go_wp2_with fail
      go_ret
      refine ⟨ret_b ?_, (HBB _).out⟩
      rw [hx.out]
      simp [fitsP, *]
theorem digs_dec : ∀ (l : List UInt8) (acc : Nat), (∀ c ∈ l, isD c = true) → Lib.decFrom acc l = some (l.foldl (fun v c => v * 10 + (c.toNat - 48)) acc)
  | [], acc, _ => rfl
  | c :: r, acc, h => by
    have hc := (isD_iff _).1 (h c (by simp))
    unfold Lib.decFrom Lib.digitVal
    rw [if_pos hc]
    exact digs_dec r _ fun d hd => h d (List.mem_cons_of_mem _ hd)
theorem digs_atoi {l : List UInt8} (h0 : l ≠ []) (h : ∀ c ∈ l, isD c = true) : Lib.atoi l = some (val l : Int) := by
  cases l with
  | nil => exact absurd rfl h0
  | cons b r =>
    have hb := (isD_iff _).1 (h b (by simp))
    have n1 : (b == 45) = false := by rw [beq_eq_false_iff_ne]; rintro rfl; exact absurd hb (by decide)
    have n2 : (b == 43) = false := by rw [beq_eq_false_iff_ne]; rintro rfl; exact absurd hb (by decide)
    show (if (b == 45) = true then (Lib.decNat r).map (fun (m : Nat) => -(m : Int)) else if (b == 43) = true then (Lib.decNat r).map (fun (m : Nat) => (m : Int)) else (Lib.decNat (b :: r)).map (fun (m : Nat) => (m : Int))) = _
    unfold Lib.decNat
    rw [n1, n2, List.isEmpty_cons, if_neg (by decide), if_neg (by decide), if_neg (by decide), digs_dec _ _ h]
    rfl
theorem number_digs {s d r : List UInt8} (h : numberV s = some (d, r)) : d ≠ [] ∧ (∀ c ∈ d, isD c = true) ∧ d.length ≤ s.length ∧ r.length ≤ s.length := by
  unfold numberV at h
  split at h
  · cases h
  · rename_i hn
    have h2 := Option.some.inj h
    simp only [Prod.mk.injEq] at h2
    obtain ⟨rfl, rfl⟩ := h2
    have h3 := nd_le s
    refine ⟨?_, ?_, ?_, ?_⟩
    · intro h4
      have h5 := congrArg List.length h4
      rw [List.length_take, List.length_nil] at h5
      have h6 : nd s ≠ 0 := fun h => hn (.inl h)
      omega
    · intro c hc
      obtain ⟨i, hi, rfl⟩ := List.getElem_of_mem hc
      rw [List.length_take] at hi
      rw [List.getElem_take]
      exact (nd_spec s).1 i (by omega) (by omega)
    · rw [List.length_take]; omega
    · rw [List.length_drop]; omega
theorem atoi_c (D : ByteArray) (h0 : D.data.toList ≠ []) (h : ∀ c ∈ D.data.toList, isD c = true) (hs : D.size ≤ 18) (n : Int) (hn : (val D.data.toList : Int) = n) (w : World) :
    Calls Tryz.prog 66 #[.string D] w fun e w' => e = .returned (.tuple #[.int .i64 n, .nilIface]) ∧ Below w.heap.size w w' := by
  refine (Tryz.strconv_Atoi D _ hs (digs_atoi h0 h) w).mono fun e w' ⟨he, t, ht⟩ => ⟨by rw [he, hn], ?_⟩
  rw [ht]
  exact ⟨rfl, rfl, rfl, by rw [Lib.bytesWorld_size]; omega, fun k hk => Lib.bytesWorld_at_old _ _ _ _ hk⟩
end Go.Proofs.YtglmofeeggjemaaGreatDoor.GW
