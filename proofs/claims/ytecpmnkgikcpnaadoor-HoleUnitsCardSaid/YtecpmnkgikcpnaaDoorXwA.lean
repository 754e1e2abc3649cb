/-
  The walks of exce's small functions: printable, lines, isCoordinate, coordinate, position, count.
-/
import Derived.Test.YtecpmnkgikcpnaaDoorXs
import Derived.Test.YtecpmnkgikcpnaaDoorDeciV
import Derived.Test.YtecpmnkgikcpnaaDoorBase
namespace Go.Proofs.YtecpmnkgikcpnaaDoor.XW
open Go.RowKit Go.Proofs.YtecpmnkgikcpnaaDoor.Base Go.Proofs.YtecpmnkgikcpnaaDoor.Dp Go.Proofs.YtecpmnkgikcpnaaDoor.DeciW Go.Proofs.YtecpmnkgikcpnaaDoor.Xp

theorem ret_b {a b : Bool} (h : a = b) : Ending.returned (.bool a) = .returned (.bool b) := by rw [h]
theorem printable_c (c : UInt8) (x : Int) (hx : Hid ((c.toNat : Int) = x)) (b : Bool) (hb : Hid (okC c = b)) (w : World) :
    Calls Tryd.prog 24 #[.int .u8 x] w fun e w' => e = .returned (.bool b) ∧ w = w' := by
  have hc := c.toNat_lt
  have hxx := hx.out
  have hbb := hb.out
  unfold okC at hbb
  by_cases h1 : 32 ≤ x
  · by_cases h2 : x ≤ 126
    · have HB : Hid (true = b) := by show _ = _; rw [← hbb, decide_eq_true (by omega), decide_eq_true (by omega)]; rfl
      clear hxx hbb
      go_enter Tryd.func24, Tryd.ntmps24
      go_wp2_with fail
      go_ret
      exact ⟨ret_b HB.out, rfl⟩
    · have HB : Hid (false = b) := by show _ = _; rw [← hbb, decide_eq_false (p := c.toNat ≤ 126) (by omega), Bool.and_false]
      clear hxx hbb
      go_enter Tryd.func24, Tryd.ntmps24
      go_wp2_with fail
      go_ret
      exact ⟨ret_b HB.out, rfl⟩
  · have HB : Hid (false = b) := by show _ = _; rw [← hbb, decide_eq_false (p := 32 ≤ c.toNat) (by omega), Bool.false_and]
    clear hxx hbb
    go_enter Tryd.func24, Tryd.ntmps24
    go_wp2_with fail
    go_ret
    exact ⟨ret_b HB.out, rfl⟩

theorem nil_size {S : ByteArray} (h : S.size = 0) : S = ⟨#[]⟩ := str_eq (List.eq_nil_of_length_eq_zero (by rw [len_list]; exact h))
theorem str_nil (S : ByteArray) : (S.toList == []) = decide (S.size = 0) := by
  rw [Lib.toList_data]
  cases h : S.data.toList with
  | nil => have : S.size = 0 := by rw [← len_list, h]; rfl
           rw [this]; rfl
  | cons c l => have : S.size ≠ 0 := by rw [← len_list, h]; simp
                rw [decide_eq_false this]; rfl
theorem last_of (S : ByteArray) (h : 0 < S.size) : S.data.toList.getLast? = some (S[S.size - 1]) := by
  rw [List.getLast?_eq_getElem?, len_list]
  have hl : S.size - 1 < S.data.toList.length := by rw [len_list]; omega
  rw [List.getElem?_eq_getElem hl]
  simp
  rfl

set_option maxRecDepth 100000 in
theorem lines_c (S : ByteArray) (hs : S.size ≤ 1000000) (n : Int) (hn : Hid ((linesV S.data.toList : Int) = n)) (w : World) :
    Calls Tryd.prog 23 #[.string S] w fun e w' => e = .returned (.int .i64 n) ∧ w = w' := by
  obtain ⟨k, hk⟩ : ∃ k : Nat, S.data.toList.count 10 = k := ⟨_, rfl⟩
  have hkl : k ≤ S.size := by rw [← hk, ← len_list]; exact List.count_le_length
  have HK : Hid ((Lib.countByte S.data.toList 10 : Int) = (k : Int)) := by show _ = _; rw [← hk]; rfl
  have hnn := hn.out
  unfold linesV at hnn
  rw [hk] at hnn
  by_cases h0 : S.size = 0
  · obtain rfl := nil_size h0
    have HN : Hid ((k : Int) = n) := by show _ = _; rw [← hnn, if_neg (by rintro ⟨h, _⟩; exact h rfl)]; rfl
    clear hnn hn
    go_enter Tryd.func23, Tryd.ntmps23
    go_wp2_with fail
    with_reducible refine (Tryd.strings_Count_one _ 10 _).mono ?_
    rintro e w' ⟨rfl, rfl⟩
    rw [HK.out]
    go_wp2_with fail
    go_ret
    exact ⟨by rw [HN.out]; rfl, rfl⟩
  · have hne : (S.toList == []) = false := by rw [str_nil]; exact decide_eq_false h0
    have hp : 0 < S.size := by omega
    have hlast := last_of S hp
    obtain ⟨c, hc⟩ : ∃ c, S[S.size - 1] = c := ⟨_, rfl⟩
    rw [hc] at hlast
    rw [hlast] at hnn
    obtain ⟨m, hm⟩ : ∃ m : Nat, S.size = m + 1 := ⟨S.size - 1, by omega⟩
    have hsub : (S.size : Int) - 1 = (m : Int) := by omega
    have hml : m < S.size := by omega
    have hcm : S[m] = c := by rw [← hc]; congr 1; omega
    have hm1 : (m : Int) ≤ 1000000 := by omega
    have hkm : (k : Int) ≤ 1000000 := by omega
    clear hm
    by_cases h10 : c = 10
    · have HN : Hid ((k : Int) = n) := by
        show _ = _
        rw [← hnn, if_neg (by rintro ⟨_, h⟩; exact h (by rw [h10]))]; rfl
      have hcn : (c.toNat : Int) = 10 := by rw [h10]; rfl
      clear hnn hn hlast hc h10
      go_enter Tryd.func23, Tryd.ntmps23
      go_wp2_with fail
      with_reducible refine (Tryd.strings_Count_one _ 10 _).mono ?_
      rintro e w' ⟨rfl, rfl⟩
      rw [HK.out]
      go_wp2_with fail
      go_ret
      exact ⟨by rw [HN.out]; rfl, rfl⟩
    · have HN : Hid ((k : Int) + 1 = n) := by
        show _ = _
        rw [← hnn, if_pos ⟨fun h => by have := len_list S; rw [h] at this; simp at this; omega, fun h => h10 (Option.some.inj h)⟩]; rfl
      have hcn : ((c.toNat : Int) == 10) = false := by
        rw [beq_eq_false_iff_ne]
        intro h
        exact h10 (UInt8.toNat_inj.1 (by show c.toNat = 10; omega))
      have hw : IntKind.i64.wrap ((k : Int) + 1) = (k : Int) + 1 := by rw [IntKind.wrap_i64]; omega
      clear hnn hn hlast hc
      go_enter Tryd.func23, Tryd.ntmps23
      go_wp2_with fail
      with_reducible refine (Tryd.strings_Count_one _ 10 _).mono ?_
      rintro e w' ⟨rfl, rfl⟩
      rw [HK.out]
      go_wp2_with fail
      go_ret
      exact ⟨by rw [HN.out]; rfl, rfl⟩

theorem index_contains (l : List UInt8) (c : UInt8) : decide (0 ≤ Lib.indexByte l c) = l.contains c := by
  induction l with
  | nil => rfl
  | cons x l ih =>
    unfold Lib.indexByte
    rw [List.contains_cons]
    by_cases h : x = c
    · subst h; simp
    · have h2 : (c == x) = false := beq_eq_false_iff_ne.2 (Ne.symm h)
      rw [h2, Bool.false_or, ← ih]
      have hx : (x == c) = false := beq_eq_false_iff_ne.2 h
      rw [hx, if_neg (by decide)]
      have := Lib.indexByte_ge l c
      by_cases h1 : Lib.indexByte l c = -1
      · rw [if_pos (beq_iff_eq.2 h1), h1]
      · rw [if_neg (fun h => h1 (beq_iff_eq.1 h)), Bool.eq_iff_iff]
        simp only [decide_eq_true_eq]
        omega
theorem head_byte (S : ByteArray) (h : 0 < S.size) : ∃ r, S.data.toList = S[0] :: r ∧ (S.extract 1 S.size).data.toList = r := by
  have h1 := ext_list S 1
  cases hl : S.data.toList with
  | nil => have := len_list S; rw [hl] at this; simp at this; omega
  | cons c r =>
    refine ⟨r, ?_, by rw [h1, hl]; rfl⟩
    congr 1
    have h0 : 0 < S.data.toList.length := by rw [len_list]; exact h
    have e : S.data.toList[0] = S[0] := by simp; rfl
    rw [← e]
    simp [hl]
theorem byte_list (S : ByteArray) (k : Nat) (h : k < S.size) : ∃ hl : k < S.data.toList.length, S.data.toList[k] = S[k] := ⟨by rw [len_list]; exact h, by simp; rfl⟩
theorem two_eq {c : UInt8} {k : Nat} (hk : k < 256) : (c.toNat = k) ↔ c = UInt8.ofNat k := by
  constructor
  · intro h; rw [← h]; simp
  · intro h; rw [h]; simp; omega

set_option maxRecDepth 100000 in
set_option maxHeartbeats 800000 in
theorem isco_c (S : ByteArray) (hs : S.size ≤ maxLen) (b : Bool) (hb : Hid (isWay S.data.toList = b)) (w : World) :
    Calls Tryd.prog 89 #[.string S] w fun e w' => e = .returned (.bool b) ∧ w = w' := by
  obtain ⟨q, hq⟩ : ∃ q, S.data.toList.contains 46 = q := ⟨_, rfl⟩
  have HQ : Hid (decide (0 ≤ Lib.indexByte S.data.toList 46) = q) := by show _ = _; rw [index_contains]; exact hq
  have hbb := hb.out
  unfold isWay at hbb
  rw [hq] at hbb
  have HSM := Lib.hid hs
  unfold maxLen at hs
  cases q with
  | true =>
    rw [if_pos rfl] at hbb
    have HP : Hid ((dec S.data.toList).getD 0 = (dec S.data.toList).getD 0 ∧ (dec S.data.toList).isSome = b) := ⟨rfl, hbb⟩
    clear hq hbb hb
    go_enter Tryd.func89, Tryd.ntmps89
    go_wp2_with fail
    with_reducible refine (Tryd.strings_Contains_one _ 46 _).mono ?_
    rintro e w' ⟨rfl, rfl⟩
    rw [HQ.out]
    go_wp2_with fail
    with_reducible refine (parse_any S _ HSM.out).mono ?_
    rintro e w2 ⟨rfl, rfl⟩
    go_wp2_with fail
    go_ret
    exact ⟨ret_b HP.out.2, rfl⟩
  | false =>
    rw [if_neg (by decide)] at hbb
    have HB : Hid (((bare S.data.toList).all isD && (decide (1 ≤ (bare S.data.toList).length) && decide ((bare S.data.toList).length ≤ 12))) = b) := hbb
    clear hq hbb hb
    go_enter Tryd.func89, Tryd.ntmps89
    go_wp2_with fail
    with_reducible refine (Tryd.strings_Contains_one _ 46 _).mono ?_
    rintro e w' ⟨rfl, rfl⟩
    rw [HQ.out]
    go_upto_region 4 with fail
    go_cut [25] (fun c wx => c = .bool (decide (0 < S.size ∧ (S.data.toList.headD 0 = 43 ∨ S.data.toList.headD 0 = 45))) ∧ w' = wx)
    case first =>
      by_cases h0 : S.size = 0
      · have hne : (S.toList == []) = true := by rw [str_nil]; exact decide_eq_true h0
        go_wp2_with fail
        go_meet
        exact ⟨by rw [decide_eq_false (by omega)], rfl⟩
      · have hne : (S.toList == []) = false := by rw [str_nil]; exact decide_eq_false h0
        have hp : 0 < S.size := by omega
        obtain ⟨r, hr, _⟩ := head_byte S hp
        obtain ⟨c, hc⟩ : ∃ c, S[0] = c := ⟨_, rfl⟩
        have hd0 : S.data.toList.headD 0 = c := by rw [hr, ← hc]; rfl
        clear hr
        by_cases h43 : c.toNat = 43
        · have hci : (c.toNat : Int) = 43 := by omega
          have hcc : c = 43 := UInt8.toNat_inj.1 h43
          go_wp2_with fail
          go_meet
          exact ⟨by rw [hd0, decide_eq_true ⟨hp, .inl hcc⟩], rfl⟩
        · have hci : ((c.toNat : Int) == 43) = false := by rw [beq_eq_false_iff_ne]; omega
          by_cases h45 : c.toNat = 45
          · have hci2 : (c.toNat : Int) = 45 := by omega
            have hcc : c = 45 := UInt8.toNat_inj.1 h45
            go_wp2_with fail
            go_meet
            exact ⟨by rw [hd0, decide_eq_true ⟨hp, .inr hcc⟩], rfl⟩
          · have hci2 : ((c.toNat : Int) == 45) = false := by rw [beq_eq_false_iff_ne]; omega
            go_wp2_with fail
            go_meet
            refine ⟨?_, rfl⟩
            rw [hd0, decide_eq_false]
            rintro ⟨_, h | h⟩
            · exact h43 (by rw [show c = 43 from h]; rfl)
            · exact h45 (by rw [show c = 45 from h]; rfl)
    case rest =>
    obtain ⟨rfl, rfl⟩ := hcut
    go_upto_if 25 with fail
    go_cut [0] (fun t wx => ∃ T : ByteArray, t = .string T ∧ Hid (T.data.toList = bare S.data.toList) ∧ T.size ≤ S.size ∧ w' = wx)
    case first =>
      by_cases h : 0 < S.size ∧ (S.data.toList.headD 0 = 43 ∨ S.data.toList.headD 0 = 45)
      · have hd : decide (0 < S.size ∧ (S.data.toList.headD 0 = 43 ∨ S.data.toList.headD 0 = 45)) = true := decide_eq_true h
        have hp := h.1
        obtain ⟨r, hr, hr2⟩ := head_byte S hp
        have HT : Hid ((S.extract 1 S.size).data.toList = bare S.data.toList) := by
          show _ = _
          rw [hr2, hr]
          rw [hr] at h
          show r = if S[0] = 43 ∨ S[0] = 45 then r else S[0] :: r
          rw [if_pos (show S[0] = 43 ∨ S[0] = 45 from h.2)]
        have hTs : (S.extract 1 S.size).size ≤ S.size := by rw [← len_list, ext_list, List.length_drop, len_list]; omega
        rw [hd]
        go_wp2_with fail
        go_meet
        exact ⟨_, rfl, HT.out, hTs, rfl⟩
      · have hd : decide (0 < S.size ∧ (S.data.toList.headD 0 = 43 ∨ S.data.toList.headD 0 = 45)) = false := decide_eq_false h
        have HT : Hid (S.data.toList = bare S.data.toList) := by
          show _ = _
          unfold bare
          split
          · rename_i he; exact he
          · rename_i c r he
            rw [if_neg]
            · exact he
            · intro hcc
              refine h ⟨?_, by rw [he]; exact hcc⟩
              have := len_list S
              rw [he] at this
              simp at this
              omega
        rw [hd]
        go_wp2_with fail
        go_meet
        exact ⟨_, rfl, HT.out, Nat.le_refl _, rfl⟩
    case rest =>
    obtain ⟨T, rfl, HT, hTs, rfl⟩ := hcut
    have hTm : T.size ≤ 9223372036854775807 := by omega
    clear HQ
    go_wp2_with fail
    go_loop [5] (fun i => ∃ j : Nat, j ≤ T.size ∧ Hid (∀ k (h : k < T.size), k < j → isD T[k] = true) ∧ i = .int .i64 j) (fun i => T.size - (intOf i).toNat)
    case atStart => exact ⟨0, Nat.zero_le _, fun k _ h => absurd h (Nat.not_lt_zero _), rfl⟩
    case round =>
      obtain ⟨j, hj, HJ, rfl⟩ := hrel
      by_cases hlt : j < T.size
      · obtain ⟨c, hc⟩ : ∃ c, T[j] = c := ⟨_, rfl⟩
        have hFail : Hid (isD c = false → b = false) := by
          intro h
          rw [← HB.out, ← HT.out]
          obtain ⟨hl, he⟩ := byte_list T j hlt
          have : T.data.toList.all isD = false := by
            rw [List.all_eq_false]
            exact ⟨T.data.toList[j], List.getElem_mem hl, by rw [he, hc, h]; decide⟩
          rw [this, Bool.false_and]
        by_cases h48 : (c.toNat : Int) < 48
        · have HF : Hid (false = b) := (hFail.out ((isD_false c).2 (by omega))).symm
          go_wp2_with fail
          go_ret
          exact ⟨ret_b HF.out, rfl⟩
        · by_cases h57 : (57 : Int) < (c.toNat : Int)
          · have HF : Hid (false = b) := (hFail.out ((isD_false c).2 (by omega))).symm
            go_wp2_with fail
            go_ret
            exact ⟨ret_b HF.out, rfl⟩
          · have hD : isD c = true := (isD_iff c).2 ⟨by omega, by omega⟩
            have HJ2 : Hid (∀ k (h : k < T.size), k < j + 1 → isD T[k] = true) := by
              intro k h hk
              by_cases hkj : k = j
              · subst hkj; rw [hc]; exact hD
              · exact HJ.out k h (by omega)
            go_wp2_with fail
            go_round
            case rel => exact ⟨j + 1, by omega, HJ2.out, by go_num⟩
            case measure => simp [intOf]; omega
      · have hall : T.data.toList.all isD = true := by
          rw [List.all_eq_true]
          intro x hx
          obtain ⟨k, hk, rfl⟩ := List.mem_iff_getElem.1 hx
          rw [len_list] at hk
          obtain ⟨hl, he⟩ := byte_list T k hk
          rw [he]
          exact HJ.out k hk (by omega)
        have HF : Hid ((decide (1 ≤ T.size) && decide (T.size ≤ 12)) = b) := by
          show _ = _
          rw [← HB.out, ← HT.out, hall, Bool.true_and, len_list]
        clear hall
        by_cases h1 : (1 : Int) ≤ (T.size : Int)
        · by_cases h12 : (T.size : Int) ≤ 12
          · have HG : Hid (true = b) := by show _ = _; rw [← HF.out, decide_eq_true (by omega), decide_eq_true (by omega)]; rfl
            go_wp2_with fail
            go_ret
            exact ⟨ret_b HG.out, rfl⟩
          · have HG : Hid (false = b) := by show _ = _; rw [← HF.out, decide_eq_false (p := T.size ≤ 12) (by omega), Bool.and_false]
            go_wp2_with fail
            go_ret
            exact ⟨ret_b HG.out, rfl⟩
        · have HG : Hid (false = b) := by show _ = _; rw [← HF.out, decide_eq_false (p := 1 ≤ T.size) (by omega), Bool.false_and]
          go_wp2_with fail
          go_ret
          exact ⟨ret_b HG.out, rfl⟩
end Go.Proofs.YtecpmnkgikcpnaaDoor.XW
