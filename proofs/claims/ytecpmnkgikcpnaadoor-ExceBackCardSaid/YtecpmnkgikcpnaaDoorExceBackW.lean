/-
  Proved: for every string and slices of integers, what exce.Text tells of the commands that exce.Parse reads is read as the same commands, and more empty lines and carriage returns change none (heliographlaw19.ExceBack returns true). Conditions: the row's own (the package-level tables read as the program's text lays them, tied by the card).
-/
import Derived.Test.YtecpmnkgikcpnaaDoorXwP
import Derived.Test.YtecpmnkgikcpnaaDoorXwQ
import Derived.Test.YtecpmnkgikcpnaaDoorBits
import Derived.ProofKit
set_option linter.unusedVariables false
namespace Go.Proofs.YtecpmnkgikcpnaaDoor.ExceBack
open Go.ChangeShapes Go.WideShapes Go.ChangeAt Go.WideMaps Go.WideElems Go.RowKit
open Go.ChangeMaps (open_string)
open Go.Proofs.YtecpmnkgikcpnaaDoor.Dp Go.Proofs.YtecpmnkgikcpnaaDoor.Base Go.Proofs.YtecpmnkgikcpnaaDoor.Xp Go.Proofs.YtecpmnkgikcpnaaDoor.XW

theorem ins_step (f : Nat → Bool) (s : List UInt8) (j : Nat) (h : j < s.length) : insV f j (s.drop j) = s[j] :: ((if s[j] = 10 ∧ f j = true then [10, 13, 10] else []) ++ insV f (j + 1) (s.drop (j + 1))) := by
  rw [List.drop_eq_getElem_cons h]; rfl
theorem one_list (s : ByteArray) (j : Nat) (h : j < s.size) : (s.extract j (j + 1)).data.toList = [s[j]] := by
  obtain ⟨hl, hc⟩ := byte_list s j h
  rw [sub_list, List.drop_take, show j + 1 - j = 1 by omega, List.drop_eq_getElem_cons hl, hc]
  rfl
/-- What the statement asks of the third argument. -/
def fAt (at0 : List Int) (k : Nat) : Bool := decide (k < at0.length) && (bits .and .i64 (at0.getD k 0) 1 == 1)

set_option maxRecDepth 100000 in
set_option maxHeartbeats 32000000 in
theorem walk (S0 : ByteArray) (hs0 : S0.size ≤ maxLen) (lp : Option Addr) (lc : Nat) (l : List Int) (hl : l.length ≤ lc) (hlc : lc ≤ maxLen) (ap : Option Addr) (ac : Nat) (at0 : List Int) (ha : at0.length ≤ ac) (hac : ac ≤ maxLen) (w : World) (hL : Zs .i64 w lp l) (hA : Zs .i64 w ap at0) (hT : Tab w) (hM : MaxIs w) :
    Calls Tryd.prog 5 #[.string S0, .slice lp l.length lc, .slice ap at0.length ac] w fun e w' => e = .returned (.bool true) ∧ Below w.heap.size w w' := by
  have HT := Lib.hid hT
  have HM := Lib.hid hM
  have HL := Lib.hid hL
  have HA := Lib.hid hA
  have hlH := Lib.hid hl
  have hlcH := Lib.hid hlc
  unfold maxLen at hac hs0
  have hal : at0.length ≤ 9223372036854775807 := by omega
  clear hT hM hL hA hl hlc ha hac
  by_cases h6 : (600 : Int) < (S0.size : Int)
  · go_enter Tryd.func5, Tryd.ntmps5
    go_wp2_with fail
    refine (awake_c w HT HM).mono ?_
    rintro en w1 ⟨rfl, hb1⟩
    go_wp2_with fail
    go_ret
    exact ⟨rfl, hb1⟩
  · have h6n : S0.size ≤ 2800 := by omega
    go_enter Tryd.func5, Tryd.ntmps5
    go_upto_region 4 with fail
    go_loopw [0, 7] (fun s i wr => ∃ (S : ByteArray) (j : Nat), s = .string S ∧ S.size ≤ 2800 ∧ j ≤ 2 ∧ i = .int .i64 j ∧ Hid (Below w.heap.size w wr)) (fun _ i _ => 2 - (intOf i).toNat)
    case atStart => exact ⟨S0, 0, rfl, h6n, by omega, rfl, Below.refl _ _⟩
    case round =>
    obtain ⟨S, j, rfl, hS, hj, rfl, HB⟩ := hrel
    rename_i wr
    clear h6 h6n hs0
    by_cases hlt : (j : Int) < 2
    · obtain ⟨a, k, e, hp⟩ : ∃ a k e, parseX S.data.toList = (a, k, e) := ⟨_, _, _, rfl⟩
      have hSl : S.data.toList.length ≤ 2800 := by rw [len_list]; exact hS
      have HP := Lib.hid hp
      have HM1 := Lib.hid (HM.out.below HB.out)
      have hall := parse_all hp
      have han : a.length ≤ 10000000 := by omega
      have HF : Hid (∀ x ∈ a, Fits x.2) := fun x hx => fits_okd (hall.1 x hx) (by omega)
      have HNM : Hid (∀ x ∈ a, x.2.nums.length ≤ 1000000000) := fun x hx => Nat.le_trans (hall.1 x hx).nums (by decide)
      clear hall hp
      go_wp2_with fail
      refine (parse_c S (by unfold maxLen; omega) wr HM1 a k e HP).mono ?_
      rintro en w1 ⟨v, rfl, hps⟩
      obtain ⟨p, c, rfl, hd⟩ := hps.reads
      have HB1 := Lib.hid (HB.out.trans (hps.bel.mono HB.out.size))
      have HD1 := Lib.hid hd
      clear hps hd
      by_cases he : e = 0
      · subst he
        obtain ⟨t, ht1, ht2, m, hm1, hm2⟩ := back_plain HP.out (by omega)
        obtain ⟨T, hTl⟩ := str_ex t
        have hTz : T.size ≤ 840000 := by rw [← len_list, hTl]; exact ht2
        have HTX : Hid ((textX (a.map Prod.snd)).getD [] = T.data.toList ∧ (textX (a.map Prod.snd)).isSome = true) := by
          show _ ∧ _
          rw [ht1, hTl]; exact ⟨rfl, rfl⟩
        have HPM : Hid (parseX T.data.toList = (m, 0, 0)) := by show _ = _; rw [hTl]; exact hm1
        have HSM : Hid (decide (a.map Prod.snd = m.map Prod.snd) = true) := decide_eq_true hm2.symm
        have hmn : m.length ≤ 10000000 := by
          have := congrArg List.length hm2
          simp only [List.length_map] at this
          omega
        obtain ⟨q, hq1, hq2⟩ := ins_plain HP.out (by omega) (fAt at0)
        have HPQ : Hid (parseX (insV (fAt at0) 0 S.data.toList) = (q, 0, 0)) := hq1
        have HSQ : Hid (decide (a.map Prod.snd = q.map Prod.snd) = true) := decide_eq_true hq2.symm
        have hqn : q.length ≤ 10000000 := by
          have := congrArg List.length hq2
          simp only [List.length_map] at this
          omega
        clear ht1 ht2 hm1 hm2 hTl hq1 hq2
        have HT1 := Lib.hid (HT.out.below HB1.out)
        go_wp2_with fail
        refine (text_c wr.heap.size p a c han HF w1 HT1 HD1 T true HTX).mono ?_
        rintro en w2 ⟨rfl, hb2⟩
        have HB2 := Lib.hid (HB1.out.trans (hb2.mono HB1.out.size))
        have HD2 := Lib.hid (HD1.out.below hb2)
        have HM2 := Lib.hid (HM.out.below HB2.out)
        clear hb2 HT1 HTX HF
        go_wp2_with fail
        refine (parse_c T (by unfold maxLen; omega) w2 HM2 m 0 0 HPM).mono ?_
        rintro en w3 ⟨v3, rfl, hps⟩
        obtain ⟨p3, c3, rfl, hd⟩ := hps.reads
        have HB3 := Lib.hid (HB2.out.trans (hps.bel.mono HB2.out.size))
        have HD3 := Lib.hid (HD2.out.below hps.bel)
        have HE3 := Lib.hid hd
        clear hps hd HD1 HD2 HM2
        go_wp2_with fail
        refine (Same_c wr.heap.size w2.heap.size p p3 a m c c3 han hmn HNM w3 HD3 HE3 true HSM).mono ?_
        rintro en w4 ⟨rfl, hb4⟩
        have HB4 := Lib.hid (HB3.out.trans (hb4.mono HB3.out.size))
        have HD4 := Lib.hid (HD3.out.below hb4)
        clear hb4 HD3 HE3
        go_upto_region 14 with fail
        have hA4 := Lib.hid (HA.out.below HB4.out)
        go_loop [16, 17] (fun u i => ∃ (U : ByteArray) (x : Nat), x ≤ S.size ∧ u = .string U ∧ i = .int .i64 x ∧ U.size ≤ 4 * x ∧ Hid (U.data.toList ++ insV (fAt at0) x (S.data.toList.drop x) = insV (fAt at0) 0 S.data.toList)) (fun _ i => S.size - (intOf i).toNat)
        case atStart => exact ⟨⟨#[]⟩, 0, Nat.zero_le _, rfl, rfl, Nat.le_refl _, rfl⟩
        case round =>
          obtain ⟨U, x, hx, rfl, rfl, hU, HU⟩ := hrel
          by_cases hxl : x < S.size
          · have hxi : (x : Int) < (S.size : Int) := by omega
            obtain ⟨y, hy⟩ : ∃ y, S[x] = y := ⟨_, rfl⟩
            obtain ⟨hl2, hcl⟩ := byte_list S x hxl
            rw [hy] at hcl
            obtain ⟨Y, hY⟩ : ∃ Y, S.extract x (x + 1) = Y := ⟨_, rfl⟩
            have hYl : Y.data.toList = [y] := by rw [← hY, one_list S x hxl, hy]
            have hYz : Y.size = 1 := by rw [← len_list, hYl]; rfl
            have HST : Hid (U.data.toList ++ (y :: ((if y = 10 ∧ fAt at0 x = true then [10, 13, 10] else []) ++ insV (fAt at0) (x + 1) (S.data.toList.drop (x + 1)))) = insV (fAt at0) 0 S.data.toList) := by
              show _ = _
              rw [← HU.out, ins_step _ _ _ hl2, hcl]
            have HYL := Lib.hid hYl
            have z1 : ¬ 9223372036854775807 < U.size + Y.size := by omega
            have z2 : ¬ 9223372036854775807 < U.size + Y.size + 3 := by omega
            clear hl2 hcl HU hYl
            by_cases h10 : y = 10
            · subst h10
              have hci : ((10 : UInt8).toNat : Int) = 10 := rfl
              by_cases hxa : x < at0.length
              · have hxai : (x : Int) < (at0.length : Int) := by omega
                obtain ⟨b, o, rfl, hb, hcell⟩ := hA4.out (by omega)
                have hcx := hcell x hxa
                obtain ⟨z, hz⟩ : ∃ z, at0[x] = z := ⟨_, rfl⟩
                rw [hz] at hcx
                obtain ⟨n, hn⟩ : ∃ n, bits .and .i64 z 1 = n := ⟨_, rfl⟩
                have hfa : fAt at0 x = (n == 1) := by
                  unfold fAt
                  rw [decide_eq_true hxa, Bool.true_and, ← hn, ← hz]
                  simp [List.getD, hxa]
                clear hcell hz
                by_cases hn1 : n = 1
                · subst hn1
                  have HST2 : Hid ((U.data.toList ++ Y.data.toList ++ [10, 13, 10]) ++ insV (fAt at0) (x + 1) (S.data.toList.drop (x + 1)) = insV (fAt at0) 0 S.data.toList) := by
                    show _ = _
                    rw [← HST.out, if_pos ⟨rfl, by rw [hfa]; rfl⟩, HYL.out]
                    simp
                  clear hfa HST
                  go_wp2_with fail
                  go_round <;> first | exact ⟨_, x + 1, by omega, rfl, by go_num, by simp only [ByteArray.size_append]; show U.size + Y.size + 3 ≤ _; omega, HST2.out⟩ | (simp [intOf] <;> omega)
                · have hnb : (n == 1) = false := by rw [beq_eq_false_iff_ne]; exact hn1
                  have HST2 : Hid ((U.data.toList ++ Y.data.toList) ++ insV (fAt at0) (x + 1) (S.data.toList.drop (x + 1)) = insV (fAt at0) 0 S.data.toList) := by
                    show _ = _
                    rw [← HST.out, if_neg (by rw [hfa, hnb]; simp), HYL.out]
                    simp
                  clear HST hfa
                  go_wp2_with fail
                  go_round <;> first | exact ⟨_, x + 1, by omega, rfl, by go_num, by simp only [ByteArray.size_append]; show U.size + Y.size ≤ _; omega, HST2.out⟩ | (simp [intOf] <;> omega)
              · have hxai : ¬ ((x : Int) < (at0.length : Int)) := by omega
                have HST2 : Hid ((U.data.toList ++ Y.data.toList) ++ insV (fAt at0) (x + 1) (S.data.toList.drop (x + 1)) = insV (fAt at0) 0 S.data.toList) := by
                  show _ = _
                  rw [← HST.out, if_neg (by unfold fAt; rw [decide_eq_false hxa]; simp), HYL.out]
                  simp
                clear HST
                go_wp2_with fail
                go_round <;> first | exact ⟨_, x + 1, by omega, rfl, by go_num, by simp only [ByteArray.size_append]; show U.size + Y.size ≤ _; omega, HST2.out⟩ | (simp [intOf] <;> omega)
            · have g10 : ((y.toNat : Int) == 10) = false := by rw [beq_eq_false_iff_ne]; intro e; exact h10 (UInt8.toNat_inj.1 (by show y.toNat = 10; omega))
              have HST2 : Hid ((U.data.toList ++ Y.data.toList) ++ insV (fAt at0) (x + 1) (S.data.toList.drop (x + 1)) = insV (fAt at0) 0 S.data.toList) := by
                show _ = _
                rw [← HST.out, if_neg (by rintro ⟨h, _⟩; exact h10 h), HYL.out]
                simp
              clear HST
              go_wp2_with fail
              go_round <;> first | exact ⟨_, x + 1, by omega, rfl, by go_num, by simp only [ByteArray.size_append]; show U.size + Y.size ≤ _; omega, HST2.out⟩ | (simp [intOf] <;> omega)
          · have hxi : ¬ ((x : Int) < (S.size : Int)) := by omega
            have HUL : Hid (parseX U.data.toList = (q, 0, 0)) := by
              show _ = _
              rw [← HPQ.out, ← HU.out, List.drop_eq_nil_of_le (by rw [len_list]; omega)]
              simp [insV]
            have hUz : U.size ≤ 11200 := by omega
            have HM4 := Lib.hid (HM.out.below HB4.out)
            clear HU HPQ hU
            go_wp2_with fail
            refine (parse_c U (by unfold maxLen; omega) w4 HM4 q 0 0 HUL).mono ?_
            rintro en w5 ⟨v5, rfl, hps⟩
            obtain ⟨p5, c5, rfl, hd⟩ := hps.reads
            have HB5 := Lib.hid (HB4.out.trans (hps.bel.mono HB4.out.size))
            have HD5 := Lib.hid (HD4.out.below hps.bel)
            have HE5 := Lib.hid hd
            clear hps hd
            go_wp2_with fail
            refine (Same_c wr.heap.size w4.heap.size p p5 a q c c5 han hqn HNM w5 HD5 HE5 true HSQ).mono ?_
            rintro en w6 ⟨rfl, hb6⟩
            have HB6 := Lib.hid (HB5.out.trans (hb6.mono HB5.out.size))
            clear hb6 HD5 HE5
            go_wp2_with fail
            refine (file19_c lp l lc hlH.out hlcH.out true w6 (Lib.hid (HL.out.below HB6.out))).mono ?_
            rintro en wf ⟨⟨F, rfl, hFz⟩, hbf⟩
            have HBf := Lib.hid (HB6.out.trans (hbf.mono HB6.out.size))
            clear hbf
            go_wp2_with fail
            go_round <;> first | exact ⟨F, j + 1, rfl, hFz, by omega, by go_num, HBf.out⟩ | (simp [intOf] <;> omega)
      · have heb : ((e : Int) == 0) = false := by rw [beq_eq_false_iff_ne]; omega
        go_wp2_with fail
        refine (file19_c lp l lc hlH.out hlcH.out true w1 (Lib.hid (HL.out.below HB1.out))).mono ?_
        rintro en wf ⟨⟨F, rfl, hFz⟩, hbf⟩
        have HBf := Lib.hid (HB1.out.trans (hbf.mono HB1.out.size))
        clear hbf
        go_wp2_with fail
        go_round <;> first | exact ⟨F, j + 1, rfl, hFz, by omega, by go_num, HBf.out⟩ | (simp [intOf] <;> omega)
    · go_wp2_with fail
      refine (awake_c wr (Lib.hid (HT.out.below HB.out)) (Lib.hid (HM.out.below HB.out))).mono ?_
      rintro en w1 ⟨rfl, hb1⟩
      go_wp2_with fail
      go_ret
      exact ⟨rfl, HB.out.trans (hb1.mono HB.out.size)⟩
end Go.Proofs.YtecpmnkgikcpnaaDoor.ExceBack
