/-
  Proved: for every string, what Text writes of an expression's operations is read as the same operations, with more parentheses too, and every short expression is written (heliographlaw12.ExprBack returns true). Conditions: the row's own (the package-level tables read as the program's text lays them, tied by the card).
-/
import Derived.Test.YtkfjmcdfamhiaaaDoorExA
import Derived.Test.YtkfjmcdfamhiaaaDoorExS
import Derived.Deep.CutBlock
import Derived.ProofKit
namespace Go.Proofs.YtkfjmcdfamhiaaaDoor.ExprBack
open Go.ChangeShapes Go.WideShapes Go.ChangeAt Go.WideMaps Go.WideElems Go.RowKit
open Go.ChangeMaps (open_string)
open Go.Proofs.YtkfjmcdfamhiaaaDoor.Dp Go.Proofs.YtkfjmcdfamhiaaaDoor.Base Go.Proofs.YtkfjmcdfamhiaaaDoor.Ep Go.Proofs.YtkfjmcdfamhiaaaDoor.Fr Go.Proofs.YtkfjmcdfamhiaaaDoor.Tx Go.Proofs.YtkfjmcdfamhiaaaDoor.FrW Go.Proofs.YtkfjmcdfamhiaaaDoor.TxW Go.Proofs.YtkfjmcdfamhiaaaDoor.RdW Go.Proofs.YtkfjmcdfamhiaaaDoor.ExW

theorem n_empty : parseV [] = ([], 0, 3) := by decide +kernel
theorem n_par : parseV [40, 40, 41, 41] = ([], 2, 3) := by decide +kernel

set_option maxRecDepth 100000 in
set_option maxHeartbeats 1600000 in
theorem walk (s : ByteArray) (hs : s.size ≤ maxLen) (w : World) (hT : Tab w) :
    Calls Tryd.prog 4 #[.string s] w fun e w' => e = .returned (.bool true) ∧ Below w.heap.size w w' := by
  have HT := Lib.hid hT
  clear hT
  go_enter Tryd.func4, Tryd.ntmps4
  go_wp2_with fail
  go_loopw [0, 3] (fun s i wr => ∃ (S : ByteArray) (j : Nat), S.size ≤ maxLen ∧ j ≤ 2 ∧ s = .string S ∧ i = .int .i64 j ∧ Hid (Below w.heap.size w wr)) (fun _ i _ => 2 - (intOf i).toNat)
  case atStart => exact ⟨s, 0, hs, by decide, rfl, rfl, Below.refl _ _⟩
  case round =>
  obtain ⟨S, j, hS, hj, rfl, rfl, HB⟩ := hrel
  rename_i wr
  have HSM := Lib.hid hS
  unfold maxLen at hS
  by_cases hj2 : j < 2
  · have hji : ((j : Int) < 2) := by omega
    obtain ⟨l, a, e, hP⟩ : ∃ l a e, parseV S.data.toList = (l, a, e) := ⟨_, _, _, rfl⟩
    have HP : Hid (parseV S.data.toList = (l, a, e)) := hP
    clear hP
    go_wp2_with fail
    with_reducible refine (parse_w S HSM.out _ l a e HP).mono ?_
    intro en w1 h1
    obtain ⟨p, c, rfl, hp1, hb1⟩ := parse_p h1
    have HP1 := Lib.hid hp1
    have HB1 := Lib.hid (HB.out.trans (hb1.mono HB.out.size))
    clear h1 hp1 hb1
    go_upto_if 26 with fail
    go_cut [] (fun wx => Hid (Below w.heap.size w wx))
    case first =>
      by_cases he : e = 0
      · subst he
        have hbt := back_text HP.out
        have HF := Lib.hid hbt.1
        have hl3 := hbt.2.1
        have te : (((0 : Nat) : Int) == 0) = true := rfl
        cases hx : textV l with
        | none =>
          have hlong : ¬ ((S.size : Int) ≤ 100) := by have := hbt.2.2.2 hx; rw [len_list] at this; omega
          have HX : Hid (textOut (textV l) = (⟨#[]⟩, false)) := by show _ = _; rw [hx]; rfl
          have HN : Hid (parseV (⟨#[]⟩ : ByteArray).data.toList = ([], 0, 3)) := n_empty
          have HN2 : Hid (parseV ((⟨#[40, 40]⟩ : ByteArray) ++ ⟨#[]⟩ ++ ⟨#[41, 41]⟩).data.toList = ([], 2, 3)) := n_par
          clear hbt hx
          go_wp2_with fail
          with_reducible refine (text_w p l c hl3 _ HP1 (Lib.hid (HT.out.below HB1.out)) HF _ false HX).mono ?_
          rintro en w2 ⟨rfl, hb2⟩
          have HB2 := Lib.hid (HB1.out.trans (hb2.mono HB1.out.size))
          clear hb2
          go_wp2_with fail
          with_reducible refine (parse_w _ (by decide) _ [] 0 3 HN).mono ?_
          intro en w3 h3
          obtain ⟨p3, c3, rfl, hp3, hb3⟩ := parse_p h3
          have HB3 := Lib.hid (HB2.out.trans (hb3.mono HB2.out.size))
          clear h3 hp3 hb3
          go_wp2_with fail
          refine (parse_w _ (by decide) _ [] 2 3 HN2).mono ?_
          intro en w4 h4
          obtain ⟨p4, c4, rfl, hp4, hb4⟩ := parse_p h4
          have HB4 := Lib.hid (HB3.out.trans (hb4.mono HB3.out.size))
          clear h4 hp4 hb4
          go_wp2_with fail
          go_meet
          exact HB4.out
        | some x =>
          obtain ⟨hpx, hx3⟩ := hbt.2.2.1 x hx
          obtain ⟨X, hX⟩ := str_ex x
          have hXs : X.size ≤ 300 := by rw [← len_list, hX]; exact hx3
          have HX : Hid (textOut (textV l) = (X, true)) := by
            show _ = _
            rw [hx]
            show ((⟨x.toArray⟩ : ByteArray), true) = _
            rw [← hX, pc_eta]
          have HPX : Hid (parseV X.data.toList = (l, 0, 0)) := by show _ = _; rw [hX]; exact hpx
          clear hbt hx hpx hx3 hX
          go_wp2_with fail
          with_reducible refine (text_w p l c hl3 _ HP1 (Lib.hid (HT.out.below HB1.out)) HF X true HX).mono ?_
          rintro en w2 ⟨rfl, hb2⟩
          have HP2 := Lib.hid (HP1.out.below hb2)
          have HB2 := Lib.hid (HB1.out.trans (hb2.mono HB1.out.size))
          clear hb2 HP1 HB1
          go_wp2_with fail
          with_reducible refine (parse_w X (by unfold maxLen; omega) _ l 0 0 HPX).mono ?_
          intro en w3 h3
          obtain ⟨p3, c3, rfl, hp3, hb3⟩ := parse_p h3
          have HP3 := Lib.hid (HP2.out.below hb3)
          have HQ3 := Lib.hid hp3
          have HB3 := Lib.hid (HB2.out.trans (hb3.mono HB2.out.size))
          clear h3 hp3 hb3 HP2 HB2
          go_wp2_with fail
          with_reducible refine (same_c p p3 l c c3 hl3 _ HP3 HQ3).mono ?_
          rintro en w4 ⟨rfl, n4, rfl⟩
          have HP4 : Hid (PairsIn (w3.drewN n4) p l) := HP3.out
          have HB4 : Hid (Below w.heap.size w (w3.drewN n4)) := below_drewN HB3.out n4
          clear HP3 HB3 HQ3
          generalize w3.drewN n4 = w4 at HP4 HB4 ⊢
          by_cases h200 : ((X.size : Int) < 200)
          · obtain ⟨m, b, e5, hM⟩ : ∃ m b e, parseV ((⟨#[40, 40]⟩ : ByteArray) ++ X ++ ⟨#[41, 41]⟩).data.toList = (m, b, e) := ⟨_, _, _, rfl⟩
            have HM : Hid (parseV ((⟨#[40, 40]⟩ : ByteArray) ++ X ++ ⟨#[41, 41]⟩).data.toList = (m, b, e5)) := hM
            have HE : Hid (e5 = 0 → m = l) := by
              intro h5
              subst h5
              refine (back_par HPX.out (b := b) ?_).symm
              rw [← hM, app_list, app_list]
              simp
            have hsz : ((⟨#[40, 40]⟩ : ByteArray) ++ X ++ ⟨#[41, 41]⟩).size ≤ maxLen := by
              rw [ByteArray.size_append, ByteArray.size_append]
              show 2 + X.size + 2 ≤ _
              unfold maxLen; omega
            clear hM
            go_wp2_with fail
            with_reducible refine (parse_w _ hsz _ m b e5 HM).mono ?_
            intro en w5 h5
            obtain ⟨p5, c5, rfl, hp5, hb5⟩ := parse_p h5
            have HP5 := Lib.hid (HP4.out.below hb5)
            have HQ5 := Lib.hid hp5
            have HB5 := Lib.hid (HB4.out.trans (hb5.mono HB4.out.size))
            clear h5 hp5 hb5 HP4 HB4
            by_cases h0 : e5 = 0
            · obtain rfl := HE.out h0
              subst h0
              go_wp2_with fail
              with_reducible refine (same_c p p5 m c c5 hl3 _ HP5 HQ5).mono ?_
              rintro en w6 ⟨rfl, n6, rfl⟩
              go_wp2_with fail
              go_meet
              exact below_drewN HB5.out n6
            · have te5 : ((e5 : Int) == 0) = false := by simp; omega
              go_wp2_with fail
              go_meet
              exact HB5.out
          · go_wp2_with fail
            go_meet
            exact HB4.out
      · have te : ((e : Int) == 0) = false := by simp; omega
        go_wp2_with fail
        go_meet
        exact HB1.out
    case rest =>
    have HB2 := hcut
    clear hcut HP1 HB1 HP
    go_wp2_with fail
    with_reducible refine (tame_c S _).mono ?_
    rintro en w2 ⟨⟨T, rfl, hT2⟩, hb2⟩
    have HB3 := Lib.hid (HB2.out.trans (hb2.mono HB2.out.size))
    clear HB2 hb2
    go_wp2_with fail
    go_round <;> first | exact ⟨T, j + 1, by unfold maxLen; omega, by omega, rfl, by go_num, HB3.out⟩ | (simp [intOf] <;> omega)
  · have hji : ¬ ((j : Int) < 2) := by omega
    go_wp2_with fail
    with_reducible refine (awake_any _ (HT.out.below HB.out)).mono ?_
    rintro en w1 ⟨rfl, hb1⟩
    go_wp2_with fail
    go_ret
    exact ⟨rfl, HB.out.trans (hb1.mono HB.out.size)⟩
end Go.Proofs.YtkfjmcdfamhiaaaDoor.ExprBack
