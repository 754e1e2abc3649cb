/-
  The walk of word's take.
-/
import Derived.Test.YtglmofeeggjemaaGreatDoorGb
set_option linter.unusedVariables false
namespace Go.Proofs.YtglmofeeggjemaaGreatDoor.GW
open Go.RowKit Go.Proofs.YtglmofeeggjemaaGreatDoor.Base Go.Proofs.YtglmofeeggjemaaGreatDoor.Dp Go.Proofs.YtglmofeeggjemaaGreatDoor.DeciW Go.Proofs.YtglmofeeggjemaaGreatDoor.Mem Go.Proofs.YtglmofeeggjemaaGreatDoor.RdW Go.Proofs.YtglmofeeggjemaaGreatDoor.Gp

theorem wf_add {s : Ws} (h : Wf s) (hn : s.words.length < 20000) (ht : s.text.length < 10000) (a : Nat) (c : UInt8) : Wf { s with text := s.text ++ [c], a := a } :=
  ⟨h.n0, fun _ => hn, by simp; omega, h.n4⟩

set_option maxRecDepth 100000 in
set_option maxHeartbeats 6400000 in
theorem take_c (B R : Nat) (s : Ws) (vw vt : Value) (w : World) (hB : B ≤ w.heap.size) (H : Hid (Rw B R vw vt s w)) (hf : Wf s) (c : UInt8) (x : Int) (hx : Hid ((c.toNat : Int) = x)) (i : Nat) (hi : i ≤ 1000000) (res : Except Nat Ws) (hres : Hid (takeW s c i = res)) :
    Calls Tryz.prog 18 #[.pointer (some ⟨R, 0, none⟩), .int .u8 x, .int .i64 (i : Int)] w (TOut B R w res) := by
  have HBB := Lib.hid hB
  have HF := Lib.hid hf
  clear hf
  have hc256 := c.toNat_lt
  have hxx := hx.out
  obtain ⟨c0, c1, c2, c3, c4⟩ := H.out.cells
  have hfz := H.out.fz
  obtain ⟨p, cap, rfl, hrd, hln⟩ := row_reads H.out.tx
  obtain ⟨pw, capw, rfl⟩ := row_form H.out.ws
  clear hrd hln
  have hl := hres.out
  unfold takeW at hl
  clear hres
  by_cases h13 : c = 13 ∨ c = 10
  · rw [if_pos h13] at hl
    have HR := Lib.hid hl
    have HE : Hid (Wf s ∧ ∃ vw vt, Rw B R vw vt s w) := ⟨HF.out, _, _, H.out⟩
    clear hl
    have hx0 : x = 13 ∨ x = 10 := by
      rcases h13 with rfl | rfl
      · exact .inl (by rw [← hxx]; rfl)
      · exact .inr (by rw [← hxx]; rfl)
    clear h13 hxx hx hc256
    rcases hx0 with rfl | rfl
    all_goals
      go_enter Tryz.func18, Tryz.ntmps18
      go_wp2_with fail
      go_ret
      rw [← HR.out]
      exact ⟨Below.refl _ _, rfl, HE.out⟩
  · rw [if_neg h13] at hl
    have e13 : (x == 13) = false := by
      rw [Bool.eq_false_iff]; intro h; apply h13; left; apply UInt8.toNat.inj; have : x = 13 := by simpa using h
      show c.toNat = 13; omega
    have e10 : (x == 10) = false := by
      rw [Bool.eq_false_iff]; intro h; apply h13; right; apply UInt8.toNat.inj; have : x = 10 := by simpa using h
      show c.toNat = 10; omega
    by_cases h32 : c.toNat < 32 ∨ 126 < c.toNat
    · rw [if_pos h32] at hl
      have HR := Lib.hid hl
      clear hl
      by_cases h1 : x < 32
      · clear h32 h13 hxx hx hc256
        go_enter Tryz.func18, Tryz.ntmps18
        go_wp2_with fail
        go_ret
        rw [← HR.out]
        exact ⟨Below.refl _ _, rfl⟩
      · have h2 : 126 < x := by omega
        clear h32 h13 hxx hx hc256
        go_enter Tryz.func18, Tryz.ntmps18
        go_wp2_with fail
        go_ret
        rw [← HR.out]
        exact ⟨Below.refl _ _, rfl⟩
    · rw [if_neg h32] at hl
      have h1 : 32 ≤ x := by omega
      have h2 : x ≤ 126 := by omega
      by_cases h42 : c = 42
      · rw [if_pos h42] at hl
        have HR := Lib.hid hl
        have hx0 : x = 42 := by rw [← hxx, h42]; rfl
        subst hx0
        clear hl h42 h32 h13 hxx hx hc256 e13 e10 h1 h2 c0 c1 c2 c3 c4 hfz
        go_enter Tryz.func18, Tryz.ntmps18
        go_wp2_with fail
        with_reducible refine (end_c B R s _ _ w HBB.out H HF.out res HR).mono ?_
        rintro e w2 ⟨hb, hr⟩
        cases res with
        | error k =>
          obtain rfl := hr
          have HB2 := Lib.hid hb
          clear hb
          go_wp2_with fail
          go_ret
          exact ⟨HB2.out, rfl⟩
        | ok s' =>
          obtain ⟨rfl, hr⟩ := hr
          have HB2 := Lib.hid (And.intro hb hr)
          clear hb hr
          go_wp2_with fail
          go_ret
          exact ⟨HB2.out.1, rfl, HB2.out.2⟩
      · rw [if_neg h42] at hl
        have e42 : (x == 42) = false := by
          rw [Bool.eq_false_iff]; intro h; apply h42; apply UInt8.toNat.inj; have : x = 42 := by simpa using h
          show c.toNat = 42; omega
        by_cases h37 : c = 37
        · rw [if_pos h37] at hl
          have hx0 : x = 37 := by rw [← hxx, h37]; rfl
          subst hx0
          clear h37 h42 h32 h13 hxx hx hc256 e13 e10 e42 h1 h2
          by_cases hbad : s.text ≠ [] ∨ (s.group = true ∧ s.inner = 0)
          · rw [if_pos hbad] at hl
            have HR := Lib.hid hl
            clear hl
            by_cases ht : s.text.length = 0
            · have hg : s.group = true ∧ s.inner = 0 := hbad.resolve_left (fun h => h (List.eq_nil_of_length_eq_zero ht))
              rw [hg.1] at c3
              rw [hg.2] at c4
              rw [ht] at c1
              clear hbad hg ht
              go_enter Tryz.func18, Tryz.ntmps18
              go_wp2_with fail
              go_ret
              rw [← HR.out]
              exact ⟨Below.refl _ _, rfl⟩
            · have hpos : 0 < s.text.length := by omega
              clear hbad ht
              go_enter Tryz.func18, Tryz.ntmps18
              go_wp2_with fail
              go_ret
              rw [← HR.out]
              exact ⟨Below.refl _ _, rfl⟩
          · rw [if_neg hbad] at hl
            have HR := Lib.hid hl
            have ht : s.text = [] := Classical.byContradiction fun h => hbad (.inl h)
            have ht0 : s.text.length = 0 := by rw [ht]; rfl
            have hgi : s.group = false ∨ ¬ s.inner = 0 := by
              cases hg : s.group with
              | false => exact .inl rfl
              | true => exact .inr fun h => hbad (.inr ⟨hg, h⟩)
            rw [ht0] at c1
            have HE1 : Hid (Rw B R (.slice pw s.words.length capw) (.slice p s.text.length cap) { s with group := !s.group } (w.setCell ⟨R, 3, none⟩ (.bool (!s.group)))) := H.out.turn _
            have HB1 : Hid (Below B w (w.setCell ⟨R, 3, none⟩ (.bool (!s.group)))) := (Below.refl _ _).setCell (p := ⟨R, 3, none⟩) H.out.ge _
            have HE2 : Hid (Rw B R (.slice pw s.words.length capw) (.slice p s.text.length cap) { s with group := !s.group, inner := 0 } ((w.setCell ⟨R, 3, none⟩ (.bool (!s.group))).setCell ⟨R, 4, none⟩ (.int .i64 0))) := HE1.out.inn 0 0 rfl
            have HB2 : Hid (Below B w ((w.setCell ⟨R, 3, none⟩ (.bool (!s.group))).setCell ⟨R, 4, none⟩ (.int .i64 0))) := HB1.out.setCell (p := ⟨R, 4, none⟩) H.out.ge _
            have HW : Hid (Wf { s with group := !s.group, inner := 0 }) := ⟨HF.out.n0, HF.out.n1, HF.out.n2, Nat.zero_le _⟩
            clear hl hbad ht ht0
            have q4 : (w.setCell ⟨R, 3, none⟩ (.bool (!s.group))).cell? ⟨R, 4, none⟩ = _ := HE1.out.cells.2.2.2.2
            have f4 : (w.setCell ⟨R, 3, none⟩ (.bool (!s.group))).frozen? ⟨R, 4, none⟩ = _ := HE1.out.fz 4
            rcases hgi with hg | hi0
            · generalize hgg : (!s.group) = ng at HR HE1 HB1 HE2 HB2 HW q4 f4
              have hng : ng = true := by rw [← hgg, hg]; rfl
              clear hgg
              rw [hg] at c3
              subst hng
              clear hg
              go_enter Tryz.func18, Tryz.ntmps18
              go_wp2_with fail
              go_ret
              rw [← HR.out]
              exact ⟨HB2.out, rfl, HW.out, _, _, HE2.out⟩
            · have hi1 : ((s.inner : Int) == 0) = false := by simp; omega
              clear hi0
              go_enter Tryz.func18, Tryz.ntmps18
              generalize hgg : s.group = g0 at c3 HR HE1 HB1 HE2 HB2 HW q4 f4
              clear hgg
              cases g0
              all_goals
                go_wp2_with fail
                go_ret
                rw [← HR.out]
                exact ⟨HB2.out, rfl, HW.out, _, _, HE2.out⟩
        · rw [if_neg h37] at hl
          have e37 : (x == 37) = false := by
            rw [Bool.eq_false_iff]; intro h; apply h37; apply UInt8.toNat.inj; have : x = 37 := by simpa using h
            show c.toNat = 37; omega
          --TAIL
          clear h37 h42 h32 h13 hc256
          by_cases ht : s.text = []
          · rw [if_pos ht] at hl
            have ht0 : s.text.length = 0 := by rw [ht]; rfl
            have HT := Lib.hid ht
            rw [ht0] at c1
            by_cases hw : s.words.length = 20000
            · rw [if_pos hw] at hl
              have HR := Lib.hid hl
              rw [hw] at c0
              clear hl ht ht0 hw hxx
              go_enter Tryz.func18, Tryz.ntmps18
              go_wp2_with fail
              go_ret
              rw [← HR.out]
              exact ⟨Below.refl _ _, rfl⟩
            · rw [if_neg hw] at hl
              unfold addW at hl
              rw [if_neg (show ¬ ({ s with a := i } : Ws).text.length = 10000 by show ¬ s.text.length = 10000; rw [ht0]; omega)] at hl
              have HR := Lib.hid hl
              have hw1 : ((s.words.length : Int) == 20000) = false := by simp; omega
              have HW20 : Hid (s.words.length < 20000) := by show _ < _; have := HF.out.n0; omega
              have hM := H.out.at i
              rw [ht0] at hM
              have HM : Hid (Rw B R (.slice pw s.words.length capw) (.slice p 0 cap) { s with a := i } (w.setCell ⟨R, 2, none⟩ (.int .i64 (i : Int)))) := hM
              have HB1 : Hid (Below B w (w.setCell ⟨R, 2, none⟩ (.int .i64 (i : Int)))) := (Below.refl _ _).setCell (p := ⟨R, 2, none⟩) H.out.ge _
              have HL : Hid (s.text.length = 0) := ht0
              clear hl hw hM ht0 hxx ht
              go_enter Tryz.func18, Tryz.ntmps18
              go_upto_region 17 with fail
              obtain ⟨_, d1, _⟩ := HM.out.cells
              have TX := Lib.hid (row_clear (H.out.at i).tx)
              generalize w.setCell ⟨R, 2, none⟩ (.int .i64 (i : Int)) = W1 at HM HB1 TX d1 ⊢
              obtain ⟨i0, hi0, hz0, hz1, hz2⟩ := info_parts info_u8
              have HI := Lib.hid (And.intro hi0 (And.intro hz0 (And.intro hz1 hz2)))
              clear hi0 hz0 hz1 hz2
              go_wp2_with (at_builtin; refine wpList_append_own _ rfl _ _ _ rfl B 5 i0 (.int .u8 0) 1 1 Tryz.underlying49 HI.out.1 HI.out.2.1 HI.out.2.2.1 HI.out.2.2.2 rfl (by omega) (.slice p 0 cap) 0 ([]) (by rfl) (TX.out.alloc _) ⟨(W1).heap.size, 0, none⟩ 1 1 [.int .u8 x] (by rfl) rfl (World.news_of_block (heap_alloc_new (W1) _)) (by simp [Value.oneCell']) (by unfold maxLen; omega) (by omega) (by have := HBB.out; have := HB1.out.size; simp <;> omega) ?_; intro v' w' hown' hgrow' hnn'; obtain ⟨g', cap', rfl, _, _⟩ := hown'.form (by omega); rw [← hx.out] at hown'; obtain ⟨hr', hb', ho'⟩ := HM.out.add (c := c) (v' := .slice (some ⟨g', 0, none⟩) (0 + 1) cap') ((Below.refl _ _).alloc (Nat.le_refl _) _) hgrow' (by rw [HT.out]; exact hown') (Nat.le_trans HBB.out HB1.out.size); have HR' := Lib.hid (And.intro hr' (HB1.out.trans hb')); have c1' : w'.cell? ⟨R, 1, none⟩ = some _ := cell_of_row w' R 1 _ _ (0, 0) ho'; have f1' : w'.frozen? ⟨R, 1, none⟩ = false := (by simp [World.frozen?, ho']); clear hr' hb' ho' hown' hgrow' hnn')
              go_ret
              rw [← HR.out]
              exact ⟨HR'.out.2, rfl, wf_add HF.out HW20.out (by have := HL.out; omega) i c, _, _, HR'.out.1⟩
          · rw [if_neg ht] at hl
            have hpos : ((s.text.length : Int) == 0) = false := by have := List.length_pos_iff.2 ht; simp; omega
            have HT := Lib.hid ht
            unfold addW at hl
            by_cases hn : s.text.length = 10000
            · rw [if_pos hn] at hl
              have HR := Lib.hid hl
              rw [hn] at c1
              clear hl hn ht hpos hxx
              go_enter Tryz.func18, Tryz.ntmps18
              go_wp2_with fail
              go_ret
              rw [← HR.out]
              exact ⟨Below.refl _ _, rfl⟩
            · rw [if_neg hn] at hl
              have HR := Lib.hid hl
              have hn1 : ((s.text.length : Int) == 10000) = false := by simp; omega
              have hn2 : s.text.length < 10000 := by have := HF.out.n2; omega
              have HM : Hid (Rw B R (.slice pw s.words.length capw) (.slice p s.text.length cap) s w) := H.out
              have HB1 : Hid (Below B w w) := Below.refl _ _
              have TX := Lib.hid H.out.tx
              clear hl hn ht hxx
              go_enter Tryz.func18, Tryz.ntmps18
              obtain ⟨i0, hi0, hz0, hz1, hz2⟩ := info_parts info_u8
              have HI := Lib.hid (And.intro hi0 (And.intro hz0 (And.intro hz1 hz2)))
              clear hi0 hz0 hz1 hz2
              go_wp2_with (at_builtin; refine wpList_append_own _ rfl _ _ _ rfl B 5 i0 (.int .u8 0) 1 1 Tryz.underlying49 HI.out.1 HI.out.2.1 HI.out.2.2.1 HI.out.2.2.2 rfl (by omega) (.slice p s.text.length cap) s.text.length (byteVs s.text) (by rfl) (TX.out.alloc _) ⟨(w).heap.size, 0, none⟩ 1 1 [.int .u8 x] (by rfl) rfl (World.news_of_block (heap_alloc_new (w) _)) (by simp [Value.oneCell']) (by unfold maxLen; omega) (by omega) (by have := HBB.out; have := HB1.out.size; simp <;> omega) ?_; intro v' w' hown' hgrow' hnn'; obtain ⟨g', cap', rfl, _, _⟩ := hown'.form (by omega); rw [← hx.out] at hown'; obtain ⟨hr', hb', ho'⟩ := HM.out.add (c := c) (v' := .slice (some ⟨g', 0, none⟩) (s.text.length + 1) cap') ((Below.refl _ _).alloc (Nat.le_refl _) _) hgrow' (hown') (Nat.le_trans HBB.out HB1.out.size); have HR' := Lib.hid (And.intro hr' (HB1.out.trans hb')); have c1' : w'.cell? ⟨R, 1, none⟩ = some _ := cell_of_row w' R 1 _ _ (0, 0) ho'; have f1' : w'.frozen? ⟨R, 1, none⟩ = false := (by simp [World.frozen?, ho']); clear hr' hb' ho' hown' hgrow' hnn')
              go_ret
              rw [← HR.out]
              exact ⟨HR'.out.2, rfl, wf_add HF.out (HF.out.n1 HT.out) hn2 s.a c, _, _, HR'.out.1⟩
end Go.Proofs.YtglmofeeggjemaaGreatDoor.GW
