/-
  The walk of word's end.
-/
import Derived.Test.YtglmofeeggjemaaGreatDoorK5
set_option linter.unusedVariables false
namespace Go.Proofs.YtglmofeeggjemaaGreatDoor.GW
open Go.RowKit Go.Proofs.YtglmofeeggjemaaGreatDoor.Base Go.Proofs.YtglmofeeggjemaaGreatDoor.Dp Go.Proofs.YtglmofeeggjemaaGreatDoor.DeciW Go.Proofs.YtglmofeeggjemaaGreatDoor.Mem Go.Proofs.YtglmofeeggjemaaGreatDoor.RdW Go.Proofs.YtglmofeeggjemaaGreatDoor.Gp

theorem row_reads {w : World} {B : Nat} {e : TypeId} {v : Value} {n : Nat} {l : List UInt8} (h : w.ownsRow B e 1 v n (byteVs l)) : ∃ p cap, v = .slice p n cap ∧ RB w p l ∧ n = l.length := by
  have hl : n = l.length := by have := h.1; rw [byteVs_length] at this; omega
  rcases h.2 with ⟨rfl, rfl⟩ | ⟨g, cap, cur, rfl, _, hg, _, _, _, ht⟩
  · refine ⟨_, _, rfl, ?_, hl⟩
    obtain rfl : l = [] := List.eq_nil_of_length_eq_zero hl.symm
    exact RB.nil _ _
  · refine ⟨_, _, rfl, RB.of fun i hi => ?_, hl⟩
    rw [Nat.zero_add, cell_of_row w g i cur e (0, 0) hg]
    have := byteVs_get l i hi
    rw [← ht, List.getElem?_take, if_pos (by omega)] at this
    simpa using this
theorem wd_cells {w : World} {b : Nat} {v0 v1 v2 v3 : Value} {t : TypeId} (h : w.heap[b]? = some (.cells #[v0, v1, v2, v3] t)) : (w.cell? ⟨b, 0, none⟩ = some v0 ∧ w.cell? ⟨b, 1, none⟩ = some v1 ∧ w.cell? ⟨b, 2, none⟩ = some v2 ∧ w.cell? ⟨b, 3, none⟩ = some v3) ∧ (∀ i, w.frozen? ⟨b, i, none⟩ = false) := by
  refine ⟨⟨?_, ?_, ?_, ?_⟩, fun i => ?_⟩ <;> simp [World.cell?, World.frozen?, h]
theorem wf_end {s : Ws} (h : Wf s) (hn : s.words.length < 20000) (x : Wd) {i : Nat} (hi : i ≤ s.words.length + 1) : Wf { s with words := s.words ++ [x], inner := i, text := [] } :=
  ⟨by simp; omega, fun h => absurd rfl h, by simp, by simp; omega⟩

set_option maxRecDepth 100000 in
set_option maxHeartbeats 3200000 in
theorem end_c (B R : Nat) (s : Ws) (vw vt : Value) (w : World) (hB : B ≤ w.heap.size) (H : Hid (Rw B R vw vt s w)) (hf : Wf s) (res : Except Nat Ws) (hres : Hid (endW s = res)) :
    Calls Tryz.prog 36 #[.pointer (some ⟨R, 0, none⟩)] w (TOut B R w res) := by
  have HBB := Lib.hid hB
  have HF := Lib.hid hf
  clear hf
  obtain ⟨c0, c1, c2, c3, c4⟩ := H.out.cells
  have hfz := H.out.fz
  obtain ⟨p, cap, rfl, hrd, hln⟩ := row_reads H.out.tx
  have hl := hres.out
  unfold endW at hl
  by_cases ht : s.text = []
  · rw [if_pos ht] at hl
    have HR : Hid (.error 2 = res) := hl
    have h0 : s.text.length = 0 := by rw [ht]; rfl
    rw [h0] at c1
    clear hl hres hln hrd ht
    go_enter Tryz.func36, Tryz.ntmps36
    go_wp2_with fail
    go_ret
    rw [← HR.out]
    exact ⟨Below.refl _ _, rfl⟩
  · rw [if_neg ht] at hl
    have HR := Lib.hid hl
    have hpos : 0 < s.text.length := List.length_pos_iff.2 ht
    have hne : ((s.text.length : Int) == 0) = false := by simp; omega
    have hRlt := H.out.lt
    have d0 : (w.alloc (.cells #[.int .i64 0, .bool false, .bool false, .string ⟨#[]⟩] 39)).cell? ⟨R, 0, none⟩ = _ := (H.out.below ((Below.refl _ _).alloc (Nat.le_refl _) _)).cells.1
    have d1 : (w.alloc (.cells #[.int .i64 0, .bool false, .bool false, .string ⟨#[]⟩] 39)).cell? ⟨R, 1, none⟩ = _ := (H.out.below ((Below.refl _ _).alloc (Nat.le_refl _) _)).cells.2.1
    have d2 : (w.alloc (.cells #[.int .i64 0, .bool false, .bool false, .string ⟨#[]⟩] 39)).cell? ⟨R, 2, none⟩ = _ := (H.out.below ((Below.refl _ _).alloc (Nat.le_refl _) _)).cells.2.2.1
    have d3 : (w.alloc (.cells #[.int .i64 0, .bool false, .bool false, .string ⟨#[]⟩] 39)).cell? ⟨R, 3, none⟩ = _ := (H.out.below ((Below.refl _ _).alloc (Nat.le_refl _) _)).cells.2.2.2.1
    have d4 : (w.alloc (.cells #[.int .i64 0, .bool false, .bool false, .string ⟨#[]⟩] 39)).cell? ⟨R, 4, none⟩ = _ := (H.out.below ((Below.refl _ _).alloc (Nat.le_refl _) _)).cells.2.2.2.2
    have hcv2 := RB.str (P := Tryz.prog) (w := (w.alloc (.cells #[.int .i64 0, .bool false, .bool false, .string ⟨#[]⟩] 39)).drew) (p := p) (l := s.text) (hrd.below (((Below.refl _ _).alloc (Nat.le_refl _) _).drew)) 49 5 9 Tryz.underlying49 Tryz.underlying5 Tryz.underlying9 s.text.length cap rfl
    have hcv := RB.str (P := Tryz.prog) (w := w.drew) (p := p) (l := s.text) hrd 49 5 9 Tryz.underlying49 Tryz.underlying5 Tryz.underlying9 s.text.length cap rfl
    clear hl hres hln
    go_enter Tryz.func36, Tryz.ntmps36
    go_upto_region 3 with fail
    have hin : ((s.inner : Int) == 0) = decide (s.inner = 0) := by
      rw [Bool.eq_iff_iff]; simp
    have HM : Hid (Rw B R vw (.slice p s.text.length cap) s ((w.alloc (.cells #[.int .i64 (s.a : Int), .bool s.group, .bool (decide (s.inner = 0)), .string ⟨s.text.toArray⟩] 39)).drew)) := H.out.below (((Below.refl _ _).alloc (Nat.le_refl _) _).drew)
    have HS : Hid (((w.alloc (.cells #[.int .i64 (s.a : Int), .bool s.group, .bool (decide (s.inner = 0)), .string ⟨s.text.toArray⟩] 39)).drew).heap[w.heap.size]? = some (.cells #[.int .i64 (s.a : Int), .bool s.group, .bool (decide (s.inner = 0)), .string ⟨s.text.toArray⟩] 39)) := heap_alloc_new w _
    have HB1 : Hid (Below w.heap.size w ((w.alloc (.cells #[.int .i64 (s.a : Int), .bool s.group, .bool (decide (s.inner = 0)), .string ⟨s.text.toArray⟩] 39)).drew)) := ((Below.refl _ _).alloc (Nat.le_refl _) _).drew
    have hi3 : (s.inner : Int) ≤ 20000 := by have := HF.out.n0; have := HF.out.n4; omega
    go_region
    all_goals
      clear c0 c1 c2 c3 c4 d0 d1 d2 d3 d4 hcv hcv2 hrd hfz hRlt hin
      generalize (w.alloc (.cells #[.int .i64 (s.a : Int), .bool s.group, .bool (decide (s.inner = 0)), .string ⟨s.text.toArray⟩] 39)).drew = W at HM HS HB1 ⊢
      obtain ⟨_, _, _, c3, c4⟩ := HM.out.cells
      have f4 := HM.out.fz 4
      by_cases hg : s.group = true
      · rw [hg] at c3
        have HG := Lib.hid hg
        clear hg
        have HM5 : Hid (Rw B R vw (.slice p s.text.length cap) { s with inner := s.inner + 1 } (W.setCell ⟨R, 4, none⟩ (.int .i64 ((s.inner : Int) + 1)))) := HM.out.inn (s.inner + 1) _ (by omega)
        have HS5 : Hid ((W.setCell ⟨R, 4, none⟩ (.int .i64 ((s.inner : Int) + 1))).heap[w.heap.size]? = some (.cells #[.int .i64 (s.a : Int), .bool s.group, .bool (decide (s.inner = 0)), .string ⟨s.text.toArray⟩] 39)) := (Below.heap_setCell _ _ _ _ (by show w.heap.size ≠ R; have := H.out.lt; omega)).trans HS.out
        have HB5 : Hid (Below B w (W.setCell ⟨R, 4, none⟩ (.int .i64 ((s.inner : Int) + 1)))) := (HB1.out.mono HBB.out).setCell (p := ⟨R, 4, none⟩) H.out.ge _
        go_upto_region 6 with fail
        clear HM HS HB1 c3 c4 f4
        generalize W.setCell ⟨R, 4, none⟩ (.int .i64 ((s.inner : Int) + 1)) = W5 at HM5 HS5 HB5 ⊢
        obtain ⟨i0, hi, hz0, hz1, hz2⟩ := info_parts info_wd
        have HI := Lib.hid (And.intro hi (And.intro hz0 (And.intro hz1 hz2)))
        clear hi hz0 hz1 hz2
        obtain ⟨⟨g0, g1, g2, g3⟩, _⟩ := wd_cells HS5.out
        obtain ⟨c0, c1, c2, c3, c4⟩ := HM5.out.cells
        have f0 := HM5.out.fz 0
        have f1 := HM5.out.fz 1
        have hbg : R < W5.heap.size := HM5.out.lt
        have hgg : w.heap.size < W5.heap.size := (Array.getElem?_eq_some_iff.1 HS5.out).1
        obtain ⟨pw, capw, rfl⟩ := row_form HM5.out.ws
        have hn1 : s.words.length < 20000 := HF.out.n1 ht
        have hnb : (Value.slice pw s.words.length capw).ownBlock ≠ some R := own_ne HM5.out.ws HM5.out.obj (by decide)
        go_region_law (first | ((refine step_append_lies _ (by rfl) _ _ _ (by rfl) B 39 i0 (.agg #[.int .i64 0, .bool false, .bool false, .string ⟨#[]⟩]) 4 32 Tryz.underlying35 HI.out.1 HI.out.2.1 HI.out.2.2.1 HI.out.2.2.2 rfl (by omega) (.slice pw s.words.length capw) s.words.length _ (by rfl) ((HM5.out.ws.alloc _).drew) ⟨W5.heap.size, 0, none⟩ 1 1 [.int .i64 (s.a : Int), .bool s.group, .bool (decide (s.inner = 0)), .string ⟨s.text.toArray⟩] (by rfl) (by rfl) (World.news_of_block (cs := #[.int .i64 (s.a : Int), .bool s.group, .bool (decide (s.inner = 0)), .string ⟨s.text.toArray⟩]) (t := 39) (fr := (0, 0)) (heap_alloc_new W5 _)) (by simp [Value.oneCell']) (by omega) (by unfold maxLen; omega) (by omega) (by have := HBB.out; have := HB5.out.size; simp; omega) (W5.heap.size + 1) (by simp) ?_; intro gg cap2 w4 hown hgrow hat hltt; have q0 := (HM5.out.push (x := ⟨s.a, s.group, decide (s.inner = 0), s.text⟩) (((Below.refl _ _).alloc (Nat.le_refl _) _).drew) hgrow hown (Nat.le_trans HBB.out HB5.out.size)).2.2; have q1 : w4.cell? ⟨R, 0, none⟩ = some _ := cell_of_row w4 R 0 _ _ (0, 0) q0; have q2 : w4.frozen? ⟨R, 0, none⟩ = false := by simp [World.frozen?, q0])) | fail)
        all_goals
          obtain ⟨hm, hbl, _⟩ := HM5.out.push (x := ⟨s.a, s.group, decide (s.inner = 0), s.text⟩) (((Below.refl _ _).alloc (Nat.le_refl _) _).drew) hgrow hown (Nat.le_trans HBB.out HB5.out.size)
          have HQ := Lib.hid (And.intro hm (HB5.out.trans hbl))
          clear hm hbl hown hgrow hat hltt q0 q1 q2 g0 g1 g2 g3 c0 c1 c2 c3 c4 f0 f1
          generalize w4.setCell ⟨R, 0, none⟩ (.slice (some ⟨gg, 0, none⟩) (s.words.length + 1) cap2) = W6 at HQ ⊢
          obtain ⟨c0, c1, c2, c3, c4⟩ := HQ.out.1.cells
          have f1 := HQ.out.1.fz 1
          have hcl := HQ.out.1.clear rfl
          have HE : Hid (Rw B R (.slice (some ⟨gg, 0, none⟩) (s.words.length + 1) cap2) (.slice p 0 cap) { s with words := s.words ++ [⟨s.a, s.group, decide (s.inner = 0), s.text⟩], inner := s.inner + 1, text := [] } (W6.setCell ⟨R, 1, none⟩ (.slice p 0 cap)) ∧ Below B w (W6.setCell ⟨R, 1, none⟩ (.slice p 0 cap))) := ⟨hcl, HQ.out.2.setCell H.out.ge _⟩
          clear hcl
          go_wp2_with fail
          go_ret
          rw [← HR.out]
          simp only [HG.out, if_true]
          have hE := HE.out.1
          have hW := wf_end HF.out hn1 ⟨s.a, s.group, decide (s.inner = 0), s.text⟩ (i := s.inner + 1) (by show s.inner + 1 ≤ _; have := HF.out.n4; omega)
          rw [HG.out] at hE hW
          exact ⟨HE.out.2, rfl, hW, _, _, hE⟩
      · rw [Bool.eq_false_iff.2 hg] at c3
        have HG : Hid (s.group = false) := Bool.eq_false_iff.2 hg
        clear hg
        have HM5 : Hid (Rw B R vw (.slice p s.text.length cap) { s with inner := s.inner } W) := HM.out
        have HS5 := HS
        have HB5 : Hid (Below B w W) := HB1.out.mono HBB.out
        go_upto_region 6 with fail
        clear HM HS HB1 c3 c4 f4
        generalize W = W5 at HM5 HS5 HB5 ⊢
        obtain ⟨i0, hi, hz0, hz1, hz2⟩ := info_parts info_wd
        have HI := Lib.hid (And.intro hi (And.intro hz0 (And.intro hz1 hz2)))
        clear hi hz0 hz1 hz2
        obtain ⟨⟨g0, g1, g2, g3⟩, _⟩ := wd_cells HS5.out
        obtain ⟨c0, c1, c2, c3, c4⟩ := HM5.out.cells
        have f0 := HM5.out.fz 0
        have f1 := HM5.out.fz 1
        have hbg : R < W5.heap.size := HM5.out.lt
        have hgg : w.heap.size < W5.heap.size := (Array.getElem?_eq_some_iff.1 HS5.out).1
        obtain ⟨pw, capw, rfl⟩ := row_form HM5.out.ws
        have hn1 : s.words.length < 20000 := HF.out.n1 ht
        have hnb : (Value.slice pw s.words.length capw).ownBlock ≠ some R := own_ne HM5.out.ws HM5.out.obj (by decide)
        go_region_law (first | ((refine step_append_lies _ (by rfl) _ _ _ (by rfl) B 39 i0 (.agg #[.int .i64 0, .bool false, .bool false, .string ⟨#[]⟩]) 4 32 Tryz.underlying35 HI.out.1 HI.out.2.1 HI.out.2.2.1 HI.out.2.2.2 rfl (by omega) (.slice pw s.words.length capw) s.words.length _ (by rfl) ((HM5.out.ws.alloc _).drew) ⟨W5.heap.size, 0, none⟩ 1 1 [.int .i64 (s.a : Int), .bool s.group, .bool (decide (s.inner = 0)), .string ⟨s.text.toArray⟩] (by rfl) (by rfl) (World.news_of_block (cs := #[.int .i64 (s.a : Int), .bool s.group, .bool (decide (s.inner = 0)), .string ⟨s.text.toArray⟩]) (t := 39) (fr := (0, 0)) (heap_alloc_new W5 _)) (by simp [Value.oneCell']) (by omega) (by unfold maxLen; omega) (by omega) (by have := HBB.out; have := HB5.out.size; simp; omega) (W5.heap.size + 1) (by simp) ?_; intro gg cap2 w4 hown hgrow hat hltt; have q0 := (HM5.out.push (x := ⟨s.a, s.group, decide (s.inner = 0), s.text⟩) (((Below.refl _ _).alloc (Nat.le_refl _) _).drew) hgrow hown (Nat.le_trans HBB.out HB5.out.size)).2.2; have q1 : w4.cell? ⟨R, 0, none⟩ = some _ := cell_of_row w4 R 0 _ _ (0, 0) q0; have q2 : w4.frozen? ⟨R, 0, none⟩ = false := by simp [World.frozen?, q0])) | fail)
        all_goals
          obtain ⟨hm, hbl, _⟩ := HM5.out.push (x := ⟨s.a, s.group, decide (s.inner = 0), s.text⟩) (((Below.refl _ _).alloc (Nat.le_refl _) _).drew) hgrow hown (Nat.le_trans HBB.out HB5.out.size)
          have HQ := Lib.hid (And.intro hm (HB5.out.trans hbl))
          clear hm hbl hown hgrow hat hltt q0 q1 q2 g0 g1 g2 g3 c0 c1 c2 c3 c4 f0 f1
          generalize w4.setCell ⟨R, 0, none⟩ (.slice (some ⟨gg, 0, none⟩) (s.words.length + 1) cap2) = W6 at HQ ⊢
          obtain ⟨c0, c1, c2, c3, c4⟩ := HQ.out.1.cells
          have f1 := HQ.out.1.fz 1
          have hcl := HQ.out.1.clear rfl
          have HE : Hid (Rw B R (.slice (some ⟨gg, 0, none⟩) (s.words.length + 1) cap2) (.slice p 0 cap) { s with words := s.words ++ [⟨s.a, s.group, decide (s.inner = 0), s.text⟩], inner := s.inner, text := [] } (W6.setCell ⟨R, 1, none⟩ (.slice p 0 cap)) ∧ Below B w (W6.setCell ⟨R, 1, none⟩ (.slice p 0 cap))) := ⟨hcl, HQ.out.2.setCell H.out.ge _⟩
          clear hcl
          go_wp2_with fail
          go_ret
          rw [← HR.out]
          simp only [HG.out, Bool.false_eq_true, if_false]
          have hE := HE.out.1
          have hW := wf_end HF.out hn1 ⟨s.a, s.group, decide (s.inner = 0), s.text⟩ (i := s.inner) (by show s.inner ≤ _; have := HF.out.n4; omega)
          rw [HG.out] at hE hW
          exact ⟨HE.out.2, rfl, hW, _, _, hE⟩
end Go.Proofs.YtglmofeeggjemaaGreatDoor.GW
