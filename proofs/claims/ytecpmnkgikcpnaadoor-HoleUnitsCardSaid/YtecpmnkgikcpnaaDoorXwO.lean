/-
  exce.Text, whole: it returns textX.
-/
import Derived.Test.YtecpmnkgikcpnaaDoorXwN
import Derived.Test.YtecpmnkgikcpnaaDoorXb
set_option linter.unusedVariables false
namespace Go.Proofs.YtecpmnkgikcpnaaDoor.XW
open Go.RowKit Go.Proofs.YtecpmnkgikcpnaaDoor.Base Go.Proofs.YtecpmnkgikcpnaaDoor.Dp Go.Proofs.YtecpmnkgikcpnaaDoor.DeciW Go.Proofs.YtecpmnkgikcpnaaDoor.Xp

theorem bat_below {B b : Nat} {p : Value} {bs : List Value} {w w' : World} (h : Lib.BuilderAt 69 5 B b p bs w) (hb : Below w.heap.size w w') : Lib.BuilderAt 69 5 B b p bs w' := by
  obtain ⟨hB, v, hk, ho, hne⟩ := h
  exact ⟨hB, v, one_below hk hb, ho.kept (row := none) ⟨hb.os, hb.tape, hb.output, hb.size, fun k hk _ => hb.block k hk⟩ (by cases v.ownBlock <;> simp), hne⟩
theorem isb_below {B b : Nat} {bs : List Value} {w w' : World} (h : Lib.IsBuilder 69 5 B b bs w) (hb : Below w.heap.size w w') : Lib.IsBuilder 69 5 B b bs w' := by
  rcases h with h | h
  · exact .inl (bat_below h hb)
  · exact .inr (bat_below h hb)
theorem isb_new (w : World) : Lib.IsBuilder 69 5 w.heap.size w.heap.size [] (w.alloc (.cells #[.pointer none, .slice none 0 0] 69)) :=
  .inl ⟨Nat.le_refl _, nils, heap_alloc_new w _, ⟨rfl, .inl ⟨rfl, rfl⟩⟩, by simp [Value.ownBlock]⟩
theorem linesOf_cons (d : D) (l : List D) (b : List UInt8) : linesOf (d :: l) b = if goodV d = true then (if 1000000 < (b ++ lineV d ++ [10]).length then none else linesOf l (b ++ lineV d ++ [10])) else none := rfl
theorem good_no {d : D} (h : ¬ (lineV d ≠ [] ∧ (∀ c ∈ lineV d, okC c = true) ∧ cmdV (lineV d) = some d)) : goodV d = false := by
  rw [Bool.eq_false_iff]
  exact fun e => h (good_parts e)
theorem good_yes {d : D} (h1 : lineV d ≠ []) (h2 : ∀ c ∈ lineV d, okC c = true) (h3 : cmdV (lineV d) = some d) : goodV d = true := by
  unfold goodV
  rw [List.all_eq_true.2 h2, h3]
  simp [h1]
theorem ret_sb {S T : ByteArray} {a b : Bool} (h : S.data.toList = T.data.toList) (hb : a = b) : Ending.returned (.tuple #[.string S, .bool a]) = Ending.returned (.tuple #[.string T, .bool b]) := by rw [str_eq h, hb]

theorem plc_le (l : UInt8) (c : List UInt8) : (plc l c).length ≤ c.length + 1 := by
  unfold plc
  split <;> simp
theorem ite_len {p : Prop} [Decidable p] {a b : List UInt8} {n : Nat} (ha : a.length ≤ n) (hb : b.length ≤ n) : (if p then a else b).length ≤ n := by
  by_cases h : p
  · rw [if_pos h]; exact ha
  · rw [if_neg h]; exact hb
theorem lineV_len {d : D} (h : Fits d) : (lineV d).length ≤ 10000000000 := by
  have hi : (intL d.n).length ≤ 21 := Lib.itoa_length_le _ h.n0 h.n1
  have h1 := h.t
  have h2 := h.x
  have h3 := h.y
  have h4 := h.u
  have h5 := h.v
  have p1 := plc_le 88 d.x
  have p2 := plc_le 89 d.y
  have p3 := plc_le 88 d.u
  have p4 := plc_le 89 d.v
  unfold lineV
  refine ite_len (by simp only [List.length_cons]; omega) ?_
  refine ite_len (by decide) ?_
  refine ite_len (by rw [List.length_append]; have a1 : (if d.n ≠ 1 then ([73, 78, 67, 72] : List UInt8) else [77, 69, 84, 82, 73, 67]).length ≤ 6 := by split <;> decide
                     have a2 : (if d.on = true then ([44, 84, 90] : List UInt8) else []).length ≤ 3 := by split <;> decide
                     omega) ?_
  refine ite_len ?_ ?_
  · split
    · rename_i z _
      have := textL_len z
      simp only [List.length_cons, List.length_append]; omega
    · decide
  refine ite_len (by decide) ?_
  refine ite_len (by simp only [List.length_cons]; omega) ?_
  refine ite_len (by simp only [List.length_append]; omega) ?_
  refine ite_len (by simp only [List.length_append, List.length_cons, List.length_nil]; omega) ?_
  refine ite_len (by simp only [List.length_append, List.length_cons, List.length_nil]; omega) ?_
  refine ite_len (by split <;> decide) ?_
  refine ite_len (by simp only [List.length_append, List.length_cons, List.length_nil]; omega) ?_
  refine ite_len (by simp only [List.length_append, List.length_cons]; omega) ?_
  refine ite_len (by decide) ?_
  refine ite_len (by decide) ?_
  exact ite_len (by decide) (by decide)

set_option maxRecDepth 100000 in
set_option maxHeartbeats 6400000 in
theorem text_c (B : Nat) (p : Option Addr) (l : List (Nat × D)) (c : Nat) (hl : l.length ≤ 10000000) (hf : Hid (∀ x ∈ l, Fits x.2)) (w : World) (hT : Hid (Tab w)) (H : Hid (DrIn B w p l)) (S : ByteArray) (b : Bool) (hS : Hid ((textX (l.map Prod.snd)).getD [] = S.data.toList ∧ (textX (l.map Prod.snd)).isSome = b)) :
    Calls Tryd.prog 17 #[.slice p l.length c] w fun e w' => e = .returned (.tuple #[.string S, .bool b]) ∧ Below w.heap.size w w' := by
  obtain ⟨o, ho⟩ : ∃ o, textX (l.map Prod.snd) = o := ⟨_, rfl⟩
  have HS : Hid (o.getD [] = S.data.toList ∧ o.isSome = b) := by show _ ∧ _; rw [← ho]; exact hS.out
  clear hS
  unfold textX at ho
  rw [List.length_map] at ho
  by_cases h1 : (20000 : Int) < (l.length : Int)
  · rw [if_pos (by omega)] at ho
    subst ho
    go_enter Tryd.func17, Tryd.ntmps17
    go_wp2_with fail
    go_ret2
    exact ⟨ret_sb HS.out.1 HS.out.2, Below.refl _ _⟩
  · rw [if_neg (by omega)] at ho
    have HO : Hid (linesOf (l.map Prod.snd) [] = o) := ho
    clear ho
    go_enter Tryd.func17, Tryd.ntmps17
    go_upto_region 4 with fail
    have HB0 : Hid (Lib.IsBuilder 69 5 w.heap.size w.heap.size [] (w.alloc (.cells #[.pointer none, .slice none 0 0] 69))) := isb_new w
    have HW0 : Hid (Below w.heap.size w (w.alloc (.cells #[.pointer none, .slice none 0 0] 69))) := (Below.refl _ _).alloc (Nat.le_refl _) _
    obtain ⟨g, hg⟩ : ∃ g, w.heap.size = g := ⟨_, rfl⟩
    rw [hg] at HB0
    generalize hW0 : w.alloc (.cells #[.pointer none, .slice none 0 0] 69) = W0 at HB0 HW0 ⊢
    clear hW0
    rw [hg]
    have hgH := Lib.hid hg
    clear hg
    go_upto_region 5 with fail
    go_loopw [16] (fun i wr => ∃ (j : Nat) (bs : List UInt8), j ≤ l.length ∧ bs.length ≤ 1000000 ∧ i = .int .i64 j ∧ Hid (linesOf ((l.map Prod.snd).drop j) bs = o) ∧ Hid (Lib.IsBuilder 69 5 g g (Lib.byteCells bs) wr) ∧ Hid (Below w.heap.size w wr)) (fun i _ => l.length - (intOf i).toNat)
    case atStart => exact ⟨0, [], Nat.zero_le _, by simp, rfl, HO.out, HB0.out, HW0.out⟩
    case round =>
    obtain ⟨j, bs, hj, hbs, rfl, HO2, HIB, HB⟩ := hrel
    rename_i wr
    have hgr : g ≤ wr.heap.size := by rw [← hgH.out]; exact HB.out.size
    by_cases hlt : j < l.length
    · have hlti : (j : Int) < (l.length : Int) := by omega
      obtain ⟨b1, o1, rfl, hb1, hc1⟩ := (H.out.below HB.out) (by omega)
      obtain ⟨x, hx⟩ : ∃ x, l[j] = x := ⟨_, rfl⟩
      obtain ⟨np, nc, ht1, hn1⟩ := hc1 j hlt
      rw [hx] at ht1 hn1
      have HN1 := Lib.hid hn1
      have HFx : Hid (Fits x.2) := hf.out x (by rw [← hx]; exact List.getElem_mem hlt)
      have HD : Hid ((if goodV x.2 = true then (if 1000000 < (bs ++ lineV x.2 ++ [10]).length then none else linesOf ((l.map Prod.snd).drop (j + 1)) (bs ++ lineV x.2 ++ [10])) else none) = o) := by
        show _ = _
        rw [← HO2.out]
        conv => rhs; rw [List.drop_eq_getElem_cons (by simpa using hlt), linesOf_cons]
        simp only [List.getElem_map, hx]
      have HNO : Hid (goodV x.2 = false → o = none) := by
        intro h
        rw [← HD.out, if_neg (by rw [h]; decide)]
      have hT1 := Lib.hid (hT.out.below HB.out)
      obtain ⟨s0, s1, s2, s3, s4, s5, s6, s7, s8, s9⟩ := ht1
      clear hn1 hc1 hx HO2
      go_upto_region 7 with fail
      have HB1 : Hid (Below wr.heap.size wr (wr.alloc (.cells #[.int .i64 (x.1 : Int), .int .i64 x.2.k, .int .i64 x.2.n, .bool x.2.on, .string ⟨x.2.t.toArray⟩, .string ⟨x.2.x.toArray⟩, .string ⟨x.2.y.toArray⟩, .string ⟨x.2.u.toArray⟩, .string ⟨x.2.v.toArray⟩, .slice np x.2.nums.length nc] 39))) := (Below.refl _ _).alloc (Nat.le_refl _) _
      have HO1 := Lib.hid (heap_alloc_new wr (.cells #[.int .i64 (x.1 : Int), .int .i64 x.2.k, .int .i64 x.2.n, .bool x.2.on, .string ⟨x.2.t.toArray⟩, .string ⟨x.2.x.toArray⟩, .string ⟨x.2.y.toArray⟩, .string ⟨x.2.u.toArray⟩, .string ⟨x.2.v.toArray⟩, .slice np x.2.nums.length nc] 39))
      obtain ⟨g1, hg1⟩ : ∃ g1, wr.heap.size = g1 := ⟨_, rfl⟩
      rw [hg1] at HO1
      clear s0 s1 s2 s3 s4 s5 s6 s7 s8 s9
      generalize hW1 : wr.alloc (.cells #[.int .i64 (x.1 : Int), .int .i64 x.2.k, .int .i64 x.2.n, .bool x.2.on, .string ⟨x.2.t.toArray⟩, .string ⟨x.2.x.toArray⟩, .string ⟨x.2.y.toArray⟩, .string ⟨x.2.u.toArray⟩, .string ⟨x.2.v.toArray⟩, .slice np x.2.nums.length nc] 39) = W1 at HB1 HO1 ⊢
      clear hW1
      rw [hg1]
      have hg1H := Lib.hid hg1
      clear hg1
      obtain ⟨⟨d0, d1, d2, d3, d4, d5, d6, d7, d8, d9⟩, _⟩ := dr_at HO1.out
      obtain ⟨T, hTl⟩ := str_ex (lineV x.2)
      have HTL := Lib.hid hTl
      have hTz : T.size ≤ 10000000000 := by rw [← len_list, hTl]; exact lineV_len HFx.out
      have hT2 := Lib.hid (hT1.out.below HB1.out)
      have HN2 := Lib.hid (HN1.out.below HB1.out)
      clear hTl HN1
      go_wp2_with fail
      refine (line_c B x.2 HFx (x.1 : Int) np nc T HTL W1 hT2.out HN2).mono ?_
      rintro en W2 ⟨rfl, hb2⟩
      have HO2 := Lib.hid (one_below HO1.out hb2)
      have HB2 := Lib.hid (HB1.out.trans (hb2.mono HB1.out.size))
      have HN3 := Lib.hid (HN2.out.below hb2)
      clear d0 d1 d2 d3 d4 d5 d6 d7 d8 d9 HO1 HB1 HN2 hb2 hT2
      by_cases hT0 : T.size = 0
      · have hTe : T.toList.isEmpty = true := by
          rw [Lib.toList_data, List.isEmpty_iff]
          exact (list_nil T).2 hT0
        have HE : Hid (o = none) := HNO.out (good_no (by rintro ⟨h, _⟩; rw [← HTL.out] at h; exact h ((list_nil T).2 hT0)))
        go_wp2_with fail
        obtain rfl := HE.out
        go_ret2
        exact ⟨ret_sb HS.out.1 HS.out.2, HB.out.trans (HB2.out.mono HB.out.size)⟩
      · have hTe : T.toList.isEmpty = false := by
          rw [Lib.toList_data, Bool.eq_false_iff, Ne, List.isEmpty_iff]
          exact fun e => hT0 ((list_nil T).1 e)
        have hTp : 0 < T.size := by omega
        go_upto_region 11 with fail
        go_loop [8] (fun i => ∃ k : Nat, k ≤ T.size ∧ Hid (k ≤ sp okC T.data.toList) ∧ i = .int .i64 k) (fun i => T.size - (intOf i).toNat)
        case atStart => exact ⟨0, Nat.zero_le _, Nat.zero_le _, rfl⟩
        case round =>
          obtain ⟨k, hk, HK, rfl⟩ := hrel
          by_cases hlt2 : k < T.size
          · have hlti2 : (k : Int) < (T.size : Int) := by omega
            obtain ⟨c', hc'⟩ : ∃ c', T[k] = c' := ⟨_, rfl⟩
            obtain ⟨hl2, hcl⟩ := byte_list T k hlt2
            rw [hc'] at hcl
            obtain ⟨q, hq⟩ : ∃ q, okC c' = q := ⟨_, rfl⟩
            have HQ := Lib.hid hq
            have HY : Hid (q = true → k + 1 ≤ sp okC T.data.toList) := fun h => sp_lt HK.out hl2 (by rw [hcl, hq]; exact h)
            have HN : Hid (q = false → o = none) := by
              intro h
              refine HNO.out (good_no ?_)
              rintro ⟨_, h2, _⟩
              have := h2 (T.data.toList[k]) (by rw [← HTL.out]; exact List.getElem_mem hl2)
              rw [hcl, hq, h] at this
              cases this
            clear hl2 hcl hq
            go_wp2_with fail
            refine (printable_c c' _ (Lib.hid rfl) q HQ _).mono ?_
            rintro en w' ⟨rfl, rfl⟩
            cases q with
            | true =>
              have HK2 := Lib.hid (HY.out rfl)
              clear HY HN
              go_wp2_with fail
              go_round <;> first | exact ⟨k + 1, by omega, HK2.out, by go_num⟩ | (simp [intOf] <;> omega)
            | false =>
              have HE := Lib.hid (HN.out rfl)
              clear HY HN
              go_wp2_with fail
              obtain rfl := HE.out
              go_ret2
              exact ⟨ret_sb HS.out.1 HS.out.2, HB.out.trans (HB2.out.mono HB.out.size)⟩
          · have hlti2 : ¬ ((k : Int) < (T.size : Int)) := by omega
            have HALL : Hid (∀ c ∈ lineV x.2, okC c = true) := by
              show ∀ c ∈ lineV x.2, _
              rw [← HTL.out]
              exact sp_full (by have := HK.out; have := sp_le okC T.data.toList; rw [len_list] at *; omega)
            obtain ⟨oc, hoc⟩ : ∃ oc, cmdV T.data.toList = oc := ⟨_, rfl⟩
            have HOC := Lib.hid hoc
            clear hoc
            go_wp2_with fail
            refine (cmd_c T (by unfold maxLen; omega) hTp oc HOC W2).mono ?_
            rintro en W3 ⟨hb3, hout⟩
            have HO3 := Lib.hid (one_below HO2.out hb3)
            have HB3 := Lib.hid (HB2.out.trans (hb3.mono HB2.out.size))
            have HN4 := Lib.hid (HN3.out.below hb3)
            clear hb3 HO2 HB2 HN3
            cases oc with
            | none =>
              have hout : en = .returned (.tuple #[drVal D0 0 nils, .bool false]) := hout
              subst hout
              dsimp only [drVal, drCells, D0]
              have HE : Hid (o = none) := HNO.out (good_no (by rintro ⟨_, _, h⟩; rw [← HTL.out, HOC.out] at h; cases h))
              go_wp2_with fail
              obtain rfl := HE.out
              go_ret2
              exact ⟨ret_sb HS.out.1 HS.out.2, HB.out.trans ((HB3.out.trans (((Below.refl _ _).alloc (Nat.le_refl _) _).mono HB3.out.size)).mono HB.out.size)⟩
            | some y =>
              obtain ⟨mp, mc, rfl, hn4⟩ := hout
              have HM1 := Lib.hid hn4
              have hy1 : y.nums.length ≤ 1000000000 := by have := (nums_of_cmd HOC.out).1; omega
              clear hn4
              dsimp only [drVal, drCells]
              go_upto_region 16 with fail
              have HB4 : Hid (Below W3.heap.size W3 (W3.alloc (.cells #[.int .i64 0, .int .i64 y.k, .int .i64 y.n, .bool y.on, .string ⟨y.t.toArray⟩, .string ⟨y.x.toArray⟩, .string ⟨y.y.toArray⟩, .string ⟨y.u.toArray⟩, .string ⟨y.v.toArray⟩, .slice mp y.nums.length mc] 39))) := (Below.refl _ _).alloc (Nat.le_refl _) _
              have HO4 := Lib.hid (heap_alloc_new W3 (.cells #[.int .i64 0, .int .i64 y.k, .int .i64 y.n, .bool y.on, .string ⟨y.t.toArray⟩, .string ⟨y.x.toArray⟩, .string ⟨y.y.toArray⟩, .string ⟨y.u.toArray⟩, .string ⟨y.v.toArray⟩, .slice mp y.nums.length mc] 39))
              have HO5 := Lib.hid (one_below HO3.out HB4.out)
              have HBB := Lib.hid (HB.out.trans ((HB3.out.trans (HB4.out.mono HB3.out.size)).mono HB.out.size))
              have HI2 := Lib.hid (isb_below HIB.out (HB3.out.trans (HB4.out.mono HB3.out.size)))
              have HM2 := Lib.hid (HM1.out.below HB4.out)
              have HN5 := Lib.hid (HN4.out.below HB4.out)
              have hgr2 : g ≤ (W3.alloc (.cells #[.int .i64 0, .int .i64 y.k, .int .i64 y.n, .bool y.on, .string ⟨y.t.toArray⟩, .string ⟨y.x.toArray⟩, .string ⟨y.y.toArray⟩, .string ⟨y.u.toArray⟩, .string ⟨y.v.toArray⟩, .slice mp y.nums.length mc] 39)).heap.size := Nat.le_trans hgr (Nat.le_trans HB3.out.size HB4.out.size)
              obtain ⟨g2, hg2⟩ : ∃ g2, W3.heap.size = g2 := ⟨_, rfl⟩
              rw [hg2] at HO4
              generalize hW4 : W3.alloc (.cells #[.int .i64 0, .int .i64 y.k, .int .i64 y.n, .bool y.on, .string ⟨y.t.toArray⟩, .string ⟨y.x.toArray⟩, .string ⟨y.y.toArray⟩, .string ⟨y.u.toArray⟩, .string ⟨y.v.toArray⟩, .slice mp y.nums.length mc] 39) = W4 at HB4 HO4 HO5 HBB HI2 HM2 HN5 hgr2 ⊢
              clear hW4 HM1 HN4 HO3 HB4 HB3
              rw [hg2]
              clear hg2
              obtain ⟨⟨d0, d1, d2, d3, d4, d5, d6, d7, d8, d9⟩, _⟩ := dr_at HO5.out
              obtain ⟨⟨e0, e1, e2, e3, e4, e5, e6, e7, e8, e9⟩, _⟩ := dr_at HO4.out
              obtain ⟨q, hq⟩ : ∃ q, decide (y = x.2) = q := ⟨_, rfl⟩
              have HQ := Lib.hid hq
              clear hq
              go_wp2_with fail
              refine (same_c _ B y x.2 0 (x.1 : Int) mp np mc nc hy1 _ HM2 HN5 q HQ).mono ?_
              rintro en W5 ⟨rfl, hb5⟩
              have HB5 := Lib.hid (HBB.out.trans (hb5.mono HBB.out.size))
              have HI3 := Lib.hid (isb_below HI2.out hb5)
              have hgr3 : g ≤ W5.heap.size := Nat.le_trans hgr2 hb5.size
              clear hb5 d0 d1 d2 d3 d4 d5 d6 d7 d8 d9 e0 e1 e2 e3 e4 e5 e6 e7 e8 e9 HO4 HO5 HM2 HN5
              cases q with
              | false =>
                have HE : Hid (o = none) := HNO.out (good_no (by
                  rintro ⟨_, _, h⟩
                  rw [← HTL.out, HOC.out] at h
                  exact of_decide_eq_false HQ.out (Option.some.inj h)))
                go_wp2_with fail
                obtain rfl := HE.out
                go_ret2
                exact ⟨ret_sb HS.out.1 HS.out.2, HB5.out⟩
              | true =>
                have HG : Hid (goodV x.2 = true) := good_yes (by rw [← HTL.out]; exact fun e => hT0 ((list_nil T).1 e)) HALL.out (by rw [← HTL.out, HOC.out, of_decide_eq_true HQ.out])
                have HD2 : Hid ((if 1000000 < bs.length + T.size + 1 then none else linesOf ((l.map Prod.snd).drop (j + 1)) (bs ++ lineV x.2 ++ [10])) = o) := by
                  show _ = _
                  rw [← HD.out, if_pos HG.out]
                  simp only [List.length_append, List.length_cons, List.length_nil, ← HTL.out, len_list, Nat.zero_add]
                go_wp2_with fail
                refine (ws_c g g (Lib.byteCells bs) T W5 HI3.out (by rw [Lib.byteCells_length]; omega) hgr3).mono ?_
                rintro en W6 ⟨rfl, hi6, hb6⟩
                rw [Lib.strCells_eq, ← Lib.byteCells_append] at hi6
                have HI6 : Hid (Lib.IsBuilder 69 5 g g (Lib.byteCells (bs ++ T.data.toList)) W6) := .inr hi6
                have hgr6 : g ≤ W6.heap.size := Nat.le_trans hgr3 hb6.size
                have HB6 : Hid (Below w.heap.size w W6) := HB5.out.trans (by rw [hgH.out]; exact hb6)
                clear hi6 hb6
                go_wp2_with fail
                refine (wb_c g g (Lib.byteCells (bs ++ T.data.toList)) 10 W6 HI6.out (by rw [Lib.byteCells_length, List.length_append, len_list]; omega) hgr6).mono ?_
                rintro en W7 ⟨rfl, hi7, hb7⟩
                have e7 : Lib.byteCells (bs ++ T.data.toList) ++ [.int .u8 10] = Lib.byteCells (bs ++ lineV x.2 ++ [10]) := by rw [← HTL.out, Lib.byteCells_append _ [10]]; rfl
                rw [e7] at hi7
                have HI7 : Hid (Lib.IsBuilder 69 5 g g (Lib.byteCells (bs ++ lineV x.2 ++ [10])) W7) := .inr hi7
                have HB7 : Hid (Below w.heap.size w W7) := HB6.out.trans (by rw [hgH.out]; exact hb7)
                clear hi7 hb7 e7
                obtain ⟨N, hN⟩ : ∃ N, (Lib.byteCells (bs ++ lineV x.2 ++ [10])).length = N := ⟨_, rfl⟩
                have hN2 : N = bs.length + T.size + 1 := by rw [← hN, Lib.byteCells_length]; simp [← HTL.out, Nat.add_assoc]
                have HN2 := Lib.hid hN2
                clear hN2
                go_wp2_with fail
                refine (Tryd.Builder_Len g g _ W7 HI7.out).mono ?_
                rintro en W8 ⟨rfl, rfl⟩
                rw [hN]
                clear hN
                by_cases hbig : (1000000 : Int) < (N : Int)
                · have HE : Hid (o = none) := by
                    show _ = _
                    rw [← HD2.out, if_pos (by have := HN2.out; omega)]
                  go_wp2_with fail
                  obtain rfl := HE.out
                  go_ret2
                  exact ⟨ret_sb HS.out.1 HS.out.2, HB7.out⟩
                · have HE : Hid (linesOf ((l.map Prod.snd).drop (j + 1)) (bs ++ lineV x.2 ++ [10]) = o) := by
                    show _ = _
                    rw [← HD2.out, if_neg (by have := HN2.out; omega)]
                  have HNL : Hid ((bs ++ lineV x.2 ++ [10]).length ≤ 1000000) := by
                    have := HN2.out
                    show _ ≤ _
                    simp only [List.length_append, List.length_cons, List.length_nil, ← HTL.out, len_list]
                    omega
                  go_wp2_with fail
                  go_round <;> first | exact ⟨j + 1, _, by omega, HNL.out, by go_num, HE.out, HI7.out, HB7.out⟩ | (simp [intOf] <;> omega)
    · have hlti : ¬ ((j : Int) < (l.length : Int)) := by omega
      have HE : Hid (o = some bs) := by
        show _ = _
        rw [← HO2.out, List.drop_eq_nil_of_le (by simp; omega)]
        rfl
      go_wp2_with fail
      refine (Tryd.Builder_String_any g g bs wr HIB.out hgr).mono ?_
      rintro en W8 ⟨rfl, hb8⟩
      go_wp2_with fail
      go_ret2
      have h2 := HS.out
      rw [HE.out] at h2
      exact ⟨ret_sb h2.1 h2.2, HB.out.trans (by rw [hgH.out]; exact hb8)⟩
end Go.Proofs.YtecpmnkgikcpnaaDoor.XW
