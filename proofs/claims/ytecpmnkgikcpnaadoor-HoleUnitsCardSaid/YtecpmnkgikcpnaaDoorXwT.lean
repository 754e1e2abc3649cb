/-
  The walk of exce's Same.
-/
import Derived.Test.YtecpmnkgikcpnaaDoorXwS
set_option linter.unusedVariables false
namespace Go.Proofs.YtecpmnkgikcpnaaDoor.XW
open Go.RowKit Go.Proofs.YtecpmnkgikcpnaaDoor.Base Go.Proofs.YtecpmnkgikcpnaaDoor.Dp Go.Proofs.YtecpmnkgikcpnaaDoor.Xp

/-- The ten cells of a command. -/
def Ten (w : World) (b o : Nat) (x : Nat × D) (nv : Value) : Prop :=
  w.cell? ⟨b, o, none⟩ = some (.int .i64 (x.1 : Int)) ∧ w.cell? ⟨b, o + 1, none⟩ = some (.int .i64 x.2.k) ∧ w.cell? ⟨b, o + 2, none⟩ = some (.int .i64 x.2.n) ∧ w.cell? ⟨b, o + 3, none⟩ = some (.bool x.2.on) ∧ w.cell? ⟨b, o + 4, none⟩ = some (.string ⟨x.2.t.toArray⟩) ∧ w.cell? ⟨b, o + 5, none⟩ = some (.string ⟨x.2.x.toArray⟩) ∧ w.cell? ⟨b, o + 6, none⟩ = some (.string ⟨x.2.y.toArray⟩) ∧ w.cell? ⟨b, o + 7, none⟩ = some (.string ⟨x.2.u.toArray⟩) ∧ w.cell? ⟨b, o + 8, none⟩ = some (.string ⟨x.2.v.toArray⟩) ∧ w.cell? ⟨b, o + 9, none⟩ = some nv
/-- The slice at p reads as the commands l. -/
def DrIn (B : Nat) (w : World) (p : Option Addr) (l : List (Nat × D)) : Prop := 0 < l.length → ∃ b o, p = some ⟨b, o, none⟩ ∧ b < w.heap.size ∧ ∀ i (hi : i < l.length), ∃ np nc, Ten w b (o + i * 10) l[i] (.slice np l[i].2.nums.length nc) ∧ NumsIn B w np l[i].2.nums
theorem Ten.below {w w' : World} {b o : Nat} {x : Nat × D} {nv : Value} (h : Ten w b o x nv) (hlt : b < w.heap.size) (hb : Below w.heap.size w w') : Ten w' b o x nv := by
  obtain ⟨h0, h1, h2, h3, h4, h5, h6, h7, h8, h9⟩ := h
  have key : ∀ i, w'.cell? ⟨b, i, none⟩ = w.cell? ⟨b, i, none⟩ := fun i => hb.cell (p := ⟨b, i, none⟩) hlt
  exact ⟨(key _).trans h0, (key _).trans h1, (key _).trans h2, (key _).trans h3, (key _).trans h4, (key _).trans h5, (key _).trans h6, (key _).trans h7, (key _).trans h8, (key _).trans h9⟩
theorem DrIn.below {B : Nat} {w w' : World} {p : Option Addr} {l : List (Nat × D)} (h : DrIn B w p l) (hb : Below w.heap.size w w') : DrIn B w' p l := by
  intro hl
  obtain ⟨b, o, rfl, hlt, hc⟩ := h hl
  refine ⟨b, o, rfl, Nat.lt_of_lt_of_le hlt hb.size, fun i hi => ?_⟩
  obtain ⟨np, nc, h1, h2⟩ := hc i hi
  exact ⟨np, nc, h1.below hlt hb, h2.below hb⟩
theorem DrIn.nil (B : Nat) (w : World) (p : Option Addr) : DrIn B w p [] := fun h => absurd h (Nat.lt_irrefl _)
/-- What Parse leaves is read so. -/
theorem PsAt.reads {w0 w : World} {v : Value} {l : List (Nat × D)} (h : PsAt w0 v l w) : ∃ p c, v = .slice p l.length c ∧ DrIn w0.heap.size w p l := by
  obtain ⟨xs, ho, ns, hn1, rfl, hn3⟩ := h.own
  rcases ho.2 with ⟨rfl, h0⟩ | ⟨g, cap, cur, rfl, hb, hg, hnc, hcm, hcs, htake⟩
  · obtain rfl : l = [] := List.eq_nil_of_length_eq_zero h0
    exact ⟨none, 0, rfl, DrIn.nil _ _ _⟩
  · refine ⟨some ⟨g, 0, none⟩, cap, rfl, fun _ => ⟨g, 0, rfl, (Array.getElem?_eq_some_iff.1 hg).1, fun i hi => ?_⟩⟩
    obtain ⟨p, c, e, hp⟩ := hn3 i hi (by omega)
    refine ⟨p, c, ?_, hp⟩
    have key : ∀ j, j < 10 → w.cell? ⟨g, 0 + i * 10 + j, none⟩ = (rowV l[i] (ns[i]'(by omega)))[j]? := by
      intro j hj
      rw [Nat.zero_add, ho.cellAt (i * 10 + j) (by omega)]
      exact rowsV_get l ns hn1 i hi j hj
    rw [e] at key
    exact ⟨key 0 (by decide), key 1 (by decide), key 2 (by decide), key 3 (by decide), key 4 (by decide), key 5 (by decide), key 6 (by decide), key 7 (by decide), key 8 (by decide), key 9 (by decide)⟩

set_option maxRecDepth 100000 in
set_option maxHeartbeats 3200000 in
theorem eqf_c (B1 B2 : Nat) (p1 p2 : Option Addr) (l m : List (Nat × D)) (c1 c2 : Nat) (hl : l.length ≤ 10000000) (hm : m.length ≤ 10000000) (hn : Hid (∀ x ∈ l, x.2.nums.length ≤ 1000000000)) (w : World) (H1 : Hid (DrIn B1 w p1 l)) (H2 : Hid (DrIn B2 w p2 m)) (b : Bool) (hb : Hid (decide (l.map Prod.snd = m.map Prod.snd) = b)) :
    Calls Tryd.prog 28 #[.slice p1 l.length c1, .slice p2 m.length c2, .func (.func 29) #[] #[]] w fun e w' => e = .returned (.bool b) ∧ Below w.heap.size w w' := by
  by_cases hlm : l.length = m.length
  · have hlmi : ((l.length : Int) == (m.length : Int)) = true := by rw [hlm]; exact beq_self_eq_true _
    rw [← hlm]
    have hlmH := Lib.hid hlm
    clear hlm hlmi
    go_enter Tryd.func28, Tryd.ntmps28
    go_wp2_with fail
    go_loopw [17] (fun i wr => ∃ j : Nat, j ≤ l.length ∧ Hid (∀ k (h : k < l.length) (h2 : k < m.length), k < j → l[k].2 = m[k].2) ∧ i = .int .i64 j ∧ Hid (Below w.heap.size w wr)) (fun i _ => l.length - (intOf i).toNat)
    case atStart => exact ⟨0, Nat.zero_le _, fun k _ _ h => absurd h (Nat.not_lt_zero _), rfl, Below.refl _ _⟩
    case round =>
    obtain ⟨j, hj, HJ, rfl, HB⟩ := hrel
    rename_i wr
    by_cases hlt : j < l.length
    · have hlt2 : j < m.length := by have := hlmH.out; omega
      have hlti : (j : Int) < (l.length : Int) := by omega
      obtain ⟨b1, o1, rfl, hb1, hc1⟩ := (H1.out.below HB.out) (by omega)
      obtain ⟨b2, o2, rfl, hb2, hc2⟩ := (H2.out.below HB.out) (by have := hlmH.out; omega)
      obtain ⟨x, hx⟩ : ∃ x, l[j] = x := ⟨_, rfl⟩
      obtain ⟨y, hy⟩ : ∃ y, m[j] = y := ⟨_, rfl⟩
      have hnx : x.2.nums.length ≤ 1000000000 := hn.out x (by rw [← hx]; exact List.getElem_mem hlt)
      obtain ⟨np, nc, ht1, hn1⟩ := hc1 j hlt
      obtain ⟨mp, mc, ht2, hn2⟩ := hc2 j hlt2
      rw [hx] at ht1 hn1
      rw [hy] at ht2 hn2
      have HT2 := Lib.hid ht2
      have HN1 := Lib.hid hn1
      have HN2 := Lib.hid hn2
      obtain ⟨q, hq⟩ : ∃ q, decide (x.2 = y.2) = q := ⟨_, rfl⟩
      have HQ := Lib.hid hq
      have HJ2 : Hid (q = true → ∀ k (h : k < l.length) (h2 : k < m.length), k < j + 1 → l[k].2 = m[k].2) := by
        intro hqt k h h2 hk
        by_cases hkj : k = j
        · subst hkj
          rw [hx, hy]
          rw [hqt] at hq
          exact of_decide_eq_true hq
        · exact HJ.out k h h2 (by omega)
      have HF : Hid (q = false → false = b) := by
        intro hqf
        rw [← hb.out]
        refine (decide_eq_false ?_).symm
        intro e
        rw [hqf] at hq
        refine of_decide_eq_false hq ?_
        have e2 : (l.map Prod.snd)[j]'(by simpa using hlt) = (m.map Prod.snd)[j]'(by simpa using hlt2) := by simp only [e]
        simp only [List.getElem_map, hx, hy] at e2
        exact e2
      obtain ⟨s0, s1, s2, s3, s4, s5, s6, s7, s8, s9⟩ := ht1
      clear ht2 hn1 hn2 hc1 hc2 hx hy hq
      go_upto_region 6 with fail
      have HB1 : Hid (Below wr.heap.size wr (wr.alloc (.cells #[.int .i64 (x.1 : Int), .int .i64 x.2.k, .int .i64 x.2.n, .bool x.2.on, .string ⟨x.2.t.toArray⟩, .string ⟨x.2.x.toArray⟩, .string ⟨x.2.y.toArray⟩, .string ⟨x.2.u.toArray⟩, .string ⟨x.2.v.toArray⟩, .slice np x.2.nums.length nc] 39))) := (Below.refl _ _).alloc (Nat.le_refl _) _
      have HO1 := Lib.hid (heap_alloc_new wr (.cells #[.int .i64 (x.1 : Int), .int .i64 x.2.k, .int .i64 x.2.n, .bool x.2.on, .string ⟨x.2.t.toArray⟩, .string ⟨x.2.x.toArray⟩, .string ⟨x.2.y.toArray⟩, .string ⟨x.2.u.toArray⟩, .string ⟨x.2.v.toArray⟩, .slice np x.2.nums.length nc] 39))
      obtain ⟨g1, hg1⟩ : ∃ g, wr.heap.size = g := ⟨_, rfl⟩
      have hT2 := HT2.out.below hb2 HB1.out
      rw [hg1] at HO1
      clear s0 s1 s2 s3 s4 s5 s6 s7 s8 s9
      generalize hW1 : wr.alloc (.cells #[.int .i64 (x.1 : Int), .int .i64 x.2.k, .int .i64 x.2.n, .bool x.2.on, .string ⟨x.2.t.toArray⟩, .string ⟨x.2.x.toArray⟩, .string ⟨x.2.y.toArray⟩, .string ⟨x.2.u.toArray⟩, .string ⟨x.2.v.toArray⟩, .slice np x.2.nums.length nc] 39) = W1 at HB1 HO1 hT2 ⊢
      clear hW1
      rw [hg1]
      obtain ⟨s0, s1, s2, s3, s4, s5, s6, s7, s8, s9⟩ := hT2
      go_upto_region 7 with fail
      have HB2 : Hid (Below W1.heap.size W1 (W1.alloc (.cells #[.int .i64 (y.1 : Int), .int .i64 y.2.k, .int .i64 y.2.n, .bool y.2.on, .string ⟨y.2.t.toArray⟩, .string ⟨y.2.x.toArray⟩, .string ⟨y.2.y.toArray⟩, .string ⟨y.2.u.toArray⟩, .string ⟨y.2.v.toArray⟩, .slice mp y.2.nums.length mc] 39))) := (Below.refl _ _).alloc (Nat.le_refl _) _
      have HO2 := Lib.hid (heap_alloc_new W1 (.cells #[.int .i64 (y.1 : Int), .int .i64 y.2.k, .int .i64 y.2.n, .bool y.2.on, .string ⟨y.2.t.toArray⟩, .string ⟨y.2.x.toArray⟩, .string ⟨y.2.y.toArray⟩, .string ⟨y.2.u.toArray⟩, .string ⟨y.2.v.toArray⟩, .slice mp y.2.nums.length mc] 39))
      have HO3 := Lib.hid (one_below HO1.out HB2.out)
      obtain ⟨g2, hg2⟩ : ∃ g, W1.heap.size = g := ⟨_, rfl⟩
      have HBB : Hid (Below wr.heap.size wr (W1.alloc (.cells #[.int .i64 (y.1 : Int), .int .i64 y.2.k, .int .i64 y.2.n, .bool y.2.on, .string ⟨y.2.t.toArray⟩, .string ⟨y.2.x.toArray⟩, .string ⟨y.2.y.toArray⟩, .string ⟨y.2.u.toArray⟩, .string ⟨y.2.v.toArray⟩, .slice mp y.2.nums.length mc] 39))) := HB1.out.trans (HB2.out.mono HB1.out.size)
      rw [hg2] at HO2
      clear s0 s1 s2 s3 s4 s5 s6 s7 s8 s9 HO1 HB1 HB2
      generalize hW2 : W1.alloc (.cells #[.int .i64 (y.1 : Int), .int .i64 y.2.k, .int .i64 y.2.n, .bool y.2.on, .string ⟨y.2.t.toArray⟩, .string ⟨y.2.x.toArray⟩, .string ⟨y.2.y.toArray⟩, .string ⟨y.2.u.toArray⟩, .string ⟨y.2.v.toArray⟩, .slice mp y.2.nums.length mc] 39) = W2 at HO2 HO3 HBB ⊢
      clear hW2
      rw [hg2]
      obtain ⟨⟨d0, d1, d2, d3, d4, d5, d6, d7, d8, d9⟩, _⟩ := dr_at HO3.out
      obtain ⟨⟨e0, e1, e2, e3, e4, e5, e6, e7, e8, e9⟩, _⟩ := dr_at HO2.out
      have HM1 := Lib.hid (HN1.out.below HBB.out)
      have HM2 := Lib.hid (HN2.out.below HBB.out)
      have HW2 := Lib.hid (HB.out.trans (HBB.out.mono HB.out.size))
      clear HBB HN1 HN2
      go_wp2_with fail
      refine (same_c B1 B2 x.2 y.2 (x.1 : Int) (y.1 : Int) np mp nc mc hnx _ HM1 HM2 q HQ).mono ?_
      rintro en w9 ⟨rfl, hb9⟩
      have HW9 := Lib.hid (HW2.out.trans (hb9.mono HW2.out.size))
      clear hb9 d0 d1 d2 d3 d4 d5 d6 d7 d8 d9 e0 e1 e2 e3 e4 e5 e6 e7 e8 e9
      cases q with
      | true =>
        have HJ3 := Lib.hid (HJ2.out rfl)
        clear HJ2 HF
        go_wp2_with fail
        go_round <;> first | exact ⟨j + 1, by omega, HJ3.out, by go_num, HW9.out⟩ | (simp [intOf]; omega) | (simp [intOf] <;> omega)
      | false =>
        have HG := Lib.hid (HF.out rfl)
        clear HJ2 HF
        go_wp2_with fail
        go_ret
        exact ⟨ret_b HG.out, HW9.out⟩
    · have HG : Hid (true = b) := by
        show _ = _
        rw [← hb.out]
        refine (decide_eq_true ?_).symm
        refine List.ext_getElem (by simp [hlmH.out]) (fun k h h2 => ?_)
        simp only [List.getElem_map]
        exact HJ.out k (by simpa using h) (by simpa using h2) (by have : k < l.length := by simpa using h
                                                                  omega)
      have hlti : ¬ ((j : Int) < (l.length : Int)) := by omega
      go_wp2_with fail
      go_ret
      exact ⟨ret_b HG.out, HB.out⟩
  · have hlmi : ((l.length : Int) == (m.length : Int)) = false := by rw [beq_eq_false_iff_ne]; omega
    have HG : Hid (false = b) := by
      show _ = _
      rw [← hb.out]
      refine (decide_eq_false ?_).symm
      intro e
      have := congrArg List.length e
      simp at this
      exact hlm this
    go_enter Tryd.func28, Tryd.ntmps28
    go_wp2_with fail
    go_ret
    exact ⟨ret_b HG.out, Below.refl _ _⟩
theorem Same_c (B1 B2 : Nat) (p1 p2 : Option Addr) (l m : List (Nat × D)) (c1 c2 : Nat) (hl : l.length ≤ 10000000) (hm : m.length ≤ 10000000) (hn : Hid (∀ x ∈ l, x.2.nums.length ≤ 1000000000)) (w : World) (H1 : Hid (DrIn B1 w p1 l)) (H2 : Hid (DrIn B2 w p2 m)) (b : Bool) (hb : Hid (decide (l.map Prod.snd = m.map Prod.snd) = b)) :
    Calls Tryd.prog 16 #[.slice p1 l.length c1, .slice p2 m.length c2] w fun e w' => e = .returned (.bool b) ∧ Below w.heap.size w w' := by
  go_enter Tryd.func16, Tryd.ntmps16
  go_wp2_with fail
  refine (eqf_c B1 B2 p1 p2 l m c1 c2 hl hm hn w H1 H2 b hb).mono ?_
  rintro en w9 ⟨rfl, hb9⟩
  go_wp2_with fail
  go_ret
  exact ⟨rfl, hb9⟩
end Go.Proofs.YtecpmnkgikcpnaaDoor.XW
