/-
  The walks of gerb's Same and of what it calls.
-/
import Derived.Test.YtglmofeeggjemaaGreatDoorId
import Derived.BigQuiet
set_option linter.unusedVariables false
namespace Go.Proofs.YtglmofeeggjemaaGreatDoor.GW
open Go.RowKit Go.Proofs.YtglmofeeggjemaaGreatDoor.Base Go.Proofs.YtglmofeeggjemaaGreatDoor.Dp Go.Proofs.YtglmofeeggjemaaGreatDoor.DeciW Go.Proofs.YtglmofeeggjemaaGreatDoor.Mem Go.Proofs.YtglmofeeggjemaaGreatDoor.RdW Go.Proofs.YtglmofeeggjemaaGreatDoor.Gp

def finB (b : Blk) : Prop := b.args.length ≤ 1000000000 ∧ ∀ a ∈ b.args, a.length ≤ 1000000000
def finC (c : C) : Prop := c.nums.length ≤ 1000000000 ∧ c.blocks.length ≤ 1000000000 ∧ ∀ b ∈ c.blocks, finB b
theorem OpsIn.below {B : Nat} {w w' : World} {p : Option Addr} {l : List (Int × Int)} (h : OpsIn B w p l) (hb : Below w.heap.size w w') : OpsIn B w' p l := h.keep (T := 0) (.of_below hb) (by decide)
theorem ArgsIn.below {B : Nat} {w w' : World} {p : Option Addr} {l : List (List (Int × Int))} (h : ArgsIn B w p l) (hb : Below w.heap.size w w') : ArgsIn B w' p l := h.keep (T := 0) (.of_below hb) (by decide) (by decide)
theorem BlksIn.below {B : Nat} {w w' : World} {p : Option Addr} {l : List Blk} (h : BlksIn B w p l) (hb : Below w.heap.size w w') : BlksIn B w' p l := h.keep (T := 0) (.of_below hb) (by decide) (by decide) (by decide)
theorem ReadC.below {B : Nat} {w w' : World} {p : Option Addr} {l : List (Nat × C)} (h : ReadC B w p l) (hb : Below w.heap.size w w') : ReadC B w' p l := by
  intro hl
  obtain ⟨b, o, cur, hp, hB, hh, hc⟩ := h hl
  refine ⟨b, o, cur, hp, hB, one_below hh hb, fun i hi => ?_⟩
  obtain ⟨q, r, k, m, h1, h2, h3⟩ := hc i hi
  exact ⟨q, r, k, m, h1, h2.below hb, h3.below hb⟩
theorem bs_inj (a b : List UInt8) : ((⟨a.toArray⟩ : ByteArray) = ⟨b.toArray⟩) ↔ a = b := by
  constructor
  · intro h
    exact congrArg (fun s : ByteArray => s.data.toList) h
  · intro h; rw [h]
theorem eq_next {α : Type} {l m : List α} {j : Nat} {x y : α} (hlt : j < l.length) (hlt2 : j < m.length) (hx : l[j] = x) (hy : m[j] = y) (hxy : x = y) (HJ : ∀ k (h : k < l.length) (h2 : k < m.length), k < j → l[k] = m[k]) : ∀ k (h : k < l.length) (h2 : k < m.length), k < j + 1 → l[k] = m[k] := by
  intro k h h2 hk
  by_cases hkj : k = j
  · subst hkj; rw [hx, hy, hxy]
  · exact HJ k h h2 (by omega)
theorem eq_not {α : Type} {l m : List α} {j : Nat} {x y : α} (hlt : j < l.length) (hlt2 : j < m.length) (hx : l[j] = x) (hy : m[j] = y) (hxy : x ≠ y) : l ≠ m := by
  intro e
  subst e
  exact hxy (hx.symm.trans hy)

set_option maxRecDepth 100000 in
set_option maxHeartbeats 3200000 in
theorem eqa_c (B1 B2 : Nat) (p1 p2 : Option Addr) (l m : List (List (Int × Int))) (c1 c2 : Nat) (hl : l.length ≤ 1000000000) (hn : Hid (∀ x ∈ l, x.length ≤ 1000000000)) (w : World) (H1 : Hid (ArgsIn B1 w p1 l)) (H2 : Hid (ArgsIn B2 w p2 m)) (b : Bool) (hb : Hid (decide (l = m) = b)) :
    Calls Tryz.prog 52 #[.slice p1 l.length c1, .slice p2 m.length c2, .func (.func 53) #[] #[]] w fun e w' => e = .returned (.bool b) ∧ Below w.heap.size w w' := by
  by_cases hlm : l.length = m.length
  · have hlmi : ((l.length : Int) == (m.length : Int)) = true := by rw [hlm]; exact beq_self_eq_true _
    rw [← hlm]
    have hlmH := Lib.hid hlm
    clear hlm hlmi
    go_enter Tryz.func52, Tryz.ntmps52
    go_wp2_with fail
    go_loopw [17] (fun i wr => ∃ j : Nat, j ≤ l.length ∧ Hid (∀ k (h : k < l.length) (h2 : k < m.length), k < j → l[k] = m[k]) ∧ i = .int .i64 j ∧ Hid (Below w.heap.size w wr)) (fun i _ => l.length - (intOf i).toNat)
    case atStart => exact ⟨0, Nat.zero_le _, fun k _ _ h => absurd h (Nat.not_lt_zero _), rfl, Below.refl _ _⟩
    case round =>
    obtain ⟨j, hj, HJ, rfl, HB⟩ := hrel
    rename_i wr
    by_cases hlt : j < l.length
    · have hlt2 : j < m.length := by have := hlmH.out; omega
      have hlti : (j : Int) < (l.length : Int) := by omega
      obtain ⟨b1, o1, u1, rfl, _, hh1, hc1⟩ := (H1.out.below HB.out) (by omega)
      obtain ⟨b2, o2, u2, rfl, _, hh2, hc2⟩ := (H2.out.below HB.out) (by have := hlmH.out; omega)
      obtain ⟨x, hx⟩ : ∃ x, l[j] = x := ⟨_, rfl⟩
      obtain ⟨y, hy⟩ : ∃ y, m[j] = y := ⟨_, rfl⟩
      have HNX : Hid (x.length ≤ 1000000000) := hn.out x (by rw [← hx]; exact List.getElem_mem hlt)
      obtain ⟨q1, d1, ht1, hn1⟩ := hc1 j hlt
      obtain ⟨q2, d2, ht2, hn2⟩ := hc2 j hlt2
      rw [hx] at ht1 hn1
      rw [hy] at ht2 hn2
      have x1 : wr.cell? ⟨b1, o1 + j, none⟩ = some (.slice q1 x.length d1) := by simp [World.cell?, hh1, ht1]
      have y1 : wr.cell? ⟨b2, o2 + j, none⟩ = some (.slice q2 y.length d2) := by simp [World.cell?, hh2, ht2]
      have HN1 := Lib.hid hn1
      have HN2 := Lib.hid hn2
      obtain ⟨q, hq⟩ : ∃ q, decide (x = y) = q := ⟨_, rfl⟩
      have HQ := Lib.hid hq
      have HX := Lib.hid (And.intro hx hy)
      clear hx hy hq hn1 hn2 ht1 ht2 hc1 hc2 hh1 hh2
      go_wp2_with fail
      with_reducible refine (eqo_c B1 B2 q1 q2 x y d1 d2 HNX.out _ HN1 HN2 q HQ).mono ?_
      rintro en w9 ⟨rfl, hd⟩
      have HW9 := Lib.hid (HB.out.trans ((drew_below hd).mono HB.out.size))
      clear hd
      cases q with
      | true =>
        have HJ3 := Lib.hid (eq_next (l := l) (m := m) hlt hlt2 HX.out.1 HX.out.2 (of_decide_eq_true HQ.out) HJ.out)
        go_wp2_with fail
        go_round <;> first | exact ⟨j + 1, by omega, HJ3.out, by go_num, HW9.out⟩ | (simp [intOf]; omega) | (simp [intOf] <;> omega)
      | false =>
        have HG : Hid (false = b) := by
          show _ = _
          rw [← hb.out]
          exact (decide_eq_false (eq_not (l := l) (m := m) hlt hlt2 HX.out.1 HX.out.2 (of_decide_eq_false HQ.out))).symm
        go_wp2_with fail
        go_ret
        exact ⟨ret_b HG.out, HW9.out⟩
    · have HG : Hid (true = b) := by
        show _ = _
        rw [← hb.out]
        refine (decide_eq_true ?_).symm
        exact List.ext_getElem hlmH.out (fun k h h2 => HJ.out k h h2 (by omega))
      have hlti : ¬ ((j : Int) < (l.length : Int)) := by omega
      go_wp2_with fail
      go_ret
      exact ⟨ret_b HG.out, HB.out⟩
  · have hlmi : ((l.length : Int) == (m.length : Int)) = false := by rw [beq_eq_false_iff_ne]; omega
    have HG : Hid (false = b) := by
      show _ = _
      rw [← hb.out]
      refine (decide_eq_false ?_).symm
      intro e
      exact hlm (by rw [e])
    go_enter Tryz.func52, Tryz.ntmps52
    go_wp2_with fail
    go_ret
    exact ⟨ret_b HG.out, Below.refl _ _⟩

set_option maxRecDepth 100000 in
set_option maxHeartbeats 3200000 in
theorem sblock_raw (B1 B2 : Nat) (k1 k2 n1 n2 : Int) (t1 t2 : ByteArray) (p1 p2 : Option Addr) (l1 l2 : List (List (Int × Int))) (c1 c2 : Nat) (hl : l1.length ≤ 1000000000) (hn : Hid (∀ x ∈ l1, x.length ≤ 1000000000)) (w : World) (H1 : Hid (ArgsIn B1 w p1 l1)) (H2 : Hid (ArgsIn B2 w p2 l2)) (b : Bool)
    (hb : Hid ((k1 == k2 && (n1 == n2 && (decide (t1 = t2) && decide (l1 = l2)))) = b)) :
    Calls Tryz.prog 34 #[.agg #[.int .i64 k1, .int .i64 n1, .string t1, .slice p1 l1.length c1], .agg #[.int .i64 k2, .int .i64 n2, .string t2, .slice p2 l2.length c2]] w fun e w' => e = .returned (.bool b) ∧ Below w.heap.size w w' := by
  obtain ⟨bn, hbn⟩ : ∃ bn, decide (l1 = l2) = bn := ⟨_, rfl⟩
  have HBN := Lib.hid hbn
  have hB := hb.out
  rw [hbn] at hB
  have HG2 : Hid (((w.alloc (.cells #[.int .i64 k1, .int .i64 n1, .string t1, .slice p1 l1.length c1] 74)).alloc (.cells #[.int .i64 k2, .int .i64 n2, .string t2, .slice p2 l2.length c2] 74)).heap[w.heap.size + 1]? = some (.cells #[.int .i64 k2, .int .i64 n2, .string t2, .slice p2 l2.length c2] 74)) := two_new w _ _
  have HG1 : Hid (((w.alloc (.cells #[.int .i64 k1, .int .i64 n1, .string t1, .slice p1 l1.length c1] 74)).alloc (.cells #[.int .i64 k2, .int .i64 n2, .string t2, .slice p2 l2.length c2] 74)).heap[w.heap.size]? = some (.cells #[.int .i64 k1, .int .i64 n1, .string t1, .slice p1 l1.length c1] 74)) := one_below (heap_alloc_new w _) ((Below.refl _ _).alloc (Nat.le_refl _) _)
  have hbel : Below w.heap.size w ((w.alloc (.cells #[.int .i64 k1, .int .i64 n1, .string t1, .slice p1 l1.length c1] 74)).alloc (.cells #[.int .i64 k2, .int .i64 n2, .string t2, .slice p2 l2.length c2] 74)) := ((Below.refl _ _).alloc (Nat.le_refl _) _).alloc (by simp) _
  have HN1 := Lib.hid (H1.out.below hbel)
  have HN2 := Lib.hid (H2.out.below hbel)
  have HBEL := Lib.hid hbel
  clear hbel hb hbn
  go_enter Tryz.func34, Tryz.ntmps34
  go_upto_region 1 with fail
  generalize (w.alloc (.cells #[.int .i64 k1, .int .i64 n1, .string t1, .slice p1 l1.length c1] 74)).alloc (.cells #[.int .i64 k2, .int .i64 n2, .string t2, .slice p2 l2.length c2] 74) = W at HG1 HG2 HN1 HN2 HBEL ⊢
  obtain ⟨d0, d1, d2, d3⟩ := wd_at HG1.out
  obtain ⟨e0, e1, e2, e3⟩ := wd_at HG2.out
  by_cases q0 : k1 = k2
  · subst q0
    have rr0 : (k1 == k1) = true := beq_self_eq_true _
    by_cases q1 : n1 = n2
    · subst q1
      have rr1 : (n1 == n1) = true := beq_self_eq_true _
      by_cases q2 : t1 = t2
      · subst q2
        have rr2 : (t1.toList == t1.toList) = true := beq_self_eq_true _
        have HB : Hid (bn = b) := by show _ = _; rw [← hB]; simp
        clear hB
        go_wp2_with fail
        with_reducible refine (eqa_c B1 B2 p1 p2 l1 l2 c1 c2 hl hn _ HN1 HN2 bn HBN).mono ?_
        rintro en w9 ⟨rfl, hb9⟩
        have HB9 := Lib.hid hb9
        clear hb9
        go_wp2_with fail
        go_ret
        exact ⟨ret_b HB.out, HBEL.out.trans (HB9.out.mono HBEL.out.size)⟩
      · have rr2 : (t1.toList == t2.toList) = false := by
          rw [Lib.toList_data, Lib.toList_data, beq_eq_false_iff_ne]
          intro e
          exact q2 (str_eq e)
        have HB : Hid (false = b) := by show _ = _; rw [← hB]; simp [q2]
        clear hB q2
        go_wp2_with fail
        go_ret
        exact ⟨ret_b HB.out, HBEL.out⟩
    · have rr1 : (n1 == n2) = false := beq_eq_false_iff_ne.2 q1
      have HB : Hid (false = b) := by show _ = _; rw [← hB]; simp [q1]
      clear hB q1
      go_wp2_with fail
      go_ret
      exact ⟨ret_b HB.out, HBEL.out⟩
  · have rr0 : (k1 == k2) = false := beq_eq_false_iff_ne.2 q0
    have HB : Hid (false = b) := by show _ = _; rw [← hB]; simp [q0]
    clear hB q0
    go_wp2_with fail
    go_ret
    exact ⟨ret_b HB.out, HBEL.out⟩
theorem sblock_c (B1 B2 : Nat) (x y : Blk) (p1 p2 : Option Addr) (c1 c2 : Nat) (hf : Hid (finB x)) (w : World) (H1 : Hid (ArgsIn B1 w p1 x.args)) (H2 : Hid (ArgsIn B2 w p2 y.args)) (b : Bool) (hb : Hid (decide (x = y) = b)) :
    Calls Tryz.prog 34 #[.agg #[.int .i64 x.k, .int .i64 x.n, .string ⟨x.t.toArray⟩, .slice p1 x.args.length c1], .agg #[.int .i64 y.k, .int .i64 y.n, .string ⟨y.t.toArray⟩, .slice p2 y.args.length c2]] w fun e w' => e = .returned (.bool b) ∧ Below w.heap.size w w' := by
  refine sblock_raw B1 B2 x.k y.k x.n y.n _ _ p1 p2 x.args y.args c1 c2 hf.out.1 (Lib.hid hf.out.2) w H1 H2 b ?_
  show _ = _
  rw [← hb.out, Bool.eq_iff_iff]
  simp only [Bool.and_eq_true, beq_iff_eq, decide_eq_true_eq, bs_inj]
  cases x; cases y
  simp only [Blk.mk.injEq]

set_option maxRecDepth 100000 in
set_option maxHeartbeats 6400000 in
theorem eqb_c (B1 B2 : Nat) (p1 p2 : Option Addr) (l m : List Blk) (c1 c2 : Nat) (hl : l.length ≤ 1000000000) (hn : Hid (∀ x ∈ l, finB x)) (w : World) (H1 : Hid (BlksIn B1 w p1 l)) (H2 : Hid (BlksIn B2 w p2 m)) (b : Bool) (hb : Hid (decide (l = m) = b)) :
    Calls Tryz.prog 33 #[.slice p1 l.length c1, .slice p2 m.length c2, .func (.func 34) #[] #[]] w fun e w' => e = .returned (.bool b) ∧ Below w.heap.size w w' := by
  by_cases hlm : l.length = m.length
  · have hlmi : ((l.length : Int) == (m.length : Int)) = true := by rw [hlm]; exact beq_self_eq_true _
    rw [← hlm]
    have hlmH := Lib.hid hlm
    clear hlm hlmi
    go_enter Tryz.func33, Tryz.ntmps33
    go_wp2_with fail
    go_loopw [17] (fun i wr => ∃ j : Nat, j ≤ l.length ∧ Hid (∀ k (h : k < l.length) (h2 : k < m.length), k < j → l[k] = m[k]) ∧ i = .int .i64 j ∧ Hid (Below w.heap.size w wr)) (fun i _ => l.length - (intOf i).toNat)
    case atStart => exact ⟨0, Nat.zero_le _, fun k _ _ h => absurd h (Nat.not_lt_zero _), rfl, Below.refl _ _⟩
    case round =>
    obtain ⟨j, hj, HJ, rfl, HB⟩ := hrel
    rename_i wr
    by_cases hlt : j < l.length
    · have hlt2 : j < m.length := by have := hlmH.out; omega
      have hlti : (j : Int) < (l.length : Int) := by omega
      obtain ⟨b1, o1, u1, rfl, _, hh1, hc1⟩ := (H1.out.below HB.out) (by omega)
      obtain ⟨b2, o2, u2, rfl, _, hh2, hc2⟩ := (H2.out.below HB.out) (by have := hlmH.out; omega)
      obtain ⟨x, hx⟩ : ∃ x, l[j] = x := ⟨_, rfl⟩
      obtain ⟨y, hy⟩ : ∃ y, m[j] = y := ⟨_, rfl⟩
      have HNX : Hid (finB x) := hn.out x (by rw [← hx]; exact List.getElem_mem hlt)
      obtain ⟨q1, d1, f0, f1, f2, f3, hn1⟩ := hc1 j hlt
      obtain ⟨q2, d2, g0, g1, g2, g3, hn2⟩ := hc2 j hlt2
      rw [hx] at f0 f1 f2 f3 hn1
      rw [hy] at g0 g1 g2 g3 hn2
      have s0 : wr.cell? ⟨b1, o1 + j * 4, none⟩ = some (.int .i64 x.k) := by simp [World.cell?, hh1, f0]
      have s1 : wr.cell? ⟨b1, o1 + j * 4 + 1, none⟩ = some (.int .i64 x.n) := by simp [World.cell?, hh1, f1]
      have s2 : wr.cell? ⟨b1, o1 + j * 4 + 2, none⟩ = some (.string ⟨x.t.toArray⟩) := by simp [World.cell?, hh1, f2]
      have s3 : wr.cell? ⟨b1, o1 + j * 4 + 3, none⟩ = some (.slice q1 x.args.length d1) := by simp [World.cell?, hh1, f3]
      have HY : Hid (wr.heap[b2]? = some (.cells u2 74) ∧ u2[o2 + j * 4]? = some (.int .i64 y.k) ∧ u2[o2 + j * 4 + 1]? = some (.int .i64 y.n) ∧ u2[o2 + j * 4 + 2]? = some (.string ⟨y.t.toArray⟩) ∧ u2[o2 + j * 4 + 3]? = some (.slice q2 y.args.length d2)) := ⟨hh2, g0, g1, g2, g3⟩
      have HN1 := Lib.hid hn1
      have HN2 := Lib.hid hn2
      obtain ⟨q, hq⟩ : ∃ q, decide (x = y) = q := ⟨_, rfl⟩
      have HQ := Lib.hid hq
      have HX := Lib.hid (And.intro hx hy)
      clear hx hy hq hn1 hn2 hc1 hc2 hh1 hh2 f0 f1 f2 f3 g0 g1 g2 g3
      go_upto_region 6 with fail
      have HB1 : Hid (Below wr.heap.size wr (wr.alloc (.cells #[.int .i64 x.k, .int .i64 x.n, .string ⟨x.t.toArray⟩, .slice q1 x.args.length d1] 74))) := (Below.refl _ _).alloc (Nat.le_refl _) _
      have HO1 := Lib.hid (heap_alloc_new wr (.cells #[.int .i64 x.k, .int .i64 x.n, .string ⟨x.t.toArray⟩, .slice q1 x.args.length d1] 74))
      obtain ⟨gg1, hg1⟩ : ∃ g, wr.heap.size = g := ⟨_, rfl⟩
      rw [hg1] at HO1
      clear s0 s1 s2 s3
      generalize wr.alloc (.cells #[.int .i64 x.k, .int .i64 x.n, .string ⟨x.t.toArray⟩, .slice q1 x.args.length d1] 74) = W1 at HB1 HO1 ⊢
      rw [hg1]
      have hh3 := one_below HY.out.1 HB1.out
      have s0 : W1.cell? ⟨b2, o2 + j * 4, none⟩ = some (.int .i64 y.k) := by simp [World.cell?, hh3, HY.out.2.1]
      have s1 : W1.cell? ⟨b2, o2 + j * 4 + 1, none⟩ = some (.int .i64 y.n) := by simp [World.cell?, hh3, HY.out.2.2.1]
      have s2 : W1.cell? ⟨b2, o2 + j * 4 + 2, none⟩ = some (.string ⟨y.t.toArray⟩) := by simp [World.cell?, hh3, HY.out.2.2.2.1]
      have s3 : W1.cell? ⟨b2, o2 + j * 4 + 3, none⟩ = some (.slice q2 y.args.length d2) := by simp [World.cell?, hh3, HY.out.2.2.2.2]
      clear hh3
      go_upto_region 7 with fail
      have HB2 : Hid (Below W1.heap.size W1 (W1.alloc (.cells #[.int .i64 y.k, .int .i64 y.n, .string ⟨y.t.toArray⟩, .slice q2 y.args.length d2] 74))) := (Below.refl _ _).alloc (Nat.le_refl _) _
      have HO2 := Lib.hid (heap_alloc_new W1 (.cells #[.int .i64 y.k, .int .i64 y.n, .string ⟨y.t.toArray⟩, .slice q2 y.args.length d2] 74))
      have HO3 := Lib.hid (one_below HO1.out HB2.out)
      obtain ⟨gg2, hg2⟩ : ∃ g, W1.heap.size = g := ⟨_, rfl⟩
      have HBB : Hid (Below wr.heap.size wr (W1.alloc (.cells #[.int .i64 y.k, .int .i64 y.n, .string ⟨y.t.toArray⟩, .slice q2 y.args.length d2] 74))) := HB1.out.trans (HB2.out.mono HB1.out.size)
      rw [hg2] at HO2
      clear s0 s1 s2 s3 HO1 HB1 HB2
      generalize W1.alloc (.cells #[.int .i64 y.k, .int .i64 y.n, .string ⟨y.t.toArray⟩, .slice q2 y.args.length d2] 74) = W2 at HO2 HO3 HBB ⊢
      rw [hg2]
      clear hg2
      obtain ⟨z0, z1, z2, z3⟩ := wd_at HO3.out
      obtain ⟨v0, v1, v2, v3⟩ := wd_at HO2.out
      have HM1 := Lib.hid (HN1.out.below HBB.out)
      have HM2 := Lib.hid (HN2.out.below HBB.out)
      have HW2 := Lib.hid (HB.out.trans (HBB.out.mono HB.out.size))
      clear HBB HN1 HN2
      go_wp2_with fail
      with_reducible refine (sblock_c B1 B2 x y q1 q2 d1 d2 HNX _ HM1 HM2 q HQ).mono ?_
      rintro en w9 ⟨rfl, hb9⟩
      have HW9 := Lib.hid (HW2.out.trans (hb9.mono HW2.out.size))
      clear hb9
      cases q with
      | true =>
        have HJ3 := Lib.hid (eq_next (l := l) (m := m) hlt hlt2 HX.out.1 HX.out.2 (of_decide_eq_true HQ.out) HJ.out)
        go_wp2_with fail
        go_round <;> first | exact ⟨j + 1, by omega, HJ3.out, by go_num, HW9.out⟩ | (simp [intOf]; omega) | (simp [intOf] <;> omega)
      | false =>
        have HG : Hid (false = b) := by
          show _ = _
          rw [← hb.out]
          exact (decide_eq_false (eq_not (l := l) (m := m) hlt hlt2 HX.out.1 HX.out.2 (of_decide_eq_false HQ.out))).symm
        go_wp2_with fail
        go_ret
        exact ⟨ret_b HG.out, HW9.out⟩
    · have HG : Hid (true = b) := by
        show _ = _
        rw [← hb.out]
        refine (decide_eq_true ?_).symm
        exact List.ext_getElem hlmH.out (fun k h h2 => HJ.out k h h2 (by omega))
      have hlti : ¬ ((j : Int) < (l.length : Int)) := by omega
      go_wp2_with fail
      go_ret
      exact ⟨ret_b HG.out, HB.out⟩
  · have hlmi : ((l.length : Int) == (m.length : Int)) = false := by rw [beq_eq_false_iff_ne]; omega
    have HG : Hid (false = b) := by
      show _ = _
      rw [← hb.out]
      refine (decide_eq_false ?_).symm
      intro e
      exact hlm (by rw [e])
    go_enter Tryz.func33, Tryz.ntmps33
    go_wp2_with fail
    go_ret
    exact ⟨ret_b HG.out, Below.refl _ _⟩
end Go.Proofs.YtglmofeeggjemaaGreatDoor.GW
