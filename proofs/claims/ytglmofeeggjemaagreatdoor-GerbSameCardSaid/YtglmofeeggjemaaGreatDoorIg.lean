/-
  The walk of gerb's Same.
-/
import Derived.Test.YtglmofeeggjemaaGreatDoorIf
import Derived.BigQuiet
set_option linter.unusedVariables false
namespace Go.Proofs.YtglmofeeggjemaaGreatDoor.GW
open Go.RowKit Go.Proofs.YtglmofeeggjemaaGreatDoor.Base Go.Proofs.YtglmofeeggjemaaGreatDoor.Dp Go.Proofs.YtglmofeeggjemaaGreatDoor.DeciW Go.Proofs.YtglmofeeggjemaaGreatDoor.Mem Go.Proofs.YtglmofeeggjemaaGreatDoor.RdW Go.Proofs.YtglmofeeggjemaaGreatDoor.Gp

/-- same: all but where they stand. -/
theorem gsame_c (B1 B2 : Nat) (x y : C) (a1 a2 : Int) (p1 p2 r1 r2 : Option Addr) (c1 c2 g1 g2 : Nat) (hf : Hid (finC x)) (w : World) (H1 : Hid (NumsIn B1 w p1 x.nums)) (H2 : Hid (NumsIn B2 w p2 y.nums)) (K1 : Hid (BlksIn B1 w r1 x.blocks)) (K2 : Hid (BlksIn B2 w r2 y.blocks)) (b : Bool) (hb : Hid (decide (x = y) = b)) :
    Calls Tryz.prog 15 #[cmVal x a1 (.slice p1 x.nums.length c1) (.slice r1 x.blocks.length g1), cmVal y a2 (.slice p2 y.nums.length c2) (.slice r2 y.blocks.length g2)] w fun e w' => e = .returned (.bool b) ∧ Below w.heap.size w w' := by
  refine gsame_raw B1 B2 a1 a2 x.k y.k x.n y.n x.m y.m x.on y.on _ _ _ _ _ _ _ _ _ _ p1 p2 r1 r2 x.nums y.nums x.blocks y.blocks c1 c2 g1 g2 hf.out.1 hf.out.2.1 (Lib.hid hf.out.2.2) w H1 H2 K1 K2 b ?_
  show _ = _
  rw [← hb.out, Bool.eq_iff_iff]
  simp only [Bool.and_eq_true, beq_iff_eq, decide_eq_true_eq, bs_inj]
  cases x; cases y
  simp only [C.mk.injEq]

set_option maxRecDepth 100000 in
set_option maxHeartbeats 6400000 in
theorem eqc_c (B1 B2 : Nat) (p1 p2 : Option Addr) (l m : List (Nat × C)) (c1 c2 : Nat) (hl : l.length ≤ 1000000000) (hn : Hid (∀ x ∈ l, finC x.2)) (w : World) (H1 : Hid (ReadC B1 w p1 l)) (H2 : Hid (ReadC B2 w p2 m)) (b : Bool) (hb : Hid (decide (l.map Prod.snd = m.map Prod.snd) = b)) :
    Calls Tryz.prog 14 #[.slice p1 l.length c1, .slice p2 m.length c2, .func (.func 15) #[] #[]] w fun e w' => e = .returned (.bool b) ∧ Below w.heap.size w w' := by
  by_cases hlm : l.length = m.length
  · have hlmi : ((l.length : Int) == (m.length : Int)) = true := by rw [hlm]; exact beq_self_eq_true _
    rw [← hlm]
    have hlmH := Lib.hid hlm
    clear hlm hlmi
    go_enter Tryz.func14, Tryz.ntmps14
    go_wp2_with fail
    go_loopw [17] (fun i wr => ∃ j : Nat, j ≤ l.length ∧ Hid (∀ k (h : k < l.length) (h2 : k < m.length), k < j → l[k].2 = m[k].2) ∧ i = .int .i64 j ∧ Hid (Below w.heap.size w wr)) (fun i _ => l.length - (intOf i).toNat)
    case atStart => exact ⟨0, Nat.zero_le _, fun k _ _ h => absurd h (Nat.not_lt_zero _), rfl, Below.refl _ _⟩
    case round =>
    obtain ⟨j, hj, HJ, rfl, HB⟩ := hrel
    rename_i wr
    by_cases hlt : j < l.length
    · have hlt2 : j < m.length := by have := hlmH.out; omega
      have hlti : (j : Int) < (l.length : Int) := by omega
      obtain ⟨b1, o1, u1, rfl, _, hh1, hc1⟩ := (H1.out.below HB.out) (by omega)
      obtain ⟨b2, o2, u2, rfl, _, hh2, hc2⟩ := (H2.out.below HB.out) (by have := hlmH.out; omega)
      obtain ⟨x, hx⟩ : ∃ x, l[j] = x := ⟨_, rfl⟩
      obtain ⟨y, hy⟩ : ∃ y, m[j] = y := ⟨_, rfl⟩
      have HNX : Hid (finC x.2) := hn.out x (by rw [← hx]; exact List.getElem_mem hlt)
      obtain ⟨q1, r1, k1, m1, f1, hn1, hk1⟩ := hc1 j hlt
      obtain ⟨q2, r2, k2, m2, f2, hn2, hk2⟩ := hc2 j hlt2
      rw [hx] at hn1 hk1
      rw [hy] at hn2 hk2
      simp only [hx] at f1
      simp only [hy] at f2
      obtain ⟨s0, s1, s2, s3, s4, s5, s6, s7, s8, s9, s10, s11⟩ := cmAt_of (o := o1 + j * 12) hh1 f1
      have HY := Lib.hid (And.intro hh2 f2)
      have HN1 := Lib.hid hn1
      have HN2 := Lib.hid hn2
      have HK1 := Lib.hid hk1
      have HK2 := Lib.hid hk2
      obtain ⟨q, hq⟩ : ∃ q, decide (x.2 = y.2) = q := ⟨_, rfl⟩
      have HQ := Lib.hid hq
      have HX := Lib.hid (And.intro hx hy)
      clear hx hy hq hn1 hn2 hk1 hk2 hc1 hc2 hh1 hh2 f1 f2
      go_upto_region 6 with fail
      have HB1 : Hid (Below wr.heap.size wr (wr.alloc (.cells #[.int .i64 (x.1 : Int), .int .i64 x.2.k, .int .i64 x.2.n, .int .i64 x.2.m, .bool x.2.on, .string ⟨x.2.t.toArray⟩, .string ⟨x.2.x.toArray⟩, .string ⟨x.2.y.toArray⟩, .string ⟨x.2.i.toArray⟩, .string ⟨x.2.j.toArray⟩, .slice q1 x.2.nums.length k1, .slice r1 x.2.blocks.length m1] 32))) := (Below.refl _ _).alloc (Nat.le_refl _) _
      have HO1 := Lib.hid (heap_alloc_new wr (.cells #[.int .i64 (x.1 : Int), .int .i64 x.2.k, .int .i64 x.2.n, .int .i64 x.2.m, .bool x.2.on, .string ⟨x.2.t.toArray⟩, .string ⟨x.2.x.toArray⟩, .string ⟨x.2.y.toArray⟩, .string ⟨x.2.i.toArray⟩, .string ⟨x.2.j.toArray⟩, .slice q1 x.2.nums.length k1, .slice r1 x.2.blocks.length m1] 32))
      obtain ⟨gg1, hg1⟩ : ∃ g, wr.heap.size = g := ⟨_, rfl⟩
      rw [hg1] at HO1
      clear s0 s1 s2 s3 s4 s5 s6 s7 s8 s9 s10 s11
      generalize wr.alloc (.cells #[.int .i64 (x.1 : Int), .int .i64 x.2.k, .int .i64 x.2.n, .int .i64 x.2.m, .bool x.2.on, .string ⟨x.2.t.toArray⟩, .string ⟨x.2.x.toArray⟩, .string ⟨x.2.y.toArray⟩, .string ⟨x.2.i.toArray⟩, .string ⟨x.2.j.toArray⟩, .slice q1 x.2.nums.length k1, .slice r1 x.2.blocks.length m1] 32) = W1 at HB1 HO1 ⊢
      rw [hg1]
      have hh3 := one_below HY.out.1 HB1.out
      obtain ⟨s0, s1, s2, s3, s4, s5, s6, s7, s8, s9, s10, s11⟩ := cmAt_of (o := o2 + j * 12) hh3 HY.out.2
      clear hh3
      go_upto_region 7 with fail
      have HB2 : Hid (Below W1.heap.size W1 (W1.alloc (.cells #[.int .i64 (y.1 : Int), .int .i64 y.2.k, .int .i64 y.2.n, .int .i64 y.2.m, .bool y.2.on, .string ⟨y.2.t.toArray⟩, .string ⟨y.2.x.toArray⟩, .string ⟨y.2.y.toArray⟩, .string ⟨y.2.i.toArray⟩, .string ⟨y.2.j.toArray⟩, .slice q2 y.2.nums.length k2, .slice r2 y.2.blocks.length m2] 32))) := (Below.refl _ _).alloc (Nat.le_refl _) _
      have HO2 := Lib.hid (heap_alloc_new W1 (.cells #[.int .i64 (y.1 : Int), .int .i64 y.2.k, .int .i64 y.2.n, .int .i64 y.2.m, .bool y.2.on, .string ⟨y.2.t.toArray⟩, .string ⟨y.2.x.toArray⟩, .string ⟨y.2.y.toArray⟩, .string ⟨y.2.i.toArray⟩, .string ⟨y.2.j.toArray⟩, .slice q2 y.2.nums.length k2, .slice r2 y.2.blocks.length m2] 32))
      have HO3 := Lib.hid (one_below HO1.out HB2.out)
      obtain ⟨gg2, hg2⟩ : ∃ g, W1.heap.size = g := ⟨_, rfl⟩
      have HBB : Hid (Below wr.heap.size wr (W1.alloc (.cells #[.int .i64 (y.1 : Int), .int .i64 y.2.k, .int .i64 y.2.n, .int .i64 y.2.m, .bool y.2.on, .string ⟨y.2.t.toArray⟩, .string ⟨y.2.x.toArray⟩, .string ⟨y.2.y.toArray⟩, .string ⟨y.2.i.toArray⟩, .string ⟨y.2.j.toArray⟩, .slice q2 y.2.nums.length k2, .slice r2 y.2.blocks.length m2] 32))) := HB1.out.trans (HB2.out.mono HB1.out.size)
      rw [hg2] at HO2
      clear s0 s1 s2 s3 s4 s5 s6 s7 s8 s9 s10 s11 HO1 HB1 HB2
      generalize W1.alloc (.cells #[.int .i64 (y.1 : Int), .int .i64 y.2.k, .int .i64 y.2.n, .int .i64 y.2.m, .bool y.2.on, .string ⟨y.2.t.toArray⟩, .string ⟨y.2.x.toArray⟩, .string ⟨y.2.y.toArray⟩, .string ⟨y.2.i.toArray⟩, .string ⟨y.2.j.toArray⟩, .slice q2 y.2.nums.length k2, .slice r2 y.2.blocks.length m2] 32) = W2 at HO2 HO3 HBB ⊢
      rw [hg2]
      clear hg2
      obtain ⟨⟨d0, d1, d2, d3, d4, d5, d6, d7, d8, d9, d10, d11⟩, _⟩ := cm_at HO3.out
      obtain ⟨⟨e0, e1, e2, e3, e4, e5, e6, e7, e8, e9, e10, e11⟩, _⟩ := cm_at HO2.out
      have HM1 := Lib.hid (HN1.out.below HBB.out)
      have HM2 := Lib.hid (HN2.out.below HBB.out)
      have HL1 := Lib.hid (HK1.out.below HBB.out)
      have HL2 := Lib.hid (HK2.out.below HBB.out)
      have HW2 := Lib.hid (HB.out.trans (HBB.out.mono HB.out.size))
      clear HBB HN1 HN2 HK1 HK2
      go_wp2_with fail
      refine (gsame_c B1 B2 x.2 y.2 (x.1 : Int) (y.1 : Int) q1 q2 r1 r2 k1 k2 m1 m2 HNX _ HM1 HM2 HL1 HL2 q HQ).mono ?_
      rintro en w9 ⟨rfl, hb9⟩
      have HW9 := Lib.hid (HW2.out.trans (hb9.mono HW2.out.size))
      clear hb9 d0 d1 d2 d3 d4 d5 d6 d7 d8 d9 d10 d11 e0 e1 e2 e3 e4 e5 e6 e7 e8 e9 e10 e11
      cases q with
      | true =>
        have HJ3 : Hid (∀ k (h : k < l.length) (h2 : k < m.length), k < j + 1 → l[k].2 = m[k].2) := by
          intro k h h2 hk
          by_cases hkj : k = j
          · subst hkj
            rw [HX.out.1, HX.out.2]
            exact of_decide_eq_true HQ.out
          · exact HJ.out k h h2 (by omega)
        go_wp2_with fail
        go_round <;> first | exact ⟨j + 1, by omega, HJ3.out, by go_num, HW9.out⟩ | (simp [intOf]; omega) | (simp [intOf] <;> omega)
      | false =>
        have HG : Hid (false = b) := by
          show _ = _
          rw [← hb.out]
          refine (decide_eq_false ?_).symm
          intro e
          refine of_decide_eq_false HQ.out ?_
          have e2 : (l.map Prod.snd)[j]'(by simpa using hlt) = (m.map Prod.snd)[j]'(by simpa using hlt2) := by simp only [e]
          simp only [List.getElem_map, HX.out.1, HX.out.2] at e2
          exact e2
        go_wp2_with fail
        go_ret
        exact ⟨ret_b HG.out, HW9.out⟩
    · have HG : Hid (true = b) := by
        show _ = _
        rw [← hb.out]
        refine (decide_eq_true ?_).symm
        refine List.ext_getElem (by simp [hlmH.out]) (fun k h h2 => ?_)
        simp only [List.getElem_map]
        have hk1 : k < l.length := by simpa using h
        exact HJ.out k hk1 (by simpa using h2) (by omega)
      have hlti : ¬ ((j : Int) < (l.length : Int)) := by omega
      go_wp2_with fail
      go_ret
      exact ⟨ret_b HG.out, HB.out⟩
  · have hlmi : ((l.length : Int) == (m.length : Int)) = false := by rw [beq_eq_false_iff_ne]; omega
    have HG : Hid (false = b) := by
      show _ = _
      rw [← hb.out]
      refine (decide_eq_false ?_).symm
      intro e
      have := congrArg List.length e
      simp at this
      exact hlm this
    go_enter Tryz.func14, Tryz.ntmps14
    go_wp2_with fail
    go_ret
    exact ⟨ret_b HG.out, Below.refl _ _⟩
theorem gSame_c (B1 B2 : Nat) (p1 p2 : Option Addr) (l m : List (Nat × C)) (c1 c2 : Nat) (hl : l.length ≤ 1000000000) (hn : Hid (∀ x ∈ l, finC x.2)) (w : World) (H1 : Hid (ReadC B1 w p1 l)) (H2 : Hid (ReadC B2 w p2 m)) (b : Bool) (hb : Hid (decide (l.map Prod.snd = m.map Prod.snd) = b)) :
    Calls Tryz.prog 7 #[.slice p1 l.length c1, .slice p2 m.length c2] w fun e w' => e = .returned (.bool b) ∧ Below w.heap.size w w' := by
  go_enter Tryz.func7, Tryz.ntmps7
  go_wp2_with fail
  refine (eqc_c B1 B2 p1 p2 l m c1 c2 hl hn w H1 H2 b hb).mono ?_
  rintro en w9 ⟨rfl, hb9⟩
  go_wp2_with fail
  go_ret
  exact ⟨rfl, hb9⟩
end Go.Proofs.YtglmofeeggjemaaGreatDoor.GW
