/-
  The walk of the document's own Same on commands.
-/
import Derived.Test.YtglmofeeggjemaaGreatDoorIg
import Derived.Test.YtglmofeeggjemaaGreatDoorIs
set_option linter.unusedVariables false
set_option linter.unusedSimpArgs false
namespace Go.Proofs.YtglmofeeggjemaaGreatDoor.GW
open Go.RowKit Go.Proofs.YtglmofeeggjemaaGreatDoor.Base Go.Proofs.YtglmofeeggjemaaGreatDoor.Dp Go.Proofs.YtglmofeeggjemaaGreatDoor.DeciW Go.Proofs.YtglmofeeggjemaaGreatDoor.Mem Go.Proofs.YtglmofeeggjemaaGreatDoor.RdW Go.Proofs.YtglmofeeggjemaaGreatDoor.Gp

theorem two_a (w : World) (o p : Obj) : (((w.alloc o).alloc p).drew).heap[w.heap.size]? = some o := one_below (heap_alloc_new w o) (((Below.refl (w.alloc o).heap.size (w.alloc o)).alloc (Nat.le_refl _) p).drew)
theorem two_b (w : World) (o p : Obj) : (((w.alloc o).alloc p).drew).heap[w.heap.size + 1]? = some p := by
  have h := heap_alloc_new (w.alloc o) p
  have e : (w.alloc o).heap.size = w.heap.size + 1 := by simp
  rw [e] at h
  exact h
theorem two_c (w : World) (o p : Obj) : Below w.heap.size w (((w.alloc o).alloc p).drew) := by
  have b1 := (Below.refl w.heap.size w).alloc (Nat.le_refl _) o
  exact (b1.alloc b1.size p).drew
theorem fin1 {c : C} (h : Hid (finC c)) : c.nums.length ≤ 1000000000 := h.out.1
theorem fin2 {c : C} (h : Hid (finC c)) : c.blocks.length ≤ 1000000000 := h.out.2.1
theorem fin3 {c : C} (h : Hid (finC c)) : Hid (∀ b ∈ c.blocks, finB b) := h.out.2.2

set_option maxRecDepth 100000 in
set_option maxHeartbeats 6400000 in
theorem rSame_c (B1 B2 : Nat) (p1 p2 : Option Addr) (l m : List (Nat × C)) (c1 c2 : Nat) (hl : l.length ≤ 1000000000) (hn : Hid (∀ x ∈ l, finC x.2)) (w : World) (H1 : Hid (ReadC B1 w p1 l)) (H2 : Hid (ReadC B2 w p2 m)) (b : Bool) (hb : Hid (decide (l.map Prod.snd = m.map Prod.snd) = b)) :
    Calls Tryz.prog 8 #[.slice p1 l.length c1, .slice p2 m.length c2] w fun e w' => e = .returned (.bool b) ∧ Below w.heap.size w w' := by
  by_cases hlm : l.length = m.length
  · have hlmn : ((l.length : Int) != (m.length : Int)) = false := by rw [hlm]; exact bne_self_eq_false _
    rw [← hlm]
    have hlmH := Lib.hid hlm
    clear hlm hlmn
    go_enter Tryz.func8, Tryz.ntmps8
    go_wp2_with fail
    go_loopw [5] (fun i wr => ∃ j : Nat, j ≤ l.length ∧ Hid (∀ k (h : k < l.length) (h2 : k < m.length), k < j → l[k].2 = m[k].2) ∧ i = .int .i64 j ∧ Hid (Below w.heap.size w wr)) (fun i _ => l.length - (intOf i).toNat)
    case atStart => exact ⟨0, Nat.zero_le _, fun k _ _ h => absurd h (Nat.not_lt_zero _), rfl, Below.refl _ _⟩
    case round =>
    obtain ⟨j, hj, HJ, rfl, HB⟩ := hrel
    rename_i wr
    by_cases hlt : j < l.length
    · have hlt2 : j < m.length := by have := hlmH.out; omega
      have hlti : (j : Int) < (l.length : Int) := by omega
      obtain ⟨b1, o1, u1, rfl, _, hh1, hc1⟩ := (H1.out.below HB.out) (by omega)
      obtain ⟨b2, o2, u2, rfl, _, hh2, hc2⟩ := (H2.out.below HB.out) (by have := hlmH.out; omega)
      obtain ⟨x, hx⟩ : ∃ x, l[j] = x := ⟨_, rfl⟩
      obtain ⟨y, hy⟩ : ∃ y, m[j] = y := ⟨_, rfl⟩
      have HNX : Hid (finC x.2) := hn.out x (by rw [← hx]; exact List.getElem_mem hlt)
      obtain ⟨q1, r1, k1, m1, f1, hn1, hk1⟩ := hc1 j hlt
      obtain ⟨q2, r2, k2, m2, f2, hn2, hk2⟩ := hc2 j hlt2
      rw [hx] at hn1 hk1
      rw [hy] at hn2 hk2
      simp only [hx] at f1
      simp only [hy] at f2
      have HN1 := Lib.hid hn1
      have HN2 := Lib.hid hn2
      have HK1 := Lib.hid hk1
      have HK2 := Lib.hid hk2
      have HJ2 : x.2 = y.2 → Hid (∀ k (h : k < l.length) (h2 : k < m.length), k < j + 1 → l[k].2 = m[k].2) := by
        intro hq
        show ∀ k (h : k < l.length) (h2 : k < m.length), k < j + 1 → l[k].2 = m[k].2
        intro k h h2 hk
        by_cases hkj : k = j
        · subst hkj
          rw [hx, hy]
          exact hq
        · exact HJ.out k h h2 (by omega)
      have HF : ¬ x.2 = y.2 → Hid (false = b) := by
        intro hq
        show _ = _
        rw [← hb.out]
        refine (decide_eq_false ?_).symm
        intro e
        refine hq ?_
        have e2 : (l.map Prod.snd)[j]'(by simpa using hlt) = (m.map Prod.snd)[j]'(by simpa using hlt2) := by simp only [e]
        simp only [List.getElem_map, hx, hy] at e2
        exact e2
      have HJF := Lib.hid (And.intro HJ2 HF)
      clear HJ2 HF
      obtain ⟨s0, s1, s2, s3, s4, s5, s6, s7, s8, s9, s10, s11⟩ := cmAt_of (o := o1 + j * 12) hh1 f1
      obtain ⟨t0, t1, t2, t3, t4, t5, t6, t7, t8, t9, t10, t11⟩ := cmAt_of (o := o2 + j * 12) hh2 f2
      have hb1 : b1 < wr.heap.size := (Array.getElem?_eq_some_iff.1 hh1).1
      have hb2 : b2 < wr.heap.size := (Array.getElem?_eq_some_iff.1 hh2).1
      clear hn1 hn2 hk1 hk2 hc1 hc2 hx hy hh1 hh2 f1 f2
      go_upto_region 6 with fail
      go_cut [6, 7] (fun u v wx => ∃ g1 g2 : Nat, u = .pointer (some ⟨g1, 0, none⟩) ∧ v = .pointer (some ⟨g2, 0, none⟩) ∧ Hid (wx.heap[g1]? = some (.cells #[.int .i64 (x.1 : Int), .int .i64 x.2.k, .int .i64 x.2.n, .int .i64 x.2.m, .bool x.2.on, .string ⟨x.2.t.toArray⟩, .string ⟨x.2.x.toArray⟩, .string ⟨x.2.y.toArray⟩, .string ⟨x.2.i.toArray⟩, .string ⟨x.2.j.toArray⟩, .slice q1 x.2.nums.length k1, .slice r1 x.2.blocks.length m1] 32)) ∧ Hid (wx.heap[g2]? = some (.cells #[.int .i64 (y.1 : Int), .int .i64 y.2.k, .int .i64 y.2.n, .int .i64 y.2.m, .bool y.2.on, .string ⟨y.2.t.toArray⟩, .string ⟨y.2.x.toArray⟩, .string ⟨y.2.y.toArray⟩, .string ⟨y.2.i.toArray⟩, .string ⟨y.2.j.toArray⟩, .slice q2 y.2.nums.length k2, .slice r2 y.2.blocks.length m2] 32)) ∧ Hid (Below wr.heap.size wr wx))
      case first =>
        go_region
        all_goals
          go_wp2_with fail
          go_meet
          first
            | exact ⟨_, _, rfl, rfl, two_a wr _ _, two_b wr _ _, two_c wr _ _⟩
            | exact ⟨_, _, rfl, rfl, two_b wr _ _, two_a wr _ _, two_c wr _ _⟩
      case rest =>
      obtain ⟨g1, g2, rfl, rfl, HG1, HG2, HBB⟩ := hcut
      rename_i wq
      have HM1 := Lib.hid (HN1.out.below HBB.out)
      have HM2 := Lib.hid (HN2.out.below HBB.out)
      have HL1 := Lib.hid (HK1.out.below HBB.out)
      have HL2 := Lib.hid (HK2.out.below HBB.out)
      have HW2 := Lib.hid (HB.out.trans (HBB.out.mono HB.out.size))
      clear s0 s1 s2 s3 s4 s5 s6 s7 s8 s9 s10 s11 t0 t1 t2 t3 t4 t5 t6 t7 t8 t9 t10 t11 HN1 HN2 HK1 HK2
      go_upto_region 7 with fail
      obtain ⟨At, hAt⟩ : ∃ B : ByteArray, (⟨x.2.t.toArray⟩ : ByteArray) = B := ⟨_, rfl⟩
      obtain ⟨Bt, hBt⟩ : ∃ B : ByteArray, (⟨y.2.t.toArray⟩ : ByteArray) = B := ⟨_, rfl⟩
      obtain ⟨Ax, hAx⟩ : ∃ B : ByteArray, (⟨x.2.x.toArray⟩ : ByteArray) = B := ⟨_, rfl⟩
      obtain ⟨Bx, hBx⟩ : ∃ B : ByteArray, (⟨y.2.x.toArray⟩ : ByteArray) = B := ⟨_, rfl⟩
      obtain ⟨Ay, hAy⟩ : ∃ B : ByteArray, (⟨x.2.y.toArray⟩ : ByteArray) = B := ⟨_, rfl⟩
      obtain ⟨By, hBy⟩ : ∃ B : ByteArray, (⟨y.2.y.toArray⟩ : ByteArray) = B := ⟨_, rfl⟩
      obtain ⟨Ai, hAi⟩ : ∃ B : ByteArray, (⟨x.2.i.toArray⟩ : ByteArray) = B := ⟨_, rfl⟩
      obtain ⟨Bi, hBi⟩ : ∃ B : ByteArray, (⟨y.2.i.toArray⟩ : ByteArray) = B := ⟨_, rfl⟩
      obtain ⟨Aj, hAj⟩ : ∃ B : ByteArray, (⟨x.2.j.toArray⟩ : ByteArray) = B := ⟨_, rfl⟩
      obtain ⟨Bj, hBj⟩ : ∃ B : ByteArray, (⟨y.2.j.toArray⟩ : ByteArray) = B := ⟨_, rfl⟩
      have hg1 := HG1.out
      have hg2 := HG2.out
      rw [hAt, hAx, hAy, hAi, hAj] at hg1
      rw [hBt, hBx, hBy, hBi, hBj] at hg2
      obtain ⟨⟨d0, d1, d2, d3, d4, d5, d6, d7, d8, d9, d10, d11⟩, _⟩ := cm_at hg1
      obtain ⟨⟨e0, e1, e2, e3, e4, e5, e6, e7, e8, e9, e10, e11⟩, _⟩ := cm_at hg2
      clear hg1 hg2
      by_cases q0 : x.2.k = y.2.k
      · by_cases q1 : x.2.n = y.2.n
        · by_cases q2 : x.2.m = y.2.m
          · by_cases q3 : x.2.on = y.2.on
            · by_cases q4 : x.2.t = y.2.t
              · have w4 : Bt = At := by rw [← hAt, ← hBt, q4]
                subst w4
                have r4 : (Bt.toList == Bt.toList) = true := beq_self_eq_true _
                by_cases q5 : x.2.x = y.2.x
                · have w5 : Bx = Ax := by rw [← hAx, ← hBx, q5]
                  subst w5
                  have r5 : (Bx.toList == Bx.toList) = true := beq_self_eq_true _
                  by_cases q6 : x.2.y = y.2.y
                  · have w6 : By = Ay := by rw [← hAy, ← hBy, q6]
                    subst w6
                    have r6 : (By.toList == By.toList) = true := beq_self_eq_true _
                    by_cases q7 : x.2.i = y.2.i
                    · have w7 : Bi = Ai := by rw [← hAi, ← hBi, q7]
                      subst w7
                      have r7 : (Bi.toList == Bi.toList) = true := beq_self_eq_true _
                      by_cases q8 : x.2.j = y.2.j
                      · have w8 : Bj = Aj := by rw [← hAj, ← hBj, q8]
                        subst w8
                        have r8 : (Bj.toList == Bj.toList) = true := beq_self_eq_true _
                        obtain ⟨bn, hbn⟩ : ∃ bn, decide (x.2.nums = y.2.nums) = bn := ⟨_, rfl⟩
                        obtain ⟨bb, hbb⟩ : ∃ bb, decide (x.2.blocks = y.2.blocks) = bb := ⟨_, rfl⟩
                        have HBN := Lib.hid hbn
                        have HBK := Lib.hid hbb
                        have HEQ : Hid (x.2.nums = y.2.nums → x.2.blocks = y.2.blocks → x.2 = y.2) := by
                          show _ → _ → _
                          intro h1 h2
                          obtain ⟨x0, xk, xn, xm, xo, xt, xx, xy, xi, xj, xz, xb⟩ := x
                          obtain ⟨y0, yk, yn, ym, yo, yt, yx, yy, yi, yj, yz, yb⟩ := y
                          simp only at q0 q1 q2 q3 q4 q5 q6 q7 q8 h1 h2
                          simp only [q0, q1, q2, q3, q4, q5, q6, q7, q8, h1, h2]
                        rw [← q0] at e1
                        rw [← q1] at e2
                        rw [← q2] at e3
                        rw [← q3] at e4
                        clear q0 q1 q2 q3 q4 q5 q6 q7 q8 hbn hbb
                        go_wp2_with fail
                        with_reducible refine (rnums_c B1 B2 q1 q2 x.2.nums y.2.nums k1 k2 (fin1 HNX) _ HM1 HM2 bn HBN).mono ?_
                        rintro en w9 ⟨rfl, hdr⟩
                        have HD9 := Lib.hid hdr
                        have HP1 := Lib.hid (HL1.out.below hdr.bel)
                        have HP2 := Lib.hid (HL2.out.below hdr.bel)
                        have D11 : w9.cell? ⟨g1, 11, none⟩ = some (.slice r1 x.2.blocks.length m1) := by obtain ⟨_, e⟩ := hdr; rw [e]; exact d11
                        have E11 : w9.cell? ⟨g2, 11, none⟩ = some (.slice r2 y.2.blocks.length m2) := by obtain ⟨_, e⟩ := hdr; rw [e]; exact e11
                        clear hdr d0 d1 d2 d3 d4 d5 d6 d7 d8 d9 d10 d11 e0 e1 e2 e3 e4 e5 e6 e7 e8 e9 e10 e11
                        have HW9 := Lib.hid (HW2.out.trans (HD9.out.bel.mono HW2.out.size))
                        cases bn with
                        | false =>
                          have HG := HJF.out.2 (fun e => of_decide_eq_false HBN.out (by rw [e]))
                          go_wp2_with fail
                          go_ret
                          exact ⟨ret_b HG.out, HW9.out⟩
                        | true =>
                          go_wp2_with fail
                          with_reducible refine (rblks_c B1 B2 r1 r2 x.2.blocks y.2.blocks m1 m2 (fin2 HNX) (fin3 HNX) _ HP1 HP2 bb HBK).mono ?_
                          rintro en wc ⟨rfl, hdr⟩
                          have HWC := Lib.hid (HW9.out.trans (hdr.bel.mono HW9.out.size))
                          clear hdr
                          cases bb with
                          | false =>
                            have HG := HJF.out.2 (fun e => of_decide_eq_false HBK.out (by rw [e]))
                            go_wp2_with fail
                            go_ret
                            exact ⟨ret_b HG.out, HWC.out⟩
                          | true =>
                            have HJ3 := HJF.out.1 (HEQ.out (of_decide_eq_true HBN.out) (of_decide_eq_true HBK.out))
                            go_wp2_with fail
                            go_round <;> first | exact ⟨j + 1, by omega, HJ3.out, by go_num, HWC.out⟩ | (simp [intOf]; omega) | (simp [intOf] <;> omega)
                      · have HG := HJF.out.2 (fun e => q8 (by rw [e]))
                        have r8 : (Aj.toList == Bj.toList) = false := by
                          rw [Lib.toList_data, Lib.toList_data, beq_eq_false_iff_ne, ← hAj, ← hBj]
                          exact q8
                        have r8n : (Aj.toList != Bj.toList) = true := by rw [bne, r8]; rfl
                        rw [← q0] at e1
                        rw [← q1] at e2
                        rw [← q2] at e3
                        rw [← q3] at e4
                        clear q0 q1 q2 q3 q4 q5 q6 q7
                        clear q8
                        go_wp2_with fail
                        go_ret
                        exact ⟨ret_b HG.out, HW2.out⟩
                    · have HG := HJF.out.2 (fun e => q7 (by rw [e]))
                      have r7 : (Ai.toList == Bi.toList) = false := by
                        rw [Lib.toList_data, Lib.toList_data, beq_eq_false_iff_ne, ← hAi, ← hBi]
                        exact q7
                      have r7n : (Ai.toList != Bi.toList) = true := by rw [bne, r7]; rfl
                      rw [← q0] at e1
                      rw [← q1] at e2
                      rw [← q2] at e3
                      rw [← q3] at e4
                      clear q0 q1 q2 q3 q4 q5 q6
                      clear q7
                      go_wp2_with fail
                      go_ret
                      exact ⟨ret_b HG.out, HW2.out⟩
                  · have HG := HJF.out.2 (fun e => q6 (by rw [e]))
                    have r6 : (Ay.toList == By.toList) = false := by
                      rw [Lib.toList_data, Lib.toList_data, beq_eq_false_iff_ne, ← hAy, ← hBy]
                      exact q6
                    have r6n : (Ay.toList != By.toList) = true := by rw [bne, r6]; rfl
                    rw [← q0] at e1
                    rw [← q1] at e2
                    rw [← q2] at e3
                    rw [← q3] at e4
                    clear q0 q1 q2 q3 q4 q5
                    clear q6
                    go_wp2_with fail
                    go_ret
                    exact ⟨ret_b HG.out, HW2.out⟩
                · have HG := HJF.out.2 (fun e => q5 (by rw [e]))
                  have r5 : (Ax.toList == Bx.toList) = false := by
                    rw [Lib.toList_data, Lib.toList_data, beq_eq_false_iff_ne, ← hAx, ← hBx]
                    exact q5
                  have r5n : (Ax.toList != Bx.toList) = true := by rw [bne, r5]; rfl
                  rw [← q0] at e1
                  rw [← q1] at e2
                  rw [← q2] at e3
                  rw [← q3] at e4
                  clear q0 q1 q2 q3 q4
                  clear q5
                  go_wp2_with fail
                  go_ret
                  exact ⟨ret_b HG.out, HW2.out⟩
              · have HG := HJF.out.2 (fun e => q4 (by rw [e]))
                have r4 : (At.toList == Bt.toList) = false := by
                  rw [Lib.toList_data, Lib.toList_data, beq_eq_false_iff_ne, ← hAt, ← hBt]
                  exact q4
                have r4n : (At.toList != Bt.toList) = true := by rw [bne, r4]; rfl
                rw [← q0] at e1
                rw [← q1] at e2
                rw [← q2] at e3
                rw [← q3] at e4
                clear q0 q1 q2 q3
                clear q4
                go_wp2_with fail
                go_ret
                exact ⟨ret_b HG.out, HW2.out⟩
            · have HG := HJF.out.2 (fun e => q3 (by rw [e]))
              have r3 : (x.2.on == y.2.on) = false := beq_eq_false_iff_ne.2 q3
              have r3n : (x.2.on != y.2.on) = true := by rw [bne, r3]; rfl
              rw [← q0] at e1
              rw [← q1] at e2
              rw [← q2] at e3
              clear q0 q1 q2
              clear q3
              go_wp2_with fail
              go_ret
              exact ⟨ret_b HG.out, HW2.out⟩
          · have HG := HJF.out.2 (fun e => q2 (by rw [e]))
            have r2 : (x.2.m == y.2.m) = false := beq_eq_false_iff_ne.2 q2
            have r2n : (x.2.m != y.2.m) = true := by rw [bne, r2]; rfl
            rw [← q0] at e1
            rw [← q1] at e2
            clear q0 q1
            clear q2
            go_wp2_with fail
            go_ret
            exact ⟨ret_b HG.out, HW2.out⟩
        · have HG := HJF.out.2 (fun e => q1 (by rw [e]))
          have r1 : (x.2.n == y.2.n) = false := beq_eq_false_iff_ne.2 q1
          have r1n : (x.2.n != y.2.n) = true := by rw [bne, r1]; rfl
          rw [← q0] at e1
          clear q0
          clear q1
          go_wp2_with fail
          go_ret
          exact ⟨ret_b HG.out, HW2.out⟩
      · have HG := HJF.out.2 (fun e => q0 (by rw [e]))
        have r0 : (x.2.k == y.2.k) = false := beq_eq_false_iff_ne.2 q0
        have r0n : (x.2.k != y.2.k) = true := by rw [bne, r0]; rfl
        clear q0
        go_wp2_with fail
        go_ret
        exact ⟨ret_b HG.out, HW2.out⟩
    · have HG : Hid (true = b) := by
        show _ = _
        rw [← hb.out]
        refine (decide_eq_true ?_).symm
        refine List.ext_getElem (by simp [hlmH.out]) (fun k h h2 => ?_)
        simp only [List.getElem_map]
        exact HJ.out k (by simpa using h) (by simpa using h2) (by have : k < l.length := by simpa using h
                                                                  omega)
      have hlti : ¬ ((j : Int) < (l.length : Int)) := by omega
      go_wp2_with fail
      go_ret
      exact ⟨ret_b HG.out, HB.out⟩
  · have hlmi : ((l.length : Int) == (m.length : Int)) = false := by rw [beq_eq_false_iff_ne]; omega
    have hlmn : ((l.length : Int) != (m.length : Int)) = true := by rw [bne, hlmi]; rfl
    have HG : Hid (false = b) := by
      show _ = _
      rw [← hb.out]
      refine (decide_eq_false ?_).symm
      intro e
      have := congrArg List.length e
      simp at this
      exact hlm this
    go_enter Tryz.func8, Tryz.ntmps8
    go_wp2_with fail
    go_ret
    exact ⟨ret_b HG.out, Below.refl _ _⟩
end Go.Proofs.YtglmofeeggjemaaGreatDoor.GW
