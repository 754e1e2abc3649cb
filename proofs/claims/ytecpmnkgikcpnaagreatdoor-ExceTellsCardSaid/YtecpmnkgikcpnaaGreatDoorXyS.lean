/-
  The walks of the document's own comparison of drill commands: SameNums, Same.
-/
import Derived.Test.YtecpmnkgikcpnaaGreatDoorXwT
import Derived.Test.YtecpmnkgikcpnaaGreatDoorXwU
set_option linter.unusedVariables false
set_option linter.unusedSimpArgs false
namespace Go.Proofs.YtecpmnkgikcpnaaGreatDoor.YW
open Go.RowKit Go.Proofs.YtecpmnkgikcpnaaGreatDoor.Base Go.Proofs.YtecpmnkgikcpnaaGreatDoor.Dp Go.Proofs.YtecpmnkgikcpnaaGreatDoor.Xp Go.Proofs.YtecpmnkgikcpnaaGreatDoor.XW

set_option maxRecDepth 100000 in
set_option maxHeartbeats 800000 in
theorem samenums_c (B B' : Nat) (p q : Option Addr) (l m : List Int) (c d : Nat) (hl : l.length ≤ 1000000000) (w : World) (H1 : Hid (NumsIn B w p l)) (H2 : Hid (NumsIn B' w q m)) (b : Bool) (hb : Hid (decide (l = m) = b)) :
    Calls Tryz.prog 17 #[.slice p l.length c, .slice q m.length d] w fun e w' => e = .returned (.bool b) ∧ Drew w w' := by
  by_cases hlm : l.length = m.length
  · have hlmi : ((l.length : Int) == (m.length : Int)) = true := by rw [hlm]; exact beq_self_eq_true _
    have hml : m.length ≤ 1000000000 := by omega
    rw [← hlm]
    go_enter Tryz.func17, Tryz.ntmps17
    go_wp2_with fail
    go_loopw [5] (fun i wr => ∃ (j n : Nat), j ≤ l.length ∧ Hid (∀ k (h : k < l.length) (h2 : k < m.length), k < j → l[k] = m[k]) ∧ i = .int .i64 j ∧ wr = w.drewN n) (fun i _ => l.length - (intOf i).toNat)
    case atStart => exact ⟨0, 0, Nat.zero_le _, fun k _ _ h => absurd h (Nat.not_lt_zero _), rfl, rfl⟩
    case round =>
    obtain ⟨j, n, hj, HJ, rfl, rfl⟩ := hrel
    by_cases hlt : j < l.length
    · obtain ⟨b1, o1, c1, rfl, _, hh1, hc1⟩ := H1.out (by omega)
      obtain ⟨b2, o2, c2, rfl, _, hh2, hc2⟩ := H2.out (by omega)
      have hlt2 : j < m.length := by omega
      obtain ⟨x, hx⟩ : ∃ x, l[j] = x := ⟨_, rfl⟩
      obtain ⟨y, hy⟩ : ∃ y, m[j] = y := ⟨_, rfl⟩
      have x1 : w.cell? ⟨b1, o1 + j, none⟩ = some (.int .i64 x) := by
        have := hc1 j hlt
        rw [hx] at this
        simp [World.cell?, hh1, this]
      have y1 : w.cell? ⟨b2, o2 + j, none⟩ = some (.int .i64 y) := by
        have := hc2 j hlt2
        rw [hy] at this
        simp [World.cell?, hh2, this]
      clear hh1 hh2 hc1 hc2
      have hlti : (j : Int) < (l.length : Int) := by omega
      by_cases hxy : x = y
      · subst hxy
        have HJ2 : Hid (∀ k (h : k < l.length) (h2 : k < m.length), k < j + 1 → l[k] = m[k]) := by
          intro k h h2 hk
          by_cases hkj : k = j
          · subst hkj; rw [hx, hy]
          · exact HJ.out k h h2 (by omega)
        clear hx hy
        go_wp2_with fail
        go_quiet (fail)
        go_wp2_with fail
        go_round <;> first | exact ⟨j + 1, _, by omega, HJ2.out, by go_num, rfl⟩ | (simp [intOf] <;> omega)
      · have hne : (x == y) = false := beq_eq_false_iff_ne.2 hxy
        have hnn : (x != y) = true := by rw [bne, hne]; rfl
        have HB : Hid (false = b) := by
          show _ = _
          rw [← hb.out]
          refine (decide_eq_false ?_).symm
          intro e
          subst e
          exact hxy (hx.symm.trans hy)
        clear hx hy hxy
        go_wp2_with fail
        go_quiet (fail)
        go_wp2_with fail
        go_ret
        exact ⟨ret_b HB.out, Drew.trans ⟨n, rfl⟩ ⟨_, rfl⟩⟩
    · have HB : Hid (true = b) := by
        show _ = _
        rw [← hb.out]
        refine (decide_eq_true ?_).symm
        exact List.ext_getElem hlm (fun k h h2 => HJ.out k h h2 (by omega))
      have hlti : ¬ ((j : Int) < (l.length : Int)) := by omega
      go_wp2_with fail
      go_ret
      exact ⟨ret_b HB.out, ⟨_, rfl⟩⟩
  · have hlmi : ((l.length : Int) == (m.length : Int)) = false := by rw [beq_eq_false_iff_ne]; omega
    have hlmn : ((l.length : Int) != (m.length : Int)) = true := by rw [bne, hlmi]; rfl
    have HB : Hid (false = b) := by
      show _ = _
      rw [← hb.out]
      refine (decide_eq_false ?_).symm
      intro e
      exact hlm (by rw [e])
    go_enter Tryz.func17, Tryz.ntmps17
    go_wp2_with fail
    go_ret
    exact ⟨ret_b HB.out, ⟨0, rfl⟩⟩


theorem two_a (w : World) (o p : Obj) : (((w.alloc o).alloc p).drew).heap[w.heap.size]? = some o := one_below (heap_alloc_new w o) (((Below.refl (w.alloc o).heap.size (w.alloc o)).alloc (Nat.le_refl _) p).drew)
theorem two_b (w : World) (o p : Obj) : (((w.alloc o).alloc p).drew).heap[w.heap.size + 1]? = some p := by
  have h := heap_alloc_new (w.alloc o) p
  have e : (w.alloc o).heap.size = w.heap.size + 1 := by simp
  rw [e] at h
  exact h
theorem two_c (w : World) (o p : Obj) : Below w.heap.size w (((w.alloc o).alloc p).drew) := by
  have b1 := (Below.refl w.heap.size w).alloc (Nat.le_refl _) o
  exact (b1.alloc b1.size p).drew
theorem D_ne {f : D → List UInt8} {x y : D} (h : ¬ f x = f y) : ¬ x = y := fun e => h (by rw [e])

set_option maxRecDepth 100000 in
set_option maxHeartbeats 6400000 in
theorem sameR_c (B1 B2 : Nat) (p1 p2 : Option Addr) (l m : List (Nat × D)) (c1 c2 : Nat) (hl : l.length ≤ 10000000) (hm : m.length ≤ 10000000) (hn : Hid (∀ x ∈ l, x.2.nums.length ≤ 1000000000)) (w : World) (H1 : Hid (DrIn B1 w p1 l)) (H2 : Hid (DrIn B2 w p2 m)) (b : Bool) (hb : Hid (decide (l.map Prod.snd = m.map Prod.snd) = b)) :
    Calls Tryz.prog 7 #[.slice p1 l.length c1, .slice p2 m.length c2] w fun e w' => e = .returned (.bool b) ∧ Below w.heap.size w w' := by
  by_cases hlm : l.length = m.length
  · rw [← hlm]
    have hlmH := Lib.hid hlm
    clear hlm
    go_enter Tryz.func7, Tryz.ntmps7
    go_wp2_with fail
    go_loopw [5] (fun i wr => ∃ j : Nat, j ≤ l.length ∧ Hid (∀ k (h : k < l.length) (h2 : k < m.length), k < j → l[k].2 = m[k].2) ∧ i = .int .i64 j ∧ Hid (Below w.heap.size w wr)) (fun i _ => l.length - (intOf i).toNat)
    case atStart => exact ⟨0, Nat.zero_le _, fun k _ _ h => absurd h (Nat.not_lt_zero _), rfl, Below.refl _ _⟩
    case round =>
    obtain ⟨j, hj, HJ, rfl, HB⟩ := hrel
    rename_i wr
    by_cases hlt : j < l.length
    · have hlt2 : j < m.length := by have := hlmH.out; omega
      have hlti : (j : Int) < (l.length : Int) := by omega
      obtain ⟨b1, o1, rfl, hb1, hc1⟩ := (H1.out.below HB.out) (by omega)
      obtain ⟨b2, o2, rfl, hb2, hc2⟩ := (H2.out.below HB.out) (by have := hlmH.out; omega)
      obtain ⟨x, hx⟩ : ∃ x, l[j] = x := ⟨_, rfl⟩
      obtain ⟨y, hy⟩ : ∃ y, m[j] = y := ⟨_, rfl⟩
      have hnx : x.2.nums.length ≤ 1000000000 := hn.out x (by rw [← hx]; exact List.getElem_mem hlt)
      obtain ⟨np, nc, ht1, hn1⟩ := hc1 j hlt
      obtain ⟨mp, mc, ht2, hn2⟩ := hc2 j hlt2
      rw [hx] at ht1 hn1
      rw [hy] at ht2 hn2
      have HN1 := Lib.hid hn1
      have HN2 := Lib.hid hn2
      obtain ⟨q, hq⟩ : ∃ q, decide (x.2 = y.2) = q := ⟨_, rfl⟩
      have HQ := Lib.hid hq
      have HJ2 : Hid (q = true → ∀ k (h : k < l.length) (h2 : k < m.length), k < j + 1 → l[k].2 = m[k].2) := by
        intro hqt k h h2 hk
        by_cases hkj : k = j
        · subst hkj
          rw [hx, hy]
          rw [hqt] at hq
          exact of_decide_eq_true hq
        · exact HJ.out k h h2 (by omega)
      have HF : Hid (q = false → false = b) := by
        intro hqf
        rw [← hb.out]
        refine (decide_eq_false ?_).symm
        intro e
        rw [hqf] at hq
        refine of_decide_eq_false hq ?_
        have e2 : (l.map Prod.snd)[j]'(by simpa using hlt) = (m.map Prod.snd)[j]'(by simpa using hlt2) := by simp only [e]
        simp only [List.getElem_map, hx, hy] at e2
        exact e2
      obtain ⟨s0, s1, s2, s3, s4, s5, s6, s7, s8, s9⟩ := ht1
      obtain ⟨t0, t1, t2, t3, t4, t5, t6, t7, t8, t9⟩ := ht2
      clear hn1 hn2 hc1 hc2 hx hy hq
      go_upto_region 6 with fail
      go_cut [6, 7] (fun u v wx => ∃ g1 g2 : Nat, u = .pointer (some ⟨g1, 0, none⟩) ∧ v = .pointer (some ⟨g2, 0, none⟩) ∧ Hid (wx.heap[g1]? = some (.cells #[.int .i64 (x.1 : Int), .int .i64 x.2.k, .int .i64 x.2.n, .bool x.2.on, .string ⟨x.2.t.toArray⟩, .string ⟨x.2.x.toArray⟩, .string ⟨x.2.y.toArray⟩, .string ⟨x.2.u.toArray⟩, .string ⟨x.2.v.toArray⟩, .slice np x.2.nums.length nc] 32)) ∧ Hid (wx.heap[g2]? = some (.cells #[.int .i64 (y.1 : Int), .int .i64 y.2.k, .int .i64 y.2.n, .bool y.2.on, .string ⟨y.2.t.toArray⟩, .string ⟨y.2.x.toArray⟩, .string ⟨y.2.y.toArray⟩, .string ⟨y.2.u.toArray⟩, .string ⟨y.2.v.toArray⟩, .slice mp y.2.nums.length mc] 32)) ∧ Hid (Below wr.heap.size wr wx))
      case first =>
        go_region
        all_goals
          go_wp2_with fail
          go_meet
          first
            | exact ⟨_, _, rfl, rfl, two_a wr _ _, two_b wr _ _, two_c wr _ _⟩
            | exact ⟨_, _, rfl, rfl, two_b wr _ _, two_a wr _ _, two_c wr _ _⟩
      case rest =>
      obtain ⟨g1, g2, rfl, rfl, HG1, HG2, HBB⟩ := hcut
      have HM1 := Lib.hid (HN1.out.below HBB.out)
      have HM2 := Lib.hid (HN2.out.below HBB.out)
      have HW2 := Lib.hid (HB.out.trans (HBB.out.mono HB.out.size))
      clear s0 s1 s2 s3 s4 s5 s6 s7 s8 s9 t0 t1 t2 t3 t4 t5 t6 t7 t8 t9 HN1 HN2
      go_upto_region 7 with fail
      go_cut [88] (fun r wx => r = .bool (!q) ∧ Hid (Below w.heap.size w wx))
      case first =>
        obtain ⟨At, hAt⟩ : ∃ B : ByteArray, (⟨x.2.t.toArray⟩ : ByteArray) = B := ⟨_, rfl⟩
        obtain ⟨Bt, hBt⟩ : ∃ B : ByteArray, (⟨y.2.t.toArray⟩ : ByteArray) = B := ⟨_, rfl⟩
        obtain ⟨Ax, hAx⟩ : ∃ B : ByteArray, (⟨x.2.x.toArray⟩ : ByteArray) = B := ⟨_, rfl⟩
        obtain ⟨Bx, hBx⟩ : ∃ B : ByteArray, (⟨y.2.x.toArray⟩ : ByteArray) = B := ⟨_, rfl⟩
        obtain ⟨Ay, hAy⟩ : ∃ B : ByteArray, (⟨x.2.y.toArray⟩ : ByteArray) = B := ⟨_, rfl⟩
        obtain ⟨By, hBy⟩ : ∃ B : ByteArray, (⟨y.2.y.toArray⟩ : ByteArray) = B := ⟨_, rfl⟩
        obtain ⟨Au, hAu⟩ : ∃ B : ByteArray, (⟨x.2.u.toArray⟩ : ByteArray) = B := ⟨_, rfl⟩
        obtain ⟨Bu, hBu⟩ : ∃ B : ByteArray, (⟨y.2.u.toArray⟩ : ByteArray) = B := ⟨_, rfl⟩
        obtain ⟨Av, hAv⟩ : ∃ B : ByteArray, (⟨x.2.v.toArray⟩ : ByteArray) = B := ⟨_, rfl⟩
        obtain ⟨Bv, hBv⟩ : ∃ B : ByteArray, (⟨y.2.v.toArray⟩ : ByteArray) = B := ⟨_, rfl⟩
        have hg1 := HG1.out
        have hg2 := HG2.out
        rw [hAt, hAx, hAy, hAu, hAv] at hg1
        rw [hBt, hBx, hBy, hBu, hBv] at hg2
        obtain ⟨⟨d0, d1, d2, d3, d4, d5, d6, d7, d8, d9⟩, _⟩ := dr_at hg1
        obtain ⟨⟨e0, e1, e2, e3, e4, e5, e6, e7, e8, e9⟩, _⟩ := dr_at hg2
        clear hg1 hg2
        have HQ2 := HQ.out
        by_cases q0 : x.2.k = y.2.k
        · by_cases q1 : x.2.n = y.2.n
          · by_cases q2 : x.2.on = y.2.on
            · by_cases q3 : x.2.t = y.2.t
              · have w3 : Bt = At := by rw [← hAt, ← hBt, q3]
                subst w3
                have r3 : (Bt.toList == Bt.toList) = true := beq_self_eq_true _
                by_cases q4 : x.2.x = y.2.x
                · have w4 : Bx = Ax := by rw [← hAx, ← hBx, q4]
                  subst w4
                  have r4 : (Bx.toList == Bx.toList) = true := beq_self_eq_true _
                  by_cases q5 : x.2.y = y.2.y
                  · have w5 : By = Ay := by rw [← hAy, ← hBy, q5]
                    subst w5
                    have r5 : (By.toList == By.toList) = true := beq_self_eq_true _
                    by_cases q6 : x.2.u = y.2.u
                    · have w6 : Bu = Au := by rw [← hAu, ← hBu, q6]
                      subst w6
                      have r6 : (Bu.toList == Bu.toList) = true := beq_self_eq_true _
                      by_cases q7 : x.2.v = y.2.v
                      · have w7 : Bv = Av := by rw [← hAv, ← hBv, q7]
                        subst w7
                        have r7 : (Bv.toList == Bv.toList) = true := beq_self_eq_true _
                        obtain ⟨bn, hbn⟩ : ∃ bn, decide (x.2.nums = y.2.nums) = bn := ⟨_, rfl⟩
                        have HBN := Lib.hid hbn
                        have HB3 : Hid (bn = q) := by
                          show _ = _
                          rw [← HQ2, ← hbn]
                          rw [Bool.eq_iff_iff, decide_eq_true_eq, decide_eq_true_eq]
                          constructor
                          · intro e
                            obtain ⟨x0, xk, xn, xo, xt, xx, xy, xu, xv, xz⟩ := x
                            obtain ⟨y0, yk, yn, yo, yt, yx, yy, yu, yv, yz⟩ := y
                            simp only at q0 q1 q2 q3 q4 q5 q6 q7 e
                            simp only [q0, q1, q2, q3, q4, q5, q6, q7, e]
                          · intro e; rw [e]
                        clear hbn HQ2
                        rw [← q0] at e1
                        rw [← q1] at e2
                        rw [← q2] at e3
                        clear q0 q1 q2 q3 q4 q5 q6 q7
                        go_wp2_with fail
                        with_reducible refine (samenums_c _ _ np mp x.2.nums y.2.nums nc mc hnx _ HM1 HM2 bn HBN).mono ?_
                        rintro en w9 ⟨rfl, hdr⟩
                        have HW9 := Lib.hid (HW2.out.trans ((drew_below hdr).mono HW2.out.size))
                        clear hdr
                        go_wp2_with fail
                        go_meet
                        exact ⟨by rw [HB3.out], HW9.out⟩
                      · have HB3 : Hid (false = q) := by
                          show _ = _
                          rw [← HQ2]
                          exact (decide_eq_false (fun e => q7 (by rw [e]))).symm
                        have r7 : (Av.toList == Bv.toList) = false := by
                          rw [Lib.toList_data, Lib.toList_data, beq_eq_false_iff_ne, ← hAv, ← hBv]
                          exact q7
                        have r7n : (Av.toList != Bv.toList) = true := by rw [bne, r7]; rfl
                        clear HQ2 q7
                        rw [← q0] at e1
                        rw [← q1] at e2
                        rw [← q2] at e3
                        clear q0 q1 q2 q3 q4 q5 q6
                        go_wp2_with fail
                        go_meet
                        exact ⟨by rw [← HB3.out]; rfl, HW2.out⟩
                    · have HB3 : Hid (false = q) := by
                        show _ = _
                        rw [← HQ2]
                        exact (decide_eq_false (fun e => q6 (by rw [e]))).symm
                      have r6 : (Au.toList == Bu.toList) = false := by
                        rw [Lib.toList_data, Lib.toList_data, beq_eq_false_iff_ne, ← hAu, ← hBu]
                        exact q6
                      have r6n : (Au.toList != Bu.toList) = true := by rw [bne, r6]; rfl
                      clear HQ2 q6
                      rw [← q0] at e1
                      rw [← q1] at e2
                      rw [← q2] at e3
                      clear q0 q1 q2 q3 q4 q5
                      go_wp2_with fail
                      go_meet
                      exact ⟨by rw [← HB3.out]; rfl, HW2.out⟩
                  · have HB3 : Hid (false = q) := by
                      show _ = _
                      rw [← HQ2]
                      exact (decide_eq_false (fun e => q5 (by rw [e]))).symm
                    have r5 : (Ay.toList == By.toList) = false := by
                      rw [Lib.toList_data, Lib.toList_data, beq_eq_false_iff_ne, ← hAy, ← hBy]
                      exact q5
                    have r5n : (Ay.toList != By.toList) = true := by rw [bne, r5]; rfl
                    clear HQ2 q5
                    rw [← q0] at e1
                    rw [← q1] at e2
                    rw [← q2] at e3
                    clear q0 q1 q2 q3 q4
                    go_wp2_with fail
                    go_meet
                    exact ⟨by rw [← HB3.out]; rfl, HW2.out⟩
                · have HB3 : Hid (false = q) := by
                    show _ = _
                    rw [← HQ2]
                    exact (decide_eq_false (fun e => q4 (by rw [e]))).symm
                  have r4 : (Ax.toList == Bx.toList) = false := by
                    rw [Lib.toList_data, Lib.toList_data, beq_eq_false_iff_ne, ← hAx, ← hBx]
                    exact q4
                  have r4n : (Ax.toList != Bx.toList) = true := by rw [bne, r4]; rfl
                  clear HQ2 q4
                  rw [← q0] at e1
                  rw [← q1] at e2
                  rw [← q2] at e3
                  clear q0 q1 q2 q3
                  go_wp2_with fail
                  go_meet
                  exact ⟨by rw [← HB3.out]; rfl, HW2.out⟩
              · have HB3 : Hid (false = q) := by
                  show _ = _
                  rw [← HQ2]
                  exact (decide_eq_false (fun e => q3 (by rw [e]))).symm
                have r3 : (At.toList == Bt.toList) = false := by
                  rw [Lib.toList_data, Lib.toList_data, beq_eq_false_iff_ne, ← hAt, ← hBt]
                  exact q3
                have r3n : (At.toList != Bt.toList) = true := by rw [bne, r3]; rfl
                clear HQ2 q3
                rw [← q0] at e1
                rw [← q1] at e2
                rw [← q2] at e3
                clear q0 q1 q2
                go_wp2_with fail
                go_meet
                exact ⟨by rw [← HB3.out]; rfl, HW2.out⟩
            · have HB3 : Hid (false = q) := by
                show _ = _
                rw [← HQ2]
                exact (decide_eq_false (fun e => q2 (by rw [e]))).symm
              have r2 : (x.2.on == y.2.on) = false := beq_eq_false_iff_ne.2 q2
              have r2n : (x.2.on != y.2.on) = true := by rw [bne, r2]; rfl
              clear HQ2 q2
              rw [← q0] at e1
              rw [← q1] at e2
              clear q0 q1
              go_wp2_with fail
              go_meet
              exact ⟨by rw [← HB3.out]; rfl, HW2.out⟩
          · have HB3 : Hid (false = q) := by
              show _ = _
              rw [← HQ2]
              exact (decide_eq_false (fun e => q1 (by rw [e]))).symm
            have r1 : (x.2.n == y.2.n) = false := beq_eq_false_iff_ne.2 q1
            have r1n : (x.2.n != y.2.n) = true := by rw [bne, r1]; rfl
            clear HQ2 q1
            rw [← q0] at e1
            clear q0
            go_wp2_with fail
            go_meet
            exact ⟨by rw [← HB3.out]; rfl, HW2.out⟩
        · have HB3 : Hid (false = q) := by
            show _ = _
            rw [← HQ2]
            exact (decide_eq_false (fun e => q0 (by rw [e]))).symm
          have r0 : (x.2.k == y.2.k) = false := beq_eq_false_iff_ne.2 q0
          have r0n : (x.2.k != y.2.k) = true := by rw [bne, r0]; rfl
          clear HQ2 q0
          go_wp2_with fail
          go_meet
          exact ⟨by rw [← HB3.out]; rfl, HW2.out⟩
      case rest =>
      obtain ⟨rfl, HW3⟩ := hcut
      cases q with
      | true =>
        have HJ3 := Lib.hid (HJ2.out rfl)
        clear HJ2 HF
        go_wp2_with fail
        go_round <;> first | exact ⟨j + 1, by omega, HJ3.out, by go_num, HW3.out⟩ | (simp [intOf] <;> omega)
      | false =>
        have HG := Lib.hid (HF.out rfl)
        clear HJ2 HF
        go_wp2_with fail
        go_ret
        exact ⟨ret_b HG.out, HW3.out⟩
    · have HG : Hid (true = b) := by
        show _ = _
        rw [← hb.out]
        refine (decide_eq_true ?_).symm
        refine List.ext_getElem (by simp [hlmH.out]) (fun k h h2 => ?_)
        simp only [List.getElem_map]
        exact HJ.out k (by simpa using h) (by simpa using h2) (by have : k < l.length := by simpa using h
                                                                  omega)
      have hlti : ¬ ((j : Int) < (l.length : Int)) := by omega
      go_wp2_with fail
      go_ret
      exact ⟨ret_b HG.out, HB.out⟩
  · have hlmi : ((l.length : Int) == (m.length : Int)) = false := by rw [beq_eq_false_iff_ne]; omega
    have hlmn : ((l.length : Int) != (m.length : Int)) = true := by rw [bne, hlmi]; rfl
    have HG : Hid (false = b) := by
      show _ = _
      rw [← hb.out]
      refine (decide_eq_false ?_).symm
      intro e
      have := congrArg List.length e
      simp at this
      exact hlm this
    go_enter Tryz.func7, Tryz.ntmps7
    go_wp2_with fail
    go_ret
    exact ⟨ret_b HG.out, Below.refl _ _⟩
end Go.Proofs.YtecpmnkgikcpnaaGreatDoor.YW
