/-
  The walk of the document's SameBlocks.
-/
import Derived.Test.YtglmofeeggjemaaGreatDoorIe
import Derived.BigQuiet
set_option linter.unusedVariables false
namespace Go.Proofs.YtglmofeeggjemaaGreatDoor.GW
open Go.RowKit Go.Proofs.YtglmofeeggjemaaGreatDoor.Base Go.Proofs.YtglmofeeggjemaaGreatDoor.Dp Go.Proofs.YtglmofeeggjemaaGreatDoor.DeciW Go.Proofs.YtglmofeeggjemaaGreatDoor.Mem Go.Proofs.YtglmofeeggjemaaGreatDoor.RdW Go.Proofs.YtglmofeeggjemaaGreatDoor.Gp

theorem Drew.bel {w w' : World} (h : Drew w w') : Below w.heap.size w w' := by
  obtain ⟨n, rfl⟩ := h
  exact below_drewN (Below.refl _ _) n
theorem bs_ne {a b : List UInt8} (h : a ≠ b) : ((⟨a.toArray⟩ : ByteArray).toList == (⟨b.toArray⟩ : ByteArray).toList) = false := by
  rw [Lib.toList_data, Lib.toList_data, beq_eq_false_iff_ne]
  exact h
theorem bs_ne2 {a b : List UInt8} (h : a ≠ b) : ((⟨a.toArray⟩ : ByteArray).toList != (⟨b.toArray⟩ : ByteArray).toList) = true := by
  rw [bne, bs_ne h]; rfl
theorem bs_eq (a : ByteArray) : (a.toList == a.toList) = true := beq_self_eq_true _
set_option maxRecDepth 100000 in
set_option maxHeartbeats 6400000 in
theorem rblks_c (B1 B2 : Nat) (p1 p2 : Option Addr) (l m : List Blk) (c1 c2 : Nat) (hl : l.length ≤ 1000000000) (hn : Hid (∀ x ∈ l, finB x)) (w : World) (H1 : Hid (BlksIn B1 w p1 l)) (H2 : Hid (BlksIn B2 w p2 m)) (b : Bool) (hb : Hid (decide (l = m) = b)) :
    Calls Tryz.prog 17 #[.slice p1 l.length c1, .slice p2 m.length c2] w fun e w' => e = .returned (.bool b) ∧ Drew w w' := by
  by_cases hlm : l.length = m.length
  · have hlmi : ((l.length : Int) == (m.length : Int)) = true := by rw [hlm]; exact beq_self_eq_true _
    rw [← hlm]
    have hlmH := Lib.hid hlm
    clear hlm hlmi
    go_enter Tryz.func17, Tryz.ntmps17
    go_wp2_with fail
    go_loopw [5] (fun i wr => ∃ j : Nat, j ≤ l.length ∧ Hid (∀ k (h : k < l.length) (h2 : k < m.length), k < j → l[k] = m[k]) ∧ i = .int .i64 j ∧ Hid (Drew w wr)) (fun i _ => l.length - (intOf i).toNat)
    case atStart => exact ⟨0, Nat.zero_le _, fun k _ _ h => absurd h (Nat.not_lt_zero _), rfl, ⟨0, rfl⟩⟩
    case round =>
    obtain ⟨j, hj, HJ, rfl, HB⟩ := hrel
    rename_i wr
    by_cases hlt : j < l.length
    · have hlt2 : j < m.length := by have := hlmH.out; omega
      have hlti : (j : Int) < (l.length : Int) := by omega
      obtain ⟨b1, o1, u1, rfl, _, hh1, hc1⟩ := (H1.out.below HB.out.bel) (by omega)
      obtain ⟨b2, o2, u2, rfl, _, hh2, hc2⟩ := (H2.out.below HB.out.bel) (by have := hlmH.out; omega)
      obtain ⟨x, hx⟩ : ∃ x, l[j] = x := ⟨_, rfl⟩
      obtain ⟨y, hy⟩ : ∃ y, m[j] = y := ⟨_, rfl⟩
      have HNX : Hid (finB x) := hn.out x (by rw [← hx]; exact List.getElem_mem hlt)
      obtain ⟨q1, d1, f0, f1, f2, f3, hn1⟩ := hc1 j hlt
      obtain ⟨q2, d2, g0, g1, g2, g3, hn2⟩ := hc2 j hlt2
      rw [hx] at f0 f1 f2 f3 hn1
      rw [hy] at g0 g1 g2 g3 hn2
      have s0 : wr.cell? ⟨b1, o1 + j * 4, none⟩ = some (.int .i64 x.k) := by simp [World.cell?, hh1, f0]
      have s1 : wr.cell? ⟨b1, o1 + j * 4 + 1, none⟩ = some (.int .i64 x.n) := by simp [World.cell?, hh1, f1]
      have s2 : wr.cell? ⟨b1, o1 + j * 4 + 2, none⟩ = some (.string ⟨x.t.toArray⟩) := by simp [World.cell?, hh1, f2]
      have s3 : wr.cell? ⟨b1, o1 + j * 4 + 3, none⟩ = some (.slice q1 x.args.length d1) := by simp [World.cell?, hh1, f3]
      have t0 : wr.cell? ⟨b2, o2 + j * 4, none⟩ = some (.int .i64 y.k) := by simp [World.cell?, hh2, g0]
      have t1 : wr.cell? ⟨b2, o2 + j * 4 + 1, none⟩ = some (.int .i64 y.n) := by simp [World.cell?, hh2, g1]
      have t2 : wr.cell? ⟨b2, o2 + j * 4 + 2, none⟩ = some (.string ⟨y.t.toArray⟩) := by simp [World.cell?, hh2, g2]
      have t3 : wr.cell? ⟨b2, o2 + j * 4 + 3, none⟩ = some (.slice q2 y.args.length d2) := by simp [World.cell?, hh2, g3]
      have HN1 := Lib.hid hn1
      have HN2 := Lib.hid hn2
      have HX := Lib.hid (And.intro hx hy)
      have HNO : x ≠ y → Hid (false = b) := fun hne => by
        show _ = _
        rw [← hb.out]
        exact (decide_eq_false (eq_not hlt hlt2 hx hy hne)).symm
      obtain ⟨T1, hT1⟩ : ∃ T : ByteArray, (⟨x.t.toArray⟩ : ByteArray) = T := ⟨_, rfl⟩
      obtain ⟨T2, hT2⟩ : ∃ T : ByteArray, (⟨y.t.toArray⟩ : ByteArray) = T := ⟨_, rfl⟩
      have HT1 := Lib.hid hT1
      have HT2 := Lib.hid hT2
      rw [hT1] at s2
      rw [hT2] at t2
      clear hT1 hT2
      clear hx hy hn1 hn2 hc1 hc2 hh1 hh2 f0 f1 f2 f3 g0 g1 g2 g3
      by_cases hk : x.k = y.k
      · have ek : (x.k != y.k) = false := by rw [hk]; exact bne_self_eq_false _
        by_cases hnn : x.n = y.n
        · have en : (x.n != y.n) = false := by rw [hnn]; exact bne_self_eq_false _
          by_cases ht : x.t = y.t
          · have et0 : (T1.toList == T2.toList) = true := by rw [← HT1.out, ← HT2.out, ht]; exact beq_self_eq_true _
            have et : (T1.toList != T2.toList) = false := by rw [← HT1.out, ← HT2.out, ht]; exact bne_self_eq_false _
            by_cases ha : x.args.length = y.args.length
            · have ea : ((x.args.length : Int) != (y.args.length : Int)) = false := by rw [ha]; exact bne_self_eq_false _
              have HE := Lib.hid (And.intro (And.intro hk hnn) (And.intro ht ha))
              rw [← ha] at t3 ea
              clear hk hnn ht ha
              go_wp2_with fail
              go_quiet (fail)
              go_wp2_with fail
              have HB2 : Hid (Drew w (wr.drewN nq)) := HB.out.trans ⟨_, rfl⟩
              have HN1b := Lib.hid (HN1.out.below (Drew.bel ⟨nq, rfl⟩))
              have HN2b := Lib.hid (HN2.out.below (Drew.bel ⟨nq, rfl⟩))
              have HSA : Hid (wr.heap = (wr.drewN nq).heap) := rfl
              obtain ⟨wo, hwo⟩ : ∃ wo : World, wr.drewN nq = wo := ⟨_, rfl⟩
              have S0 := Lib.hid s3
              have S1 := Lib.hid t3
              have S0b : Hid (wo.cell? ⟨b1, o1 + j * 4 + 3, none⟩ = some (.slice q1 x.args.length d1)) := by rw [← hwo]; exact s3
              have S1b : Hid (wo.cell? ⟨b2, o2 + j * 4 + 3, none⟩ = some (.slice q2 x.args.length d2)) := by rw [← hwo]; exact t3
              rw [hwo] at HB2 HN1b HN2b ⊢
              clear s0 s1 s2 s3 t0 t1 t2 t3 S0 S1 HSA hwo HN1 HN2 HB ek en et et0 ea
              go_loopw [6] (fun i wx => ∃ (k : Nat) (wy : World), wy = wx ∧ k ≤ x.args.length ∧ Hid (∀ t (h : t < x.args.length) (h2 : t < y.args.length), t < k → x.args[t] = y.args[t]) ∧ i = .int .i64 k ∧ Hid (Drew wo wy)) (fun i _ => x.args.length - (intOf i).toNat)
              case atStart => exact ⟨0, _, rfl, Nat.zero_le _, fun k _ _ h => absurd h (Nat.not_lt_zero _), rfl, ⟨0, rfl⟩⟩
              case round =>
              obtain ⟨k, wz, rfl, hk, HK, rfl, HZ⟩ := hrel
              have s3 : wz.cell? ⟨b1, o1 + j * 4 + 3, none⟩ = some (.slice q1 x.args.length d1) := by obtain ⟨_, e⟩ := HZ.out; rw [e]; exact S0b.out
              have t3 : wz.cell? ⟨b2, o2 + j * 4 + 3, none⟩ = some (.slice q2 x.args.length d2) := by obtain ⟨_, e⟩ := HZ.out; rw [e]; exact S1b.out
              by_cases hkl : k < x.args.length
              · have hkl2 : k < y.args.length := by have := HE.out.2.2; omega
                have hkli : (k : Int) < (x.args.length : Int) := by omega
                obtain ⟨k1, z1, v1, rfl, _, hv1, hw1⟩ := (HN1b.out.below HZ.out.bel) (by omega)
                obtain ⟨k2, z2, v2, rfl, _, hv2, hw2⟩ := (HN2b.out.below HZ.out.bel) (by omega)
                obtain ⟨xa, hxa⟩ : ∃ xa, x.args[k] = xa := ⟨_, rfl⟩
                obtain ⟨ya, hya⟩ : ∃ ya, y.args[k] = ya := ⟨_, rfl⟩
                obtain ⟨y1, e1, i1, on1⟩ := hw1 k hkl
                obtain ⟨y2, e2, i2, on2⟩ := hw2 k hkl2
                rw [hxa] at i1 on1
                rw [hya] at i2 on2
                have g1 : wz.cell? ⟨k1, z1 + k, none⟩ = some (.slice y1 xa.length e1) := by simp [World.cell?, hv1, i1]
                have g2 : wz.cell? ⟨k2, z2 + k, none⟩ = some (.slice y2 ya.length e2) := by simp [World.cell?, hv2, i2]
                have ON1 := Lib.hid on1
                have ON2 := Lib.hid on2
                have hxl : xa.length ≤ 1000000000 := HNX.out.2 xa (by rw [← hxa]; exact List.getElem_mem hkl)
                obtain ⟨q, hq⟩ : ∃ q, decide (xa = ya) = q := ⟨_, rfl⟩
                have HQ := Lib.hid hq
                have HXY := Lib.hid (And.intro hxa hya)
                clear hxa hya hq on1 on2 i1 i2 hv1 hv2 hw1 hw2
                have hml : (x.args.length : Int) ≤ 1000000000 := by have := HNX.out.1; omega
                cases q with
                | true =>
                  have HK2 := Lib.hid (eq_next (l := x.args) (m := y.args) hkl hkl2 HXY.out.1 HXY.out.2 (of_decide_eq_true HQ.out) HK.out)
                  go_wp2_with fail
                  go_quiet ((go_at_call 35; exact Calls.quiet_of (rops_c B1 B2 y1 y2 xa ya e1 e2 hxl _ (Lib.hid (ON1.out.below (Drew.bel ⟨_, rfl⟩))) (Lib.hid (ON2.out.below (Drew.bel ⟨_, rfl⟩))) true HQ)))
                  have HZ2 : Hid (Drew wo (wz.drewN nq)) := HZ.out.trans ⟨_, rfl⟩
                  go_wp2_with fail
                  go_round <;> first | exact ⟨k + 1, _, rfl, by omega, HK2.out, by go_num, HZ2.out⟩ | (simp [intOf]; omega) | (simp [intOf] <;> omega)
                | false =>
                  have HNB := HNO (fun e => by
                    subst e
                    exact of_decide_eq_false HQ.out (HXY.out.1.symm.trans HXY.out.2))
                  clear HNO
                  go_wp2_with fail
                  go_quiet ((go_at_call 35; exact Calls.quiet_of (rops_c B1 B2 y1 y2 xa ya e1 e2 hxl _ (Lib.hid (ON1.out.below (Drew.bel ⟨_, rfl⟩))) (Lib.hid (ON2.out.below (Drew.bel ⟨_, rfl⟩))) false HQ)))
                  go_wp2_with fail
                  go_ret
                  exact ⟨ret_b HNB.out, HB2.out.trans (HZ.out.trans ⟨_, rfl⟩)⟩
              · have hkli : ¬ (k : Int) < (x.args.length : Int) := by omega
                have hxy : x = y := by
                  have e := List.ext_getElem HE.out.2.2 (fun t h h2 => HK.out t h h2 (by omega))
                  cases x; cases y
                  simp only [Blk.mk.injEq]
                  exact ⟨HE.out.1.1, HE.out.1.2, HE.out.2.1, e⟩
                have HJ2 := Lib.hid (eq_next (l := l) (m := m) hlt hlt2 HX.out.1 HX.out.2 hxy HJ.out)
                have HW := Lib.hid (HB2.out.trans HZ.out)
                clear hxy HNO
                go_wp2_with fail
                go_round <;> first | exact ⟨j + 1, by omega, HJ2.out, by go_num, HW.out⟩ | (simp [intOf]; omega) | (simp [intOf] <;> omega)
            · have ea : ((x.args.length : Int) != (y.args.length : Int)) = true := by rw [bne_iff_ne]; omega
              have HNB := HNO (fun e => ha (by rw [e]))
              clear hk hnn ht ha HNO
              go_wp2_with fail
              go_quiet (fail)
              go_wp2_with fail
              go_ret
              exact ⟨ret_b HNB.out, HB.out.trans ⟨_, rfl⟩⟩
          · have et0 : (T1.toList == T2.toList) = false := by rw [← HT1.out, ← HT2.out]; exact bs_ne ht
            have et : (T1.toList != T2.toList) = true := by rw [← HT1.out, ← HT2.out]; exact bs_ne2 ht
            have HNB := HNO (fun e => ht (by rw [e]))
            clear hk hnn ht HNO
            go_wp2_with fail
            go_quiet (fail)
            go_wp2_with fail
            go_ret
            exact ⟨ret_b HNB.out, HB.out.trans ⟨_, rfl⟩⟩
        · have en : (x.n != y.n) = true := bne_iff_ne.2 hnn
          have HNB := HNO (fun e => hnn (by rw [e]))
          clear hk hnn HNO
          go_wp2_with fail
          go_quiet (fail)
          go_wp2_with fail
          go_ret
          exact ⟨ret_b HNB.out, HB.out.trans ⟨_, rfl⟩⟩
      · have ek : (x.k != y.k) = true := bne_iff_ne.2 hk
        have HNB := HNO (fun e => hk (by rw [e]))
        clear hk HNO
        go_wp2_with fail
        go_quiet (fail)
        go_wp2_with fail
        go_ret
        exact ⟨ret_b HNB.out, HB.out.trans ⟨_, rfl⟩⟩
    · have HG : Hid (true = b) := by
        show _ = _
        rw [← hb.out]
        exact (decide_eq_true (List.ext_getElem hlmH.out (fun k h h2 => HJ.out k h h2 (by omega)))).symm
      have hlti : ¬ (j : Int) < (l.length : Int) := by omega
      go_wp2_with fail
      go_ret
      exact ⟨ret_b HG.out, HB.out⟩
  · have hlmi : ((l.length : Int) == (m.length : Int)) = false := by rw [beq_eq_false_iff_ne]; omega
    have HG : Hid (false = b) := by
      show _ = _
      rw [← hb.out]
      exact (decide_eq_false (fun e => hlm (by rw [e]))).symm
    go_enter Tryz.func17, Tryz.ntmps17
    go_wp2_with fail
    go_ret
    exact ⟨ret_b HG.out, ⟨0, rfl⟩⟩
end Go.Proofs.YtglmofeeggjemaaGreatDoor.GW
