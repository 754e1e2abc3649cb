/-
  The walk of gerb's same.
-/
import Derived.Test.YtglmofeeggjemaaGreatDoorIe
import Derived.BigQuiet
set_option linter.unusedVariables false
namespace Go.Proofs.YtglmofeeggjemaaGreatDoor.GW
open Go.RowKit Go.Proofs.YtglmofeeggjemaaGreatDoor.Base Go.Proofs.YtglmofeeggjemaaGreatDoor.Dp Go.Proofs.YtglmofeeggjemaaGreatDoor.DeciW Go.Proofs.YtglmofeeggjemaaGreatDoor.Mem Go.Proofs.YtglmofeeggjemaaGreatDoor.RdW Go.Proofs.YtglmofeeggjemaaGreatDoor.Gp

set_option maxRecDepth 100000 in
set_option maxHeartbeats 12800000 in
theorem gsame_raw (B1 B2 : Nat) (a1 a2 k1 k2 n1 n2 m1 m2 : Int) (o1 o2 : Bool) (t1 t2 x1 x2 y1 y2 i1 i2 j1 j2 : ByteArray) (p1 p2 r1 r2 : Option Addr) (l1 l2 : List Int) (b1 b2 : List Blk) (c1 c2 g1 g2 : Nat) (hl : l1.length ≤ 1000000000) (hbl : b1.length ≤ 1000000000) (hn : Hid (∀ x ∈ b1, finB x)) (w : World) (H1 : Hid (NumsIn B1 w p1 l1)) (H2 : Hid (NumsIn B2 w p2 l2)) (K1 : Hid (BlksIn B1 w r1 b1)) (K2 : Hid (BlksIn B2 w r2 b2)) (b : Bool)
    (hb : Hid ((k1 == k2 && (n1 == n2 && (m1 == m2 && (o1 == o2 && (decide (t1 = t2) && (decide (x1 = x2) && (decide (y1 = y2) && (decide (i1 = i2) && (decide (j1 = j2) && (decide (l1 = l2) && decide (b1 = b2))))))))))) = b)) :
    Calls Tryz.prog 15 #[.agg #[.int .i64 a1, .int .i64 k1, .int .i64 n1, .int .i64 m1, .bool o1, .string t1, .string x1, .string y1, .string i1, .string j1, .slice p1 l1.length c1, .slice r1 b1.length g1], .agg #[.int .i64 a2, .int .i64 k2, .int .i64 n2, .int .i64 m2, .bool o2, .string t2, .string x2, .string y2, .string i2, .string j2, .slice p2 l2.length c2, .slice r2 b2.length g2]] w fun e w' => e = .returned (.bool b) ∧ Below w.heap.size w w' := by
  obtain ⟨bn, hbn⟩ : ∃ bn, decide (l1 = l2) = bn := ⟨_, rfl⟩
  obtain ⟨bb, hbb⟩ : ∃ bb, decide (b1 = b2) = bb := ⟨_, rfl⟩
  have HBN := Lib.hid hbn
  have HBB := Lib.hid hbb
  have hB := hb.out
  rw [hbn, hbb] at hB
  have HG2 : Hid (((w.alloc (.cells #[.int .i64 a1, .int .i64 k1, .int .i64 n1, .int .i64 m1, .bool o1, .string t1, .string x1, .string y1, .string i1, .string j1, .slice p1 l1.length c1, .slice r1 b1.length g1] 32)).alloc (.cells #[.int .i64 a2, .int .i64 k2, .int .i64 n2, .int .i64 m2, .bool o2, .string t2, .string x2, .string y2, .string i2, .string j2, .slice p2 l2.length c2, .slice r2 b2.length g2] 32)).heap[w.heap.size + 1]? = some (.cells #[.int .i64 a2, .int .i64 k2, .int .i64 n2, .int .i64 m2, .bool o2, .string t2, .string x2, .string y2, .string i2, .string j2, .slice p2 l2.length c2, .slice r2 b2.length g2] 32)) := two_new w _ _
  have HG1 : Hid (((w.alloc (.cells #[.int .i64 a1, .int .i64 k1, .int .i64 n1, .int .i64 m1, .bool o1, .string t1, .string x1, .string y1, .string i1, .string j1, .slice p1 l1.length c1, .slice r1 b1.length g1] 32)).alloc (.cells #[.int .i64 a2, .int .i64 k2, .int .i64 n2, .int .i64 m2, .bool o2, .string t2, .string x2, .string y2, .string i2, .string j2, .slice p2 l2.length c2, .slice r2 b2.length g2] 32)).heap[w.heap.size]? = some (.cells #[.int .i64 a1, .int .i64 k1, .int .i64 n1, .int .i64 m1, .bool o1, .string t1, .string x1, .string y1, .string i1, .string j1, .slice p1 l1.length c1, .slice r1 b1.length g1] 32)) := one_below (heap_alloc_new w _) ((Below.refl _ _).alloc (Nat.le_refl _) _)
  have hbel : Below w.heap.size w ((w.alloc (.cells #[.int .i64 a1, .int .i64 k1, .int .i64 n1, .int .i64 m1, .bool o1, .string t1, .string x1, .string y1, .string i1, .string j1, .slice p1 l1.length c1, .slice r1 b1.length g1] 32)).alloc (.cells #[.int .i64 a2, .int .i64 k2, .int .i64 n2, .int .i64 m2, .bool o2, .string t2, .string x2, .string y2, .string i2, .string j2, .slice p2 l2.length c2, .slice r2 b2.length g2] 32)) := ((Below.refl _ _).alloc (Nat.le_refl _) _).alloc (by simp) _
  have HN1 := Lib.hid (H1.out.below hbel)
  have HN2 := Lib.hid (H2.out.below hbel)
  have HK1 := Lib.hid (K1.out.below hbel)
  have HK2 := Lib.hid (K2.out.below hbel)
  have HBEL := Lib.hid hbel
  clear hbel hb hbn hbb
  go_enter Tryz.func15, Tryz.ntmps15
  generalize hW : (w.alloc (.cells #[.int .i64 a1, .int .i64 k1, .int .i64 n1, .int .i64 m1, .bool o1, .string t1, .string x1, .string y1, .string i1, .string j1, .slice p1 l1.length c1, .slice r1 b1.length g1] 32)).alloc (.cells #[.int .i64 a2, .int .i64 k2, .int .i64 n2, .int .i64 m2, .bool o2, .string t2, .string x2, .string y2, .string i2, .string j2, .slice p2 l2.length c2, .slice r2 b2.length g2] 32) = W at HG1 HG2 HN1 HN2 HK1 HK2 HBEL
  have HWW := Lib.hid hW
  obtain ⟨⟨d0, d1, d2, d3, d4, d5, d6, d7, d8, d9, d10, d11⟩, _⟩ := cm_at HG1.out
  obtain ⟨⟨e0, e1, e2, e3, e4, e5, e6, e7, e8, e9, e10, e11⟩, _⟩ := cm_at HG2.out
  by_cases q0 : k1 = k2
  · subst q0
    have rr0 : (k1 == k1) = true := beq_self_eq_true _
    by_cases q1 : n1 = n2
    · subst q1
      have rr1 : (n1 == n1) = true := beq_self_eq_true _
      by_cases q2 : m1 = m2
      · subst q2
        have rr2 : (m1 == m1) = true := beq_self_eq_true _
        by_cases q3 : o1 = o2
        · subst q3
          have rr3 : (o1 == o1) = true := beq_self_eq_true _
          by_cases q4 : t1 = t2
          · subst q4
            have rr4 : (t1.toList == t1.toList) = true := beq_self_eq_true _
            by_cases q5 : x1 = x2
            · subst q5
              have rr5 : (x1.toList == x1.toList) = true := beq_self_eq_true _
              by_cases q6 : y1 = y2
              · subst q6
                have rr6 : (y1.toList == y1.toList) = true := beq_self_eq_true _
                by_cases q7 : i1 = i2
                · subst q7
                  have rr7 : (i1.toList == i1.toList) = true := beq_self_eq_true _
                  by_cases q8 : j1 = j2
                  · subst q8
                    have rr8 : (j1.toList == j1.toList) = true := beq_self_eq_true _
                    have HB : Hid ((bn && bb) = b) := by show _ = _; rw [← hB]; simp
                    clear hB
                    go_wp2_with fail
                    with_reducible refine (eqn_c B1 B2 p1 p2 l1 l2 c1 c2 hl _ HN1 HN2 bn HBN).mono ?_
                    rintro en w9 ⟨rfl, hdr⟩
                    have HD9 := Lib.hid (drew_below hdr)
                    clear hdr
                    have HG91 := Lib.hid (one_below HG1.out HD9.out)
                    have HG92 := Lib.hid (one_below HG2.out HD9.out)
                    have HK91 := Lib.hid (HK1.out.below HD9.out)
                    have HK92 := Lib.hid (HK2.out.below HD9.out)
                    clear d0 d1 d2 d3 d4 d5 d6 d7 d8 d9 d10 d11 e0 e1 e2 e3 e4 e5 e6 e7 e8 e9 e10 e11
                    obtain ⟨⟨d0, d1, d2, d3, d4, d5, d6, d7, d8, d9, d10, d11⟩, _⟩ := cm_at HG91.out
                    obtain ⟨⟨e0, e1, e2, e3, e4, e5, e6, e7, e8, e9, e10, e11⟩, _⟩ := cm_at HG92.out
                    cases bn with
                    | false =>
                      have HB2 : Hid (false = b) := by show _ = _; rw [← HB.out]; rfl
                      go_wp2_with fail
                      go_ret
                      exact ⟨ret_b HB2.out, HBEL.out.trans (HD9.out.mono HBEL.out.size)⟩
                    | true =>
                      have HB2 : Hid (bb = b) := by show _ = _; rw [← HB.out]; rfl
                      go_wp2_with fail
                      with_reducible refine (eqb_c B1 B2 r1 r2 b1 b2 g1 g2 hbl hn _ HK91 HK92 bb HBB).mono ?_
                      rintro en w10 ⟨rfl, hb10⟩
                      have HB10 := Lib.hid hb10
                      clear hb10
                      go_wp2_with fail
                      go_ret
                      exact ⟨ret_b HB2.out, (HBEL.out.trans (HD9.out.mono HBEL.out.size)).trans (HB10.out.mono (HBEL.out.trans (HD9.out.mono HBEL.out.size)).size)⟩
                  · have rr8 : (j1.toList == j2.toList) = false := by
                      rw [Lib.toList_data, Lib.toList_data, beq_eq_false_iff_ne]
                      intro e
                      exact q8 (str_eq e)
                    have HB : Hid (false = b) := by show _ = _; rw [← hB]; simp [q8]
                    clear hB q8
                    go_wp2_with fail
                    go_ret
                    exact ⟨ret_b HB.out, HBEL.out⟩
                · have rr7 : (i1.toList == i2.toList) = false := by
                    rw [Lib.toList_data, Lib.toList_data, beq_eq_false_iff_ne]
                    intro e
                    exact q7 (str_eq e)
                  have HB : Hid (false = b) := by show _ = _; rw [← hB]; simp [q7]
                  clear hB q7
                  go_wp2_with fail
                  go_ret
                  exact ⟨ret_b HB.out, HBEL.out⟩
              · have rr6 : (y1.toList == y2.toList) = false := by
                  rw [Lib.toList_data, Lib.toList_data, beq_eq_false_iff_ne]
                  intro e
                  exact q6 (str_eq e)
                have HB : Hid (false = b) := by show _ = _; rw [← hB]; simp [q6]
                clear hB q6
                go_wp2_with fail
                go_ret
                exact ⟨ret_b HB.out, HBEL.out⟩
            · have rr5 : (x1.toList == x2.toList) = false := by
                rw [Lib.toList_data, Lib.toList_data, beq_eq_false_iff_ne]
                intro e
                exact q5 (str_eq e)
              have HB : Hid (false = b) := by show _ = _; rw [← hB]; simp [q5]
              clear hB q5
              go_wp2_with fail
              go_ret
              exact ⟨ret_b HB.out, HBEL.out⟩
          · have rr4 : (t1.toList == t2.toList) = false := by
              rw [Lib.toList_data, Lib.toList_data, beq_eq_false_iff_ne]
              intro e
              exact q4 (str_eq e)
            have HB : Hid (false = b) := by show _ = _; rw [← hB]; simp [q4]
            clear hB q4
            go_wp2_with fail
            go_ret
            exact ⟨ret_b HB.out, HBEL.out⟩
        · have rr3 : (o1 == o2) = false := beq_eq_false_iff_ne.2 q3
          have HB : Hid (false = b) := by show _ = _; rw [← hB]; simp [q3]
          clear hB q3
          go_wp2_with fail
          go_ret
          exact ⟨ret_b HB.out, HBEL.out⟩
      · have rr2 : (m1 == m2) = false := beq_eq_false_iff_ne.2 q2
        have HB : Hid (false = b) := by show _ = _; rw [← hB]; simp [q2]
        clear hB q2
        go_wp2_with fail
        go_ret
        exact ⟨ret_b HB.out, HBEL.out⟩
    · have rr1 : (n1 == n2) = false := beq_eq_false_iff_ne.2 q1
      have HB : Hid (false = b) := by show _ = _; rw [← hB]; simp [q1]
      clear hB q1
      go_wp2_with fail
      go_ret
      exact ⟨ret_b HB.out, HBEL.out⟩
  · have rr0 : (k1 == k2) = false := beq_eq_false_iff_ne.2 q0
    have HB : Hid (false = b) := by show _ = _; rw [← hB]; simp [q0]
    clear hB q0
    go_wp2_with fail
    go_ret
    exact ⟨ret_b HB.out, HBEL.out⟩
end Go.Proofs.YtglmofeeggjemaaGreatDoor.GW
