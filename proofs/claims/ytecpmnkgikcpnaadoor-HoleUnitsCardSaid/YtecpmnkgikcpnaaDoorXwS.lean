/-
  The walks of slices.Equal on numbers, and of exce's same.
-/
import Derived.Test.YtecpmnkgikcpnaaDoorXwR
namespace Go.Proofs.YtecpmnkgikcpnaaDoor.XW
open Go.RowKit Go.Proofs.YtecpmnkgikcpnaaDoor.Base Go.Proofs.YtecpmnkgikcpnaaDoor.Dp Go.Proofs.YtecpmnkgikcpnaaDoor.Xp

set_option maxRecDepth 100000 in
set_option maxHeartbeats 800000 in
theorem eqn_c (B B' : Nat) (p q : Option Addr) (l m : List Int) (c d : Nat) (hl : l.length ≤ 1000000000) (w : World) (H1 : Hid (NumsIn B w p l)) (H2 : Hid (NumsIn B' w q m)) (b : Bool) (hb : Hid (decide (l = m) = b)) :
    Calls Tryd.prog 45 #[.slice p l.length c, .slice q m.length d] w fun e w' => e = .returned (.bool b) ∧ Drew w w' := by
  by_cases hlm : l.length = m.length
  · have hlmi : ((l.length : Int) == (m.length : Int)) = true := by rw [hlm]; exact beq_self_eq_true _
    have hml : m.length ≤ 1000000000 := by omega
    rw [← hlm]
    go_enter Tryd.func45, Tryd.ntmps45
    go_wp2_with fail
    go_loopw [13] (fun i wr => ∃ (j n : Nat), j ≤ l.length ∧ Hid (∀ k (h : k < l.length) (h2 : k < m.length), k < j → l[k] = m[k]) ∧ i = .int .i64 j ∧ wr = w.drewN n) (fun i _ => l.length - (intOf i).toNat)
    case atStart => exact ⟨0, 0, Nat.zero_le _, fun k _ _ h => absurd h (Nat.not_lt_zero _), rfl, rfl⟩
    case round =>
    obtain ⟨j, n, hj, HJ, rfl, rfl⟩ := hrel
    by_cases hlt : j < l.length
    · obtain ⟨b1, o1, c1, rfl, _, hh1, hc1⟩ := H1.out (by omega)
      obtain ⟨b2, o2, c2, rfl, _, hh2, hc2⟩ := H2.out (by omega)
      have hlt2 : j < m.length := by omega
      obtain ⟨x, hx⟩ : ∃ x, l[j] = x := ⟨_, rfl⟩
      obtain ⟨y, hy⟩ : ∃ y, m[j] = y := ⟨_, rfl⟩
      have x1 : w.cell? ⟨b1, o1 + j, none⟩ = some (.int .i64 x) := by
        have := hc1 j hlt
        rw [hx] at this
        simp [World.cell?, hh1, this]
      have y1 : w.cell? ⟨b2, o2 + j, none⟩ = some (.int .i64 y) := by
        have := hc2 j hlt2
        rw [hy] at this
        simp [World.cell?, hh2, this]
      clear hh1 hh2 hc1 hc2
      have hlti : (j : Int) < (l.length : Int) := by omega
      by_cases hxy : x = y
      · subst hxy
        have HJ2 : Hid (∀ k (h : k < l.length) (h2 : k < m.length), k < j + 1 → l[k] = m[k]) := by
          intro k h h2 hk
          by_cases hkj : k = j
          · subst hkj; rw [hx, hy]
          · exact HJ.out k h h2 (by omega)
        clear hx hy
        go_wp2_with fail
        go_quiet (fail)
        go_wp2_with fail
        go_round <;> first | exact ⟨j + 1, _, by omega, HJ2.out, by go_num, rfl⟩ | (simp [intOf] <;> omega)
      · have hne : (x == y) = false := beq_eq_false_iff_ne.2 hxy
        have HB : Hid (false = b) := by
          show _ = _
          rw [← hb.out]
          refine (decide_eq_false ?_).symm
          intro e
          subst e
          exact hxy (hx.symm.trans hy)
        clear hx hy hxy
        go_wp2_with fail
        go_quiet (fail)
        go_wp2_with fail
        go_ret
        exact ⟨ret_b HB.out, Drew.trans ⟨n, rfl⟩ ⟨_, rfl⟩⟩
    · have HB : Hid (true = b) := by
        show _ = _
        rw [← hb.out]
        refine (decide_eq_true ?_).symm
        exact List.ext_getElem hlm (fun k h h2 => HJ.out k h h2 (by omega))
      have hlti : ¬ ((j : Int) < (l.length : Int)) := by omega
      go_wp2_with fail
      go_ret
      exact ⟨ret_b HB.out, ⟨_, rfl⟩⟩
  · have hlmi : ((l.length : Int) == (m.length : Int)) = false := by rw [beq_eq_false_iff_ne]; omega
    have HB : Hid (false = b) := by
      show _ = _
      rw [← hb.out]
      refine (decide_eq_false ?_).symm
      intro e
      exact hlm (by rw [e])
    go_enter Tryd.func45, Tryd.ntmps45
    go_wp2_with fail
    go_ret
    exact ⟨ret_b HB.out, ⟨0, rfl⟩⟩

set_option maxRecDepth 100000 in
set_option maxHeartbeats 1600000 in
theorem same_raw (B1 B2 : Nat) (a1 a2 k1 k2 n1 n2 : Int) (o1 o2 : Bool) (t1 t2 x1 x2 y1 y2 u1 u2 v1 v2 : ByteArray) (p1 p2 : Option Addr) (l1 l2 : List Int) (c1 c2 : Nat) (hl : l1.length ≤ 1000000000) (w : World) (H1 : Hid (NumsIn B1 w p1 l1)) (H2 : Hid (NumsIn B2 w p2 l2)) (b : Bool)
    (hb : Hid ((k1 == k2 && (n1 == n2 && (o1 == o2 && (decide (t1 = t2) && (decide (x1 = x2) && (decide (y1 = y2) && (decide (u1 = u2) && (decide (v1 = v2) && decide (l1 = l2))))))))) = b)) :
    Calls Tryd.prog 29 #[.agg #[.int .i64 a1, .int .i64 k1, .int .i64 n1, .bool o1, .string t1, .string x1, .string y1, .string u1, .string v1, .slice p1 l1.length c1], .agg #[.int .i64 a2, .int .i64 k2, .int .i64 n2, .bool o2, .string t2, .string x2, .string y2, .string u2, .string v2, .slice p2 l2.length c2]] w fun e w' => e = .returned (.bool b) ∧ Below w.heap.size w w' := by
  obtain ⟨bn, hbn⟩ : ∃ bn, decide (l1 = l2) = bn := ⟨_, rfl⟩
  have HBN := Lib.hid hbn
  have hB := hb.out
  rw [hbn] at hB
  have g1 : ((w.alloc (.cells #[.int .i64 a1, .int .i64 k1, .int .i64 n1, .bool o1, .string t1, .string x1, .string y1, .string u1, .string v1, .slice p1 l1.length c1] 39)).alloc (.cells #[.int .i64 a2, .int .i64 k2, .int .i64 n2, .bool o2, .string t2, .string x2, .string y2, .string u2, .string v2, .slice p2 l2.length c2] 39)).heap[w.heap.size]? = some (.cells #[.int .i64 a1, .int .i64 k1, .int .i64 n1, .bool o1, .string t1, .string x1, .string y1, .string u1, .string v1, .slice p1 l1.length c1] 39) := one_below (heap_alloc_new w _) ((Below.refl _ _).alloc (Nat.le_refl _) _)
  have g2 : ((w.alloc (.cells #[.int .i64 a1, .int .i64 k1, .int .i64 n1, .bool o1, .string t1, .string x1, .string y1, .string u1, .string v1, .slice p1 l1.length c1] 39)).alloc (.cells #[.int .i64 a2, .int .i64 k2, .int .i64 n2, .bool o2, .string t2, .string x2, .string y2, .string u2, .string v2, .slice p2 l2.length c2] 39)).heap[w.heap.size + 1]? = some (.cells #[.int .i64 a2, .int .i64 k2, .int .i64 n2, .bool o2, .string t2, .string x2, .string y2, .string u2, .string v2, .slice p2 l2.length c2] 39) := by
    have h := heap_alloc_new (w.alloc (.cells #[.int .i64 a1, .int .i64 k1, .int .i64 n1, .bool o1, .string t1, .string x1, .string y1, .string u1, .string v1, .slice p1 l1.length c1] 39)) (.cells #[.int .i64 a2, .int .i64 k2, .int .i64 n2, .bool o2, .string t2, .string x2, .string y2, .string u2, .string v2, .slice p2 l2.length c2] 39)
    have e : (w.alloc (.cells #[.int .i64 a1, .int .i64 k1, .int .i64 n1, .bool o1, .string t1, .string x1, .string y1, .string u1, .string v1, .slice p1 l1.length c1] 39)).heap.size = w.heap.size + 1 := by simp
    rw [e] at h
    exact h
  have hbel : Below w.heap.size w ((w.alloc (.cells #[.int .i64 a1, .int .i64 k1, .int .i64 n1, .bool o1, .string t1, .string x1, .string y1, .string u1, .string v1, .slice p1 l1.length c1] 39)).alloc (.cells #[.int .i64 a2, .int .i64 k2, .int .i64 n2, .bool o2, .string t2, .string x2, .string y2, .string u2, .string v2, .slice p2 l2.length c2] 39)) := ((Below.refl _ _).alloc (Nat.le_refl _) _).alloc (by simp) _
  have HN1 := Lib.hid (H1.out.below hbel)
  have HN2 := Lib.hid (H2.out.below hbel)
  have HBEL := Lib.hid hbel
  have HG1 := Lib.hid g1
  have HG2 := Lib.hid g2
  clear g1 g2 hbel hb hbn
  go_enter Tryd.func29, Tryd.ntmps29
  go_upto_region 1 with fail
  generalize (w.alloc (.cells #[.int .i64 a1, .int .i64 k1, .int .i64 n1, .bool o1, .string t1, .string x1, .string y1, .string u1, .string v1, .slice p1 l1.length c1] 39)).alloc (.cells #[.int .i64 a2, .int .i64 k2, .int .i64 n2, .bool o2, .string t2, .string x2, .string y2, .string u2, .string v2, .slice p2 l2.length c2] 39) = W at HN1 HN2 HBEL HG1 HG2 ⊢
  obtain ⟨⟨d0, d1, d2, d3, d4, d5, d6, d7, d8, d9⟩, _⟩ := dr_at HG1.out
  obtain ⟨⟨e0, e1, e2, e3, e4, e5, e6, e7, e8, e9⟩, _⟩ := dr_at HG2.out
  by_cases q0 : k1 = k2
  · subst q0
    have r0 : (k1 == k1) = true := beq_self_eq_true _
    by_cases q1 : n1 = n2
    · subst q1
      have r1 : (n1 == n1) = true := beq_self_eq_true _
      by_cases q2 : o1 = o2
      · subst q2
        have r2 : (o1 == o1) = true := beq_self_eq_true _
        by_cases q3 : t1 = t2
        · subst q3
          have r3 : (t1.toList == t1.toList) = true := beq_self_eq_true _
          by_cases q4 : x1 = x2
          · subst q4
            have r4 : (x1.toList == x1.toList) = true := beq_self_eq_true _
            by_cases q5 : y1 = y2
            · subst q5
              have r5 : (y1.toList == y1.toList) = true := beq_self_eq_true _
              by_cases q6 : u1 = u2
              · subst q6
                have r6 : (u1.toList == u1.toList) = true := beq_self_eq_true _
                by_cases q7 : v1 = v2
                · subst q7
                  have r7 : (v1.toList == v1.toList) = true := beq_self_eq_true _
                  have HB : Hid (bn = b) := by show _ = _; rw [← hB]; simp
                  clear hB
                  go_wp2_with fail
                  with_reducible refine (eqn_c B1 B2 p1 p2 l1 l2 c1 c2 hl _ HN1 HN2 bn HBN).mono ?_
                  rintro en w9 ⟨rfl, hdr⟩
                  go_wp2_with fail
                  go_ret
                  exact ⟨ret_b HB.out, HBEL.out.trans ((drew_below hdr).mono HBEL.out.size)⟩
                · have r7 : (v1.toList == v2.toList) = false := by
                    rw [Lib.toList_data, Lib.toList_data, beq_eq_false_iff_ne]
                    intro e
                    exact q7 (str_eq e)
                  have HB : Hid (false = b) := by show _ = _; rw [← hB]; simp [q7]
                  clear hB q7
                  go_wp2_with fail
                  go_ret
                  exact ⟨ret_b HB.out, HBEL.out⟩
              · have r6 : (u1.toList == u2.toList) = false := by
                  rw [Lib.toList_data, Lib.toList_data, beq_eq_false_iff_ne]
                  intro e
                  exact q6 (str_eq e)
                have HB : Hid (false = b) := by show _ = _; rw [← hB]; simp [q6]
                clear hB q6
                go_wp2_with fail
                go_ret
                exact ⟨ret_b HB.out, HBEL.out⟩
            · have r5 : (y1.toList == y2.toList) = false := by
                rw [Lib.toList_data, Lib.toList_data, beq_eq_false_iff_ne]
                intro e
                exact q5 (str_eq e)
              have HB : Hid (false = b) := by show _ = _; rw [← hB]; simp [q5]
              clear hB q5
              go_wp2_with fail
              go_ret
              exact ⟨ret_b HB.out, HBEL.out⟩
          · have r4 : (x1.toList == x2.toList) = false := by
              rw [Lib.toList_data, Lib.toList_data, beq_eq_false_iff_ne]
              intro e
              exact q4 (str_eq e)
            have HB : Hid (false = b) := by show _ = _; rw [← hB]; simp [q4]
            clear hB q4
            go_wp2_with fail
            go_ret
            exact ⟨ret_b HB.out, HBEL.out⟩
        · have r3 : (t1.toList == t2.toList) = false := by
            rw [Lib.toList_data, Lib.toList_data, beq_eq_false_iff_ne]
            intro e
            exact q3 (str_eq e)
          have HB : Hid (false = b) := by show _ = _; rw [← hB]; simp [q3]
          clear hB q3
          go_wp2_with fail
          go_ret
          exact ⟨ret_b HB.out, HBEL.out⟩
      · have r2 : (o1 == o2) = false := beq_eq_false_iff_ne.2 q2
        have HB : Hid (false = b) := by show _ = _; rw [← hB]; simp [q2]
        clear hB q2
        go_wp2_with fail
        go_ret
        exact ⟨ret_b HB.out, HBEL.out⟩
    · have r1 : (n1 == n2) = false := beq_eq_false_iff_ne.2 q1
      have HB : Hid (false = b) := by show _ = _; rw [← hB]; simp [q1]
      clear hB q1
      go_wp2_with fail
      go_ret
      exact ⟨ret_b HB.out, HBEL.out⟩
  · have r0 : (k1 == k2) = false := beq_eq_false_iff_ne.2 q0
    have HB : Hid (false = b) := by show _ = _; rw [← hB]; simp [q0]
    clear hB q0
    go_wp2_with fail
    go_ret
    exact ⟨ret_b HB.out, HBEL.out⟩

theorem bs_inj (a b : List UInt8) : ((⟨a.toArray⟩ : ByteArray) = ⟨b.toArray⟩) ↔ a = b := by
  constructor
  · intro h
    have := congrArg (fun s : ByteArray => s.data.toList) h
    exact this
  · intro h; rw [h]
/-- same: all but where they stand. -/
theorem same_c (B1 B2 : Nat) (x y : D) (a1 a2 : Int) (p1 p2 : Option Addr) (c1 c2 : Nat) (hl : x.nums.length ≤ 1000000000) (w : World) (H1 : Hid (NumsIn B1 w p1 x.nums)) (H2 : Hid (NumsIn B2 w p2 y.nums)) (b : Bool) (hb : Hid (decide (x = y) = b)) :
    Calls Tryd.prog 29 #[drVal x a1 (.slice p1 x.nums.length c1), drVal y a2 (.slice p2 y.nums.length c2)] w fun e w' => e = .returned (.bool b) ∧ Below w.heap.size w w' := by
  refine same_raw B1 B2 a1 a2 x.k y.k x.n y.n x.on y.on _ _ _ _ _ _ _ _ _ _ p1 p2 x.nums y.nums c1 c2 hl w H1 H2 b ?_
  show _ = _
  rw [← hb.out, Bool.eq_iff_iff]
  simp only [Bool.and_eq_true, beq_iff_eq, decide_eq_true_eq, bs_inj]
  cases x; cases y
  simp only [D.mk.injEq]
end Go.Proofs.YtecpmnkgikcpnaaDoor.XW
