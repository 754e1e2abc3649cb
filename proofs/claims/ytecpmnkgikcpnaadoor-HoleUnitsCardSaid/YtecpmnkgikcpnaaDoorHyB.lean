/-
  Several texts in one: HwG, HwH, HwI, HwJ, HwK, HwL, HwM, HxA, HxB.
-/
import Derived.Test.YtecpmnkgikcpnaaDoorHyA
import Derived.Test.YtecpmnkgikcpnaaDoorXwT
import Derived.Carry
import Derived.Test.YtecpmnkgikcpnaaDoorRefD
import Derived.Test.YtecpmnkgikcpnaaDoorHu
set_option linter.unusedVariables false
namespace Go.Proofs.YtecpmnkgikcpnaaDoor.HW
open Go.RowKit Go.Proofs.YtecpmnkgikcpnaaDoor.Base Go.Proofs.YtecpmnkgikcpnaaDoor.Dp Go.Proofs.YtecpmnkgikcpnaaDoor.DeciW Go.Proofs.YtecpmnkgikcpnaaDoor.Xp Go.Proofs.YtecpmnkgikcpnaaDoor.Hp Go.Proofs.YtecpmnkgikcpnaaDoor.XW

theorem below_drew (W : World) : Below W.heap.size W W.drew := ⟨rfl, rfl, rfl, Nat.le_refl _, fun _ _ => rfl⟩
/-- A place made, in memory. -/
def PtAt (w x : World) (c : D) (a : Int) (nv : Value) (pb : Nat) (u v : Int) : Prop := x.heap[pb]? = some (ptObj u v) ∧ Below w.heap.size w x ∧ x.heap[w.heap.size]? = some (drObj c a nv)
section
variable {B b r n : Nat} {m : M} {c : D} {a : Int} {nv : Value} {w : World} (H : Mach B b r n m w)
include H
theorem pt_S {x : World} (h1 : Below w.heap.size w x) (h2 : x.heap[w.heap.size]? = some (drObj c a nv)) : x.cell? ⟨w.heap.size, 5, none⟩ = some (.string ⟨c.x.toArray⟩) ∧ x.cell? ⟨w.heap.size, 6, none⟩ = some (.string ⟨c.y.toArray⟩) ∧ x.cell? ⟨b, 9, none⟩ = some (.int .i64 m.x) ∧ x.cell? ⟨b, 10, none⟩ = some (.int .i64 m.y) ∧ Below w.heap.size w x ∧ x.heap[w.heap.size]? = some (drObj c a nv) := by
  obtain ⟨sv, hh, _⟩ := (H.below h1).cells
  obtain ⟨⟨_, _, _, _, _, d5, d6, _⟩, _⟩ := dr_at h2
  exact ⟨d5, d6, (mc_of hh).c9, (mc_of hh).c10, h1, h2⟩
theorem pt_bel {v x : World} (hx : Below v.heap.size v x) (h : v.cell? ⟨w.heap.size, 5, none⟩ = some (.string ⟨c.x.toArray⟩) ∧ v.cell? ⟨w.heap.size, 6, none⟩ = some (.string ⟨c.y.toArray⟩) ∧ v.cell? ⟨b, 9, none⟩ = some (.int .i64 m.x) ∧ v.cell? ⟨b, 10, none⟩ = some (.int .i64 m.y) ∧ Below w.heap.size w v ∧ v.heap[w.heap.size]? = some (drObj c a nv)) : x.cell? ⟨w.heap.size, 5, none⟩ = some (.string ⟨c.x.toArray⟩) ∧ x.cell? ⟨w.heap.size, 6, none⟩ = some (.string ⟨c.y.toArray⟩) ∧ x.cell? ⟨b, 9, none⟩ = some (.int .i64 m.x) ∧ x.cell? ⟨b, 10, none⟩ = some (.int .i64 m.y) ∧ Below w.heap.size w x ∧ x.heap[w.heap.size]? = some (drObj c a nv) := by
  obtain ⟨_, _, _, _, h5, h6⟩ := h
  exact pt_S H (h5.trans (hx.mono h5.size)) (one_below h6 hx)
theorem pt_M {v : World} (h : v.cell? ⟨w.heap.size, 5, none⟩ = some (.string ⟨c.x.toArray⟩) ∧ v.cell? ⟨w.heap.size, 6, none⟩ = some (.string ⟨c.y.toArray⟩) ∧ v.cell? ⟨b, 9, none⟩ = some (.int .i64 m.x) ∧ v.cell? ⟨b, 10, none⟩ = some (.int .i64 m.y) ∧ Below w.heap.size w v ∧ v.heap[w.heap.size]? = some (drObj c a nv)) : Mach B b r n m v := H.below h.2.2.2.2.1
theorem pt_set {v : World} {k : Nat} (hk : w.heap.size < k) (u1 u2 : Value) (h : v.cell? ⟨w.heap.size, 5, none⟩ = some (.string ⟨c.x.toArray⟩) ∧ v.cell? ⟨w.heap.size, 6, none⟩ = some (.string ⟨c.y.toArray⟩) ∧ v.cell? ⟨b, 9, none⟩ = some (.int .i64 m.x) ∧ v.cell? ⟨b, 10, none⟩ = some (.int .i64 m.y) ∧ Below w.heap.size w v ∧ v.heap[w.heap.size]? = some (drObj c a nv)) : ((v.setCell ⟨k, 0, none⟩ u1).setCell ⟨k, 1, none⟩ u2).cell? ⟨w.heap.size, 5, none⟩ = some (.string ⟨c.x.toArray⟩) ∧ ((v.setCell ⟨k, 0, none⟩ u1).setCell ⟨k, 1, none⟩ u2).cell? ⟨w.heap.size, 6, none⟩ = some (.string ⟨c.y.toArray⟩) ∧ ((v.setCell ⟨k, 0, none⟩ u1).setCell ⟨k, 1, none⟩ u2).cell? ⟨b, 9, none⟩ = some (.int .i64 m.x) ∧ ((v.setCell ⟨k, 0, none⟩ u1).setCell ⟨k, 1, none⟩ u2).cell? ⟨b, 10, none⟩ = some (.int .i64 m.y) ∧ Below w.heap.size w ((v.setCell ⟨k, 0, none⟩ u1).setCell ⟨k, 1, none⟩ u2) ∧ ((v.setCell ⟨k, 0, none⟩ u1).setCell ⟨k, 1, none⟩ u2).heap[w.heap.size]? = some (drObj c a nv) := by
  obtain ⟨_, _, _, _, h5, h6⟩ := h
  refine pt_S H ((h5.setCell (p := ⟨k, 0, none⟩) (Nat.le_of_lt hk) _).setCell (p := ⟨k, 1, none⟩) (Nat.le_of_lt hk) _) ?_
  rw [Below.heap_setCell _ _ _ _ (by show w.heap.size ≠ k; omega), Below.heap_setCell _ _ _ _ (by show w.heap.size ≠ k; omega)]
  exact h6
theorem met2 {v : World} {k : Nat} (hk : w.heap.size < k) (h : v.cell? ⟨w.heap.size, 5, none⟩ = some (.string ⟨c.x.toArray⟩) ∧ v.cell? ⟨w.heap.size, 6, none⟩ = some (.string ⟨c.y.toArray⟩) ∧ v.cell? ⟨b, 9, none⟩ = some (.int .i64 m.x) ∧ v.cell? ⟨b, 10, none⟩ = some (.int .i64 m.y) ∧ Below w.heap.size w v ∧ v.heap[w.heap.size]? = some (drObj c a nv)) (hz : v.heap[k]? = some (ptObj 0 0)) (p q : Int) : PtAt w ((v.setCell ⟨k, 0, none⟩ (.int .i64 p)).setCell ⟨k, 1, none⟩ (.int .i64 q)) c a nv k p q := by
  have h1 := pt_set H hk (.int .i64 p) (.int .i64 q) h
  exact ⟨set1 (set0 hz _) _, h1.2.2.2.2.1, h1.2.2.2.2.2⟩
end
theorem met1 {w v : World} {c : D} {a : Int} {nv : Value} (h5 : Below w.heap.size w v) (h6 : v.heap[w.heap.size]? = some (drObj c a nv)) (p q : Int) : w.heap.size < v.heap.size ∧ PtAt w (v.alloc (ptObj p q)) c a nv v.heap.size p q :=
  ⟨(Array.getElem?_eq_some_iff.1 h6).1, heap_alloc_new v _, h5.alloc h5.size _, one_below h6 ((Below.refl _ _).alloc (Nat.le_refl _) _)⟩
theorem PtAt.below {w x y : World} {c : D} {a : Int} {nv : Value} {pb : Nat} {u v : Int} (h : PtAt w x c a nv pb u v) (hb : Below x.heap.size x y) : PtAt w y c a nv pb u v :=
  ⟨one_below h.1 hb, h.2.1.trans (hb.mono h.2.1.size), one_below h.2.2 hb⟩
theorem add_err {m : M} {s : Sh} {k : Nat} (h : addV m s = .error k) : k = 5 ∨ k = 6 := by
  unfold addV at h
  split at h
  · injection h with h; exact .inl h.symm
  · split at h
    · injection h with h; exact .inr h.symm
    · cases h
/-- The place stored. -/
theorem Mach.place {B b r n : Nat} {m : M} {w : World} (h : Mach B b r n m w) (u v : Int) (huv : (-536870912 ≤ u ∧ u ≤ 536870912) ∧ (-536870912 ≤ v ∧ v ≤ 536870912)) :
    Mach B b r n { m with x := u, y := v } ((w.setCell ⟨b, 9, none⟩ (.int .i64 u)).setCell ⟨b, 10, none⟩ (.int .i64 v)) ∧ Below B w ((w.setCell ⟨b, 9, none⟩ (.int .i64 u)).setCell ⟨b, 10, none⟩ (.int .i64 v)) := by
  have f := h.fine
  obtain ⟨h1, b1⟩ := h.upd { m with x := u } 9 (.int .i64 u) (fun sv => rfl) rfl rfl ⟨f.b0, f.b1, f.n, huv.1.1, huv.1.2, f.y0, f.y1⟩ h.t0 h.t1
  obtain ⟨h2, b2⟩ := h1.upd { m with x := u, y := v } 10 (.int .i64 v) (fun sv => rfl) rfl rfl ⟨f.b0, f.b1, f.n, huv.1.1, huv.1.2, huv.2.1, huv.2.2⟩ h.t0 h.t1
  exact ⟨h2, b1.trans b2⟩
theorem str_le {l : List UInt8} (h : l.length ≤ 1000000) : (⟨l.toArray⟩ : ByteArray).size ≤ maxLen := by
  unfold maxLen
  have e : (⟨l.toArray⟩ : ByteArray).size = l.length := by show l.toArray.size = _; simp
  rw [e]; omega

set_option maxRecDepth 100000 in
set_option maxHeartbeats 3200000 in
theorem cut_c (B b r n : Nat) (m : M) (c : D) (hc : Hid (Cd c)) (a : Int) (nv : Value) (w : World) (hB : B ≤ w.heap.size) (H : Hid (Mach B b r n m w)) (res : Except Nat M) (hres : Hid (cutV m c = res)) :
    Calls Tryd.prog 70 #[.pointer (some ⟨b, 0, none⟩), drVal c a nv] w (MOut B b r n w res) := by
  have HBB := Lib.hid hB
  have HB1 : Hid (Below w.heap.size w (w.alloc (drObj c a nv))) := (Below.refl _ _).alloc (Nat.le_refl _) _
  have HS1 : Hid ((w.alloc (drObj c a nv)).heap[w.heap.size]? = some (drObj c a nv)) := heap_alloc_new w _
  have hl := hres.out
  unfold cutV at hl
  clear hB hres
  go_enter Tryd.func70, Tryd.ntmps70
  go_upto_region 1 with fail
  generalize w.alloc _ = W at HB1 HS1 ⊢
  have HM1 := Lib.hid (H.out.below HB1.out)
  obtain ⟨sv, h1, _⟩ := HM1.out.cells
  obtain ⟨_, _, _, _, _, _, _, _, c8, c9, c10, c11, c12, _⟩ := mc_of h1
  obtain ⟨⟨_, _, _, _, _, d5, d6, _⟩, _⟩ := dr_at HS1.out
  clear h1
  cases hr : m.routing with
  | false =>
    have HR : Hid (.error 4 = res) := by show _ = _; rw [← hl]; exact (if_pos (.inl hr)).symm
    rw [hr] at c11
    clear hl hr
    go_wp2_with fail
    go_ret
    rw [← HR.out]
    exact ⟨HB1.out.mono HBB.out, rfl⟩
  | true =>
    rw [hr] at c11
    cases hd : m.down with
    | true =>
      rw [hd] at c12
      by_cases ht : m.tool = 0
      · have htb : (m.tool == 0) = true := beq_iff_eq.2 ht
        have HR : Hid (.error 4 = res) := by show _ = _; rw [← hl]; exact (if_pos (.inr ⟨hd, ht⟩)).symm
        clear hl hr hd ht
        go_wp2_with fail
        go_ret
        rw [← HR.out]
        exact ⟨HB1.out.mono HBB.out, rfl⟩
      · have htb : (m.tool == 0) = false := beq_eq_false_iff_ne.2 ht
        rw [if_neg (by rw [hr]; rintro (e | ⟨_, e⟩); cases e; exact ht e)] at hl
        obtain ⟨o, ho⟩ : ∃ o, ptV m c.x c.y m.x m.y = o := ⟨_, rfl⟩
        have HO := Lib.hid ho
        rw [ho] at hl
        have HL := Lib.hid hl
        have HD := Lib.hid hd
        have KS := Lib.hid (pt_S H.out HB1.out HS1.out)
        have KD := Lib.hid (pt_bel H.out (below_drew W) KS.out)
        have hlt : w.heap.size < W.heap.size := (Array.getElem?_eq_some_iff.1 HS1.out).1
        clear hl hr hd ht ho
        go_upto_region 3 with fail
        go_cut [5, 6] (fun pv ok x => ∃ pb : Nat, pv = .pointer (some ⟨pb, 0, none⟩) ∧ ok = .bool o.isSome ∧ w.heap.size < pb ∧ Hid (PtAt w x c a nv pb (o.getD (0, 0)).1 (o.getD (0, 0)).2))
        case first =>
          go_region_held3 (fun x => x.cell? ⟨w.heap.size, 5, none⟩ = some (.string ⟨c.x.toArray⟩) ∧ x.cell? ⟨w.heap.size, 6, none⟩ = some (.string ⟨c.y.toArray⟩) ∧ x.cell? ⟨b, 9, none⟩ = some (.int .i64 m.x) ∧ x.cell? ⟨b, 10, none⟩ = some (.int .i64 m.y) ∧ Below w.heap.size w x ∧ x.heap[w.heap.size]? = some (drObj c a nv))
            (first | exact KD.out | exact KW.out | exact pt_bel H.out ((Below.refl _ _).alloc (Nat.le_refl _) _) KW.out | exact pt_bel H.out (((Below.refl _ _).alloc (Nat.le_refl _) _).drew) KS.out | exact pt_set H.out hlt _ _ KW.out | (trace_state; fail))
            (first | (go_at_call 69; refine (pt_c B b r n m ⟨c.x.toArray⟩ ⟨c.y.toArray⟩ (str_le hc.out.x) (str_le hc.out.y) m.x m.y _ (Lib.hid (pt_M H.out (by assumption))) o HO).mono ?_; rintro e w' ⟨rfl, hbw⟩; have KW := Lib.hid (pt_bel H.out hbw (by assumption)); first | (have KZ : Hid (w'.heap[W.heap.size]? = some (ptObj 0 0)) := (one_below (w := (W.alloc (ptObj 0 0)).drew) (heap_alloc_new W (ptObj 0 0)) hbw); have z0 := (pt_at KZ.out).1.1; have z1 := (pt_at KZ.out).1.2; have y0 := (pt_at KZ.out).2.1; have y1 := (pt_at KZ.out).2.2) | skip))
          · go_wp2_with fail
            go_meet
            exact ⟨_, rfl, rfl, met1 KW.out.2.2.2.2.1 KW.out.2.2.2.2.2 _ _⟩
          · go_wp2_with fail
            go_meet
            exact ⟨_, rfl, rfl, hlt, met2 H.out hlt KW.out KZ.out _ _⟩
        case rest =>
          obtain ⟨pb, rfl, rfl, hpb, HP⟩ := hcut
          have HMX := Lib.hid (H.out.below HP.out.2.1)
          clear c8 c9 c10 c11 c12 d5 d6 KS KD HM1 HB1 HS1 hlt
          obtain ⟨sv, h1, _⟩ := HMX.out.cells
          obtain ⟨_, _, _, _, _, _, _, _, c8, c9, c10, c11, c12, _⟩ := mc_of h1
          have hf := (mc_of h1).f
          have f9 := hf 9
          have f10 := hf 10
          rw [HD.out] at c12
          obtain ⟨⟨q0, q1⟩, _⟩ := pt_at HP.out.1
          clear h1 hf
          cases o with
          | none =>
            have HR : Hid (.error 5 = res) := HL.out
            go_wp2_with fail
            go_ret
            rw [← HR.out]
            exact ⟨HP.out.2.1.mono HBB.out, rfl⟩
          | some pq =>
            obtain ⟨u, v⟩ := pq
            obtain ⟨r2, hr2⟩ : ∃ r2, addV m (lineS m.x m.y u v 0) = r2 := ⟨_, rfl⟩
            have HR2 := Lib.hid hr2
            have hl2 : thenAt r2 u v = res := by
              have h := HL.out
              simp only [] at h
              rw [if_pos HD.out, hr2] at h
              exact h
            have HMD : Hid (Mach B b r n m wc.drew) := HMX.out.below (below_drew wc)
            have HSD : Hid (B ≤ wc.drew.heap.size) := Nat.le_trans HBB.out HP.out.2.1.size
            have huv := Lib.hid (pt_near HO.out HMX.out.fine.x0 HMX.out.fine.x1 HMX.out.fine.y0 HMX.out.fine.y1)
            clear hr2
            cases r2 with
            | error k =>
              have HR : Hid (.error k = res) := hl2
              have hk := add_err HR2.out
              clear hl2
              go_upto_region 7 with fail
              go_region_law ((go_simp; go_at_call 84; refine (add_c B b r n m (lineS m.x m.y u v 0) (sp_line _ _ _ _) _ HSD.out HMD _ HR2).mono ?_; rintro e w' ⟨⟨hba, rfl⟩, _⟩))
              all_goals
                have HBA := Lib.hid (((HP.out.2.1.drew).mono HBB.out).trans hba)
                clear hba
                rcases hk with rfl | rfl
                · go_wp2_with fail
                  go_ret
                  rw [← HR.out]
                  exact ⟨HBA.out, rfl⟩
                · go_wp2_with fail
                  go_ret
                  rw [← HR.out]
                  exact ⟨HBA.out, rfl⟩
            | ok m2 =>
              have HR : Hid (.ok { m2 with x := u, y := v } = res) := hl2
              clear hl2
              go_upto_region 7 with fail
              go_region_law ((go_simp; go_at_call 84; refine (add_c B b r n m (lineS m.x m.y u v 0) (sp_line _ _ _ _) _ HSD.out HMD _ HR2).mono ?_; rintro e w' ⟨⟨hba, rfl, hma⟩, hka⟩))
              all_goals
                have HBA := Lib.hid (((HP.out.2.1.drew).mono HBB.out).trans hba)
                have HMA := Lib.hid hma
                have HPA : Hid (w'.heap[pb]? = some (ptObj u v)) := hka.2 pb _ _ _ HP.out.1 (by decide) (by decide)
                have HF := Lib.hid (hma.place u v huv.out)
                clear hba hma hka c8 c9 c10 c11 c12 f9 f10 q0 q1
                obtain ⟨sv2, h1, _⟩ := HMA.out.cells
                obtain ⟨_, _, _, _, _, _, _, _, _, c9, c10, _⟩ := mc_of h1
                have hf := (mc_of h1).f
                have f9 := hf 9
                have f10 := hf 10
                obtain ⟨⟨q0, q1⟩, _⟩ := pt_at HPA.out
                clear h1 hf
                go_wp2_with fail
                go_ret
                rw [← HR.out]
                exact ⟨HBA.out.trans HF.out.2, rfl, HF.out.1⟩
    | false =>
      rw [hd] at c12
      rw [if_neg (by rw [hr, hd]; rintro (e | ⟨e, _⟩) <;> cases e)] at hl
      obtain ⟨o, ho⟩ : ∃ o, ptV m c.x c.y m.x m.y = o := ⟨_, rfl⟩
      have HO := Lib.hid ho
      rw [ho] at hl
      have HL := Lib.hid hl
      have HD := Lib.hid hd
      clear hl hr hd ho
      have KS := Lib.hid (pt_S H.out HB1.out HS1.out)
      have KD := Lib.hid (pt_bel H.out (below_drew W) KS.out)
      have hlt : w.heap.size < W.heap.size := (Array.getElem?_eq_some_iff.1 HS1.out).1
      go_upto_region 3 with fail
      go_cut [5, 6] (fun pv ok x => ∃ pb : Nat, pv = .pointer (some ⟨pb, 0, none⟩) ∧ ok = .bool o.isSome ∧ w.heap.size < pb ∧ Hid (PtAt w x c a nv pb (o.getD (0, 0)).1 (o.getD (0, 0)).2))
      case first =>
        go_region_held3 (fun x => x.cell? ⟨w.heap.size, 5, none⟩ = some (.string ⟨c.x.toArray⟩) ∧ x.cell? ⟨w.heap.size, 6, none⟩ = some (.string ⟨c.y.toArray⟩) ∧ x.cell? ⟨b, 9, none⟩ = some (.int .i64 m.x) ∧ x.cell? ⟨b, 10, none⟩ = some (.int .i64 m.y) ∧ Below w.heap.size w x ∧ x.heap[w.heap.size]? = some (drObj c a nv))
          (first | exact KD.out | exact KW.out | exact pt_bel H.out ((Below.refl _ _).alloc (Nat.le_refl _) _) KW.out | exact pt_bel H.out (((Below.refl _ _).alloc (Nat.le_refl _) _).drew) KS.out | exact pt_set H.out hlt _ _ KW.out | fail)
          (first | (go_at_call 69; refine (pt_c B b r n m ⟨c.x.toArray⟩ ⟨c.y.toArray⟩ (str_le hc.out.x) (str_le hc.out.y) m.x m.y _ (Lib.hid (pt_M H.out (by assumption))) o HO).mono ?_; rintro e w' ⟨rfl, hbw⟩; have KW := Lib.hid (pt_bel H.out hbw (by assumption)); first | (have KZ : Hid (w'.heap[W.heap.size]? = some (ptObj 0 0)) := (one_below (w := (W.alloc (ptObj 0 0)).drew) (heap_alloc_new W (ptObj 0 0)) hbw); have z0 := (pt_at KZ.out).1.1; have z1 := (pt_at KZ.out).1.2; have y0 := (pt_at KZ.out).2.1; have y1 := (pt_at KZ.out).2.2) | skip))
        · go_wp2_with fail
          go_meet
          exact ⟨_, rfl, rfl, met1 KW.out.2.2.2.2.1 KW.out.2.2.2.2.2 _ _⟩
        · go_wp2_with fail
          go_meet
          exact ⟨_, rfl, rfl, hlt, met2 H.out hlt KW.out KZ.out _ _⟩
      case rest =>
      obtain ⟨pb, rfl, rfl, hpb, HP⟩ := hcut
      clear c8 c9 c10 c11 c12 d5 d6 KS KD HM1 HB1 HS1 hlt
      have HMX := Lib.hid (H.out.below HP.out.2.1)
      obtain ⟨sv, h1, _⟩ := HMX.out.cells
      obtain ⟨_, _, _, _, _, _, _, _, _, c9, c10, _, c12, _⟩ := mc_of h1
      have hf := (mc_of h1).f
      have f9 := hf 9
      have f10 := hf 10
      rw [HD.out] at c12
      obtain ⟨⟨q0, q1⟩, _⟩ := pt_at HP.out.1
      clear h1 hf
      cases o with
      | none =>
        have HR : Hid (.error 5 = res) := HL.out
        go_wp2_with fail
        go_ret
        rw [← HR.out]
        exact ⟨HP.out.2.1.mono HBB.out, rfl⟩
      | some pq =>
        obtain ⟨u, v⟩ := pq
        have HR : Hid (.ok { m with x := u, y := v } = res) := by
          show _ = _
          have h := HL.out
          simp only [] at h
          rw [if_neg (by rw [HD.out]; decide)] at h
          exact h
        have huv := pt_near HO.out HMX.out.fine.x0 HMX.out.fine.x1 HMX.out.fine.y0 HMX.out.fine.y1
        have HF := Lib.hid (HMX.out.place u v huv)
        clear huv
        go_wp2_with fail
        go_ret
        rw [← HR.out]
        exact ⟨(HP.out.2.1.mono HBB.out).trans HF.out.2, rfl, HF.out.1⟩
end Go.Proofs.YtecpmnkgikcpnaaDoor.HW
namespace Go.Proofs.YtecpmnkgikcpnaaDoor.HW
open Go.RowKit Go.Proofs.YtecpmnkgikcpnaaDoor.Base Go.Proofs.YtecpmnkgikcpnaaDoor.Dp Go.Proofs.YtecpmnkgikcpnaaDoor.DeciW Go.Proofs.YtecpmnkgikcpnaaDoor.Xp Go.Proofs.YtecpmnkgikcpnaaDoor.Hp Go.Proofs.YtecpmnkgikcpnaaDoor.XW

theorem cell_below {v x : World} {a : Addr} {u : Value} (hb : Below v.heap.size v x) (h : v.cell? a = some u) : x.cell? a = some u := (hb.cell (World.block_lt_of_cell? v a h)).trans h
theorem keep4 {v x : World} {a1 a2 a3 a4 : Addr} {u1 u2 u3 u4 : Value} (hb : Below v.heap.size v x) (h : v.cell? a1 = some u1 ∧ v.cell? a2 = some u2 ∧ v.cell? a3 = some u3 ∧ v.cell? a4 = some u4) : x.cell? a1 = some u1 ∧ x.cell? a2 = some u2 ∧ x.cell? a3 = some u3 ∧ x.cell? a4 = some u4 :=
  ⟨cell_below hb h.1, cell_below hb h.2.1, cell_below hb h.2.2.1, cell_below hb h.2.2.2⟩
/-- What stands between two repeats. -/
structure Ag (B b r n : Nat) (w wx : World) (m : M) (pb : Nat) (p q : Int) : Prop where
  m : Mach B b r n m wx
  b : Below B w wx
  s : w.heap.size ≤ wx.heap.size
  h : wx.heap[pb]? = some (ptObj p q)

theorem Ag.below {B b r n : Nat} {w wx wy : World} {m : M} {pb : Nat} {p q : Int} (h : Ag B b r n w wx m pb p q) (hb : Below wx.heap.size wx wy) : Ag B b r n w wy m pb p q := by
  refine ⟨h.m.below hb, h.b.trans (hb.mono ?_), Nat.le_trans h.s hb.size, one_below h.h hb⟩
  exact Nat.le_trans h.m.bB (Nat.le_of_lt h.m.lt.1)
set_option maxRecDepth 100000 in
set_option maxHeartbeats 6400000 in
theorem again_c (B b r n : Nat) (m : M) (c : D) (hc : Hid (Cd c)) (a : Int) (nv : Value) (w : World) (hB : B ≤ w.heap.size) (H : Hid (Mach B b r n m w)) (res : Except Nat M) (hres : Hid (againM m c = res)) :
    Calls Tryd.prog 85 #[.pointer (some ⟨b, 0, none⟩), drVal c a nv] w (MOut B b r n w res) := by
  have HBB := Lib.hid hB
  have HB1 : Hid (Below w.heap.size w (w.alloc (drObj c a nv))) := (Below.refl _ _).alloc (Nat.le_refl _) _
  have HS1 : Hid ((w.alloc (drObj c a nv)).heap[w.heap.size]? = some (drObj c a nv)) := heap_alloc_new w _
  have hl := hres.out
  unfold againM at hl
  obtain ⟨o, ho⟩ : ∃ o, ptV m c.x c.y 0 0 = o := ⟨_, rfl⟩
  have HO := Lib.hid ho
  rw [ho] at hl
  have HL := Lib.hid hl
  clear hB hres hl ho
  go_enter Tryd.func85, Tryd.ntmps85
  go_upto_region 1 with fail
  generalize w.alloc _ = W at HB1 HS1 ⊢
  obtain ⟨⟨_, _, d2, _, _, d5, d6, _⟩, _⟩ := dr_at HS1.out
  go_wp2_with fail
  refine (pt_c B b r n m ⟨c.x.toArray⟩ ⟨c.y.toArray⟩ (str_le hc.out.x) (str_le hc.out.y) 0 0 _ (Lib.hid (H.out.below HB1.out)) o HO).mono ?_
  rintro e w2 ⟨rfl, hb2⟩
  have HB2 := Lib.hid (HB1.out.trans (hb2.mono HB1.out.size))
  have HS2 := Lib.hid (one_below HS1.out hb2)
  clear hb2 d2 d5 d6 HB1 HS1
  go_upto_region 2 with fail
  have HP : Hid ((w2.alloc (ptObj (o.getD (0, 0)).1 (o.getD (0, 0)).2)).heap[w2.heap.size]? = some (ptObj (o.getD (0, 0)).1 (o.getD (0, 0)).2)) := heap_alloc_new w2 _
  have HB3 : Hid (Below w.heap.size w (w2.alloc (ptObj (o.getD (0, 0)).1 (o.getD (0, 0)).2))) := HB2.out.alloc HB2.out.size _
  have HS3 : Hid ((w2.alloc (ptObj (o.getD (0, 0)).1 (o.getD (0, 0)).2)).heap[w.heap.size]? = some (drObj c a nv)) := one_below HS2.out ((Below.refl _ _).alloc (Nat.le_refl _) _)
  clear HB2 HS2
  generalize w2.alloc _ = W3 at HP HB3 HS3 ⊢
  obtain ⟨pb, hpb⟩ : ∃ pb, w2.heap.size = pb := ⟨_, rfl⟩
  rw [hpb] at HP ⊢
  clear hpb
  obtain ⟨⟨_, _, d2, _⟩, _⟩ := dr_at HS3.out
  cases o with
  | none =>
    have HR : Hid (.error 5 = res) := HL.out
    go_wp2_with fail
    go_ret
    rw [← HR.out]
    exact ⟨HB3.out.mono HBB.out, rfl⟩
  | some pq =>
    obtain ⟨p, q⟩ := pq
    have HR : Hid (againN c.n.toNat m p q = res) := HL.out
    have hpq := pt_near HO.out (by omega) (by omega) (by omega) (by omega)
    obtain ⟨⟨p0, p1⟩, q0, q1⟩ := hpq
    have hn0 := hc.out.n0
    have hn1 := hc.out.n1
    go_upto_region 5 with fail
    go_loopw [23] (fun i wx => ∃ (j : Nat) (mm : M) (wy : World), wy = wx ∧ i = .int .i64 j ∧ (j : Int) ≤ c.n ∧ Hid (againN (c.n.toNat - j) mm p q = res) ∧ Hid (Ag B b r n w wy mm pb p q)) (fun i _ => c.n.toNat - (intOf i).toNat)
    case atStart => exact ⟨0, m, _, rfl, rfl, hn0, HR.out, H.out.below HB3.out, HB3.out.mono HBB.out, HB3.out.size, HP.out⟩
    case round =>
    obtain ⟨j, mm, wx, rfl, rfl, hj, HJ, HA⟩ := hrel
    clear HR HP HB3 HS3 d2
    by_cases hlt : (j : Int) < c.n
    · obtain ⟨k, hk⟩ : ∃ k, c.n.toNat - j = k + 1 := ⟨c.n.toNat - j - 1, by omega⟩
      have hkj : c.n.toNat - (j + 1) = k := by omega
      have hJ := HJ.out
      rw [hk] at hJ
      unfold againN at hJ
      obtain ⟨r2, hr2⟩ : ∃ r2, addV mm (discS (mm.x + p) (mm.y + q) 0) = r2 := ⟨_, rfl⟩
      rw [hr2] at hJ
      have HR2 := Lib.hid hr2
      have HJ2 := Lib.hid hJ
      have HKJ := Lib.hid hkj
      clear hJ hr2 hk hkj HJ
      have HF := Lib.hid HA.out.m.fine
      have x0 := HF.out.x0
      have x1 := HF.out.x1
      have y0 := HF.out.y0
      have y1 := HF.out.y1
      have e1 : IntKind.i64.wrap (mm.x + p) = mm.x + p := IntWalk.i64_in _ (by omega)
      have e2 : IntKind.i64.wrap (mm.y + q) = mm.y + q := IntWalk.i64_in _ (by omega)
      obtain ⟨sv, h1, _⟩ := HA.out.m.cells
      obtain ⟨_, _, _, _, _, _, _, _, _, c9, c10, _⟩ := mc_of h1
      obtain ⟨⟨z0, z1⟩, _⟩ := pt_at HA.out.h
      clear h1
      have KS : Hid (wx.cell? ⟨b, 9, none⟩ = some (.int .i64 mm.x) ∧ wx.cell? ⟨b, 10, none⟩ = some (.int .i64 mm.y) ∧ wx.cell? ⟨pb, 0, none⟩ = some (.int .i64 p) ∧ wx.cell? ⟨pb, 1, none⟩ = some (.int .i64 q)) := ⟨c9, c10, z0, z1⟩
      have KD := Lib.hid (keep4 (below_drew wx) KS.out)
      go_upto_region 6 with fail
      go_region_held3 (fun x => x.cell? ⟨b, 9, none⟩ = some (.int .i64 mm.x) ∧ x.cell? ⟨b, 10, none⟩ = some (.int .i64 mm.y) ∧ x.cell? ⟨pb, 0, none⟩ = some (.int .i64 p) ∧ x.cell? ⟨pb, 1, none⟩ = some (.int .i64 q)) (first | exact KD.out | exact keep4 (((Below.refl _ _).alloc (Nat.le_refl _) _).drew) KS.out | exact keep4 ((Below.refl _ _).alloc (Nat.le_refl _) _) KS.out | fail) (fail)
      have HAX : Hid (Ag B b r n w ((wx.alloc (ptObj (mm.x + p) (mm.y + q))).drew) mm pb p q) := HA.out.below (((Below.refl _ _).alloc (Nat.le_refl _) _).drew)
      have HPX : Hid (((wx.alloc (ptObj (mm.x + p) (mm.y + q))).drew).heap[wx.heap.size]? = some (ptObj (mm.x + p) (mm.y + q))) := heap_alloc_new wx _
      clear c9 c10 z0 z1 KS KD e1 e2 HA
      generalize (wx.alloc (.cells #[.int .i64 (mm.x + p), .int .i64 (mm.y + q)] 29)).drew = X at HAX HPX ⊢
      obtain ⟨pn, hpn⟩ : ∃ pn, wx.heap.size = pn := ⟨_, rfl⟩
      rw [hpn] at HPX ⊢
      clear hpn
      obtain ⟨⟨t0, t1⟩, _⟩ := pt_at HPX.out
      have HSX := Lib.hid (Nat.le_trans HBB.out HAX.out.s)
      cases r2 with
      | error k2 =>
        have HR : Hid (.error k2 = res) := HJ2.out
        have hk2 := add_err HR2.out
        go_wp2_with fail
        refine (add_c B b r n mm (discS (mm.x + p) (mm.y + q) 0) (sp_disc _ _) X HSX.out (Lib.hid HAX.out.m) _ HR2).mono ?_
        rintro e w4 ⟨⟨hba, rfl⟩, _⟩
        have HBA := Lib.hid (HAX.out.b.trans hba)
        clear hba
        rcases hk2 with rfl | rfl
        · go_wp2_with fail
          go_ret
          rw [← HR.out]
          exact ⟨HBA.out, rfl⟩
        · go_wp2_with fail
          go_ret
          rw [← HR.out]
          exact ⟨HBA.out, rfl⟩
      | ok m3 =>
        have HR : Hid (againN k { m3 with x := mm.x + p, y := mm.y + q } p q = res) := HJ2.out
        have hnr := near_iff.1 (okS_near (add_ok HR2.out).1)
        have HNR : Hid ((-536870912 ≤ mm.x + p ∧ mm.x + p ≤ 536870912) ∧ (-536870912 ≤ mm.y + q ∧ mm.y + q ≤ 536870912)) := ⟨⟨hnr.1, hnr.2.1⟩, hnr.2.2.1, hnr.2.2.2⟩
        clear hnr
        go_wp2_with fail
        refine (add_c B b r n mm (discS (mm.x + p) (mm.y + q) 0) (sp_disc _ _) X HSX.out (Lib.hid HAX.out.m) _ HR2).mono ?_
        rintro e w4 ⟨⟨hba, rfl, hma⟩, hka⟩
        have HMA := Lib.hid hma
        have HPA : Hid (w4.heap[pn]? = some (ptObj (mm.x + p) (mm.y + q))) := hka.2 pn _ _ _ HPX.out (by decide) (by decide)
        have hF := hma.place (mm.x + p) (mm.y + q) HNR.out
        have HAG : Hid (Ag B b r n w ((w4.setCell ⟨b, 9, none⟩ (.int .i64 (mm.x + p))).setCell ⟨b, 10, none⟩ (.int .i64 (mm.y + q))) { m3 with x := mm.x + p, y := mm.y + q } pb p q) :=
          ⟨hF.1, (HAX.out.b.trans hba).trans hF.2, Nat.le_trans HAX.out.s (Nat.le_trans hka.1 (by simp [World.setCell])), by
            have hb0 := hka.2 pb _ _ _ HAX.out.h (by decide) (by decide)
            have hne : pb ≠ b := by
              intro e
              obtain ⟨sv9, h9, _⟩ := hma.cells
              rw [e, h9] at hb0
              injection hb0 with hb0
              injection hb0 with _ h8 _
              exact absurd h8 (by decide)
            rw [Below.heap_setCell _ _ _ _ hne, Below.heap_setCell _ _ _ _ hne]
            exact hb0⟩
        obtain ⟨sv2, h1, _⟩ := HMA.out.cells
        obtain ⟨_, _, _, _, _, _, _, _, _, c9, c10, _⟩ := mc_of h1
        have hf := (mc_of h1).f
        have f9 := hf 9
        have f10 := hf 10
        clear t0 t1 hba hma hka hF h1 hf
        obtain ⟨⟨t0, t1⟩, _⟩ := pt_at HPA.out
        go_wp2_with fail
        go_round
        case rel => exact ⟨j + 1, _, _, rfl, by go_num, by omega, by show againN (c.n.toNat - (j + 1)) _ p q = res; rw [HKJ.out]; exact HR.out, HAG.out⟩
        case measure => simp [intOf] <;> omega
    · have hje : c.n.toNat - j = 0 := by omega
      have hJ := HJ.out
      rw [hje] at hJ
      have HR : Hid (.ok mm = res) := hJ
      clear hJ hje
      go_wp2_with fail
      go_ret
      rw [← HR.out]
      exact ⟨HA.out.b, rfl, HA.out.m⟩
end Go.Proofs.YtecpmnkgikcpnaaDoor.HW
namespace Go.Proofs.YtecpmnkgikcpnaaDoor.HW
open Go.RowKit Go.Proofs.YtecpmnkgikcpnaaDoor.Base Go.Proofs.YtecpmnkgikcpnaaDoor.Dp Go.Proofs.YtecpmnkgikcpnaaDoor.DeciW Go.Proofs.YtecpmnkgikcpnaaDoor.Xp Go.Proofs.YtecpmnkgikcpnaaDoor.Hp Go.Proofs.YtecpmnkgikcpnaaDoor.XW

theorem nine_fz {w : World} {b : Nat} {v0 v1 v2 v3 v4 v5 v6 v7 v8 v9 : Value} {t : TypeId} (h : w.heap[b]? = some (.cells #[v0, v1, v2, v3, v4, v5, v6, v7, v8, v9] t)) (i : Nat) : w.frozen? ⟨b, i, none⟩ = false := by
  simp [World.frozen?, h]
/-- A shape stored, cell by cell. -/
abbrev shSet (w : World) (b : Nat) (k ax ay bx bz cx cy r : Int) : World :=
  (((((((((w.setCell ⟨b, 0, none⟩ (.int .i64 k)).setCell ⟨b, 1, none⟩ (.int .i64 ax)).setCell ⟨b, 2, none⟩ (.int .i64 ay)).setCell ⟨b, 3, none⟩ (.int .i64 bx)).setCell ⟨b, 4, none⟩ (.int .i64 bz)).setCell ⟨b, 5, none⟩ (.int .i64 cx)).setCell ⟨b, 6, none⟩ (.int .i64 cy)).setCell ⟨b, 7, none⟩ (.int .i64 r)).setCell ⟨b, 8, none⟩ (.slice none 0 0)).setCell ⟨b, 9, none⟩ (.slice none 0 0)
theorem shSet_here {w : World} {b : Nat} {v0 v1 v2 v3 v4 v5 v6 v7 v8 v9 : Value} {t : TypeId} (h : w.heap[b]? = some (.cells #[v0, v1, v2, v3, v4, v5, v6, v7, v8, v9] t)) (k ax ay bx bz cx cy r : Int) :
    (shSet w b k ax ay bx bz cx cy r).heap[b]? = some (.cells #[.int .i64 k, .int .i64 ax, .int .i64 ay, .int .i64 bx, .int .i64 bz, .int .i64 cx, .int .i64 cy, .int .i64 r, .slice none 0 0, .slice none 0 0] t) :=
  st9 (st8 (st7 (st6 (st5 (st4 (st3 (st2 (st1 (st0 h _) _) _) _) _) _) _) _) _) _
theorem shSet_heap (w : World) {b c : Nat} (h : c ≠ b) (k ax ay bx bz cx cy r : Int) : (shSet w b k ax ay bx bz cx cy r).heap[c]? = w.heap[c]? := by
  have key : ∀ (w : World) (i : Nat) (u : Value), (w.setCell ⟨b, i, none⟩ u).heap[c]? = w.heap[c]? := fun w i u => Below.heap_setCell _ _ _ _ h
  show (((((((((( _ : World).setCell _ _).setCell _ _).setCell _ _).setCell _ _).setCell _ _).setCell _ _).setCell _ _).setCell _ _).setCell _ _).heap[c]? = _
  rw [key, key, key, key, key, key, key, key, key, key]
theorem shSet_below {B : Nat} {a w : World} (h : Below B a w) {b : Nat} (hb : B ≤ b) (k ax ay bx bz cx cy r : Int) : Below B a (shSet w b k ax ay bx bz cx cy r) :=
  (((((((((h.setCell hb _).setCell hb _).setCell hb _).setCell hb _).setCell hb _).setCell hb _).setCell hb _).setCell hb _).setCell hb _).setCell hb _
/-- The hit stored. -/
theorem Mach.hitS {B b r n : Nat} {m : M} {w : World} (h : Mach B b r n m w) (s : Bool) : Mach B b r n { m with hit := s } (w.setCell ⟨b, 13, none⟩ (.bool s)) ∧ Below B w (w.setCell ⟨b, 13, none⟩ (.bool s)) :=
  h.upd { m with hit := s } 13 (.bool s) (fun sv => rfl) rfl rfl (h.fine.same rfl rfl rfl rfl) h.t0 h.t1
/-- The command, its place and its shape in memory. -/
structure DrAt (w x : World) (c : D) (a : Int) (nv : Value) (pb sb : Nat) (u v : Int) (o : Obj) : Prop where
  b : Below w.heap.size w x
  d : x.heap[w.heap.size]? = some (drObj c a nv)
  p : x.heap[pb]? = some (ptObj u v)
  s : x.heap[sb]? = some o

theorem DrAt.below {w x y : World} {c : D} {a : Int} {nv : Value} {pb sb : Nat} {u v : Int} {o : Obj} (h : DrAt w x c a nv pb sb u v o) (hb : Below x.heap.size x y) : DrAt w y c a nv pb sb u v o :=
  ⟨h.b.trans (hb.mono h.b.size), one_below h.d hb, one_below h.p hb, one_below h.s hb⟩
theorem DrAt.line {w x : World} {c : D} {a : Int} {nv : Value} {pb sb : Nat} {u v : Int} {v0 v1 v2 v3 v4 v5 v6 v7 v8 v9 : Value} {t : TypeId} (h : DrAt w x c a nv pb sb u v (.cells #[v0, v1, v2, v3, v4, v5, v6, v7, v8, v9] t)) (n1 : w.heap.size < pb) (n2 : pb < sb) (p q : Int) :
    DrAt w (((shSet x sb 3 u v p q 0 0 0).setCell ⟨pb, 0, none⟩ (.int .i64 p)).setCell ⟨pb, 1, none⟩ (.int .i64 q)) c a nv pb sb p q (.cells #[.int .i64 3, .int .i64 u, .int .i64 v, .int .i64 p, .int .i64 q, .int .i64 0, .int .i64 0, .int .i64 0, .slice none 0 0, .slice none 0 0] t) := by
  have hp : ∀ k, k ≠ pb → (((shSet x sb 3 u v p q 0 0 0).setCell ⟨pb, 0, none⟩ (.int .i64 p)).setCell ⟨pb, 1, none⟩ (.int .i64 q)).heap[k]? = (shSet x sb 3 u v p q 0 0 0).heap[k]? := fun k hk => by
    rw [Below.heap_setCell _ _ _ _ hk, Below.heap_setCell _ _ _ _ hk]
  refine ⟨((shSet_below h.b (by omega) _ _ _ _ _ _ _ _).setCell (p := ⟨pb, 0, none⟩) (by show w.heap.size ≤ pb; omega) _).setCell (p := ⟨pb, 1, none⟩) (by show w.heap.size ≤ pb; omega) _, ?_, ?_, ?_⟩
  · rw [hp _ (by omega), shSet_heap _ (by omega)]; exact h.d
  · exact set1 (set0 ((shSet_heap _ (by omega) _ _ _ _ _ _ _ _).trans h.p) _) _
  · rw [hp _ (by omega)]; exact shSet_here h.s _ _ _ _ _ _ _ _

set_option maxRecDepth 100000 in
set_option maxHeartbeats 6400000 in
theorem drill_c (B b r n : Nat) (m : M) (c : D) (hc : Hid (Cd c)) (a : Int) (nv : Value) (w : World) (hB : B ≤ w.heap.size) (H : Hid (Mach B b r n m w)) (res : Except Nat M) (hres : Hid (drillV m c = res)) :
    Calls Tryd.prog 71 #[.pointer (some ⟨b, 0, none⟩), drVal c a nv] w (MOut B b r n w res) := by
  have HBB := Lib.hid hB
  have HB1 : Hid (Below w.heap.size w (w.alloc (drObj c a nv))) := (Below.refl _ _).alloc (Nat.le_refl _) _
  have HS1 : Hid ((w.alloc (drObj c a nv)).heap[w.heap.size]? = some (drObj c a nv)) := heap_alloc_new w _
  have hl := hres.out
  unfold drillV at hl
  clear hB hres
  go_enter Tryd.func71, Tryd.ntmps71
  go_upto_region 1 with fail
  generalize w.alloc _ = W at HB1 HS1 ⊢
  have HM1 := Lib.hid (H.out.below HB1.out)
  obtain ⟨sv, h1, _⟩ := HM1.out.cells
  obtain ⟨_, _, _, _, _, _, _, _, c8, c9, c10, c11, c12, _⟩ := mc_of h1
  obtain ⟨⟨e0, e1, e2, e3, e4, d5, d6, e7, e8, e9⟩, _⟩ := dr_at HS1.out
  clear h1
  by_cases k12 : c.k = 12
  · have k12b : (c.k == 12) = true := beq_iff_eq.2 k12
    rw [if_pos k12] at hl
    have HR := Lib.hid hl
    clear hl k12
    go_wp2_with fail
    refine (again_c B b r n m c hc a nv W (Nat.le_trans HBB.out HB1.out.size) HM1 res HR).mono ?_
    cases res with
    | error k =>
      rintro e w' ⟨hb, rfl⟩
      have HBE := Lib.hid ((HB1.out.mono HBB.out).trans hb)
      clear hb
      go_wp2_with fail
      go_ret
      exact ⟨HBE.out, rfl⟩
    | ok m' =>
      rintro e w' ⟨hb, rfl, hm⟩
      have HBE := Lib.hid ((HB1.out.mono HBB.out).trans hb)
      have HME := Lib.hid hm
      clear hb hm
      go_wp2_with fail
      go_ret
      exact ⟨HBE.out, rfl, HME.out⟩
  · have k12b : (c.k == 12) = false := beq_eq_false_iff_ne.2 k12
    rw [if_neg k12] at hl
    obtain ⟨o, ho⟩ : ∃ o, ptV m c.x c.y m.x m.y = o := ⟨_, rfl⟩
    have HO := Lib.hid ho
    rw [ho] at hl
    have HL := Lib.hid hl
    clear hl k12 ho e0 e2 e3 e4 e7 e8 e9
    go_upto_region 3 with fail
    clear e1
    have KS := Lib.hid (pt_S H.out HB1.out HS1.out)
    have KD := Lib.hid (pt_bel H.out (below_drew W) KS.out)
    have hlt : w.heap.size < W.heap.size := (Array.getElem?_eq_some_iff.1 HS1.out).1
    go_cut [5, 6] (fun pv ok x => ∃ pb : Nat, pv = .pointer (some ⟨pb, 0, none⟩) ∧ ok = .bool o.isSome ∧ w.heap.size < pb ∧ Hid (PtAt w x c a nv pb (o.getD (0, 0)).1 (o.getD (0, 0)).2))
    case first =>
      go_region_held3 (fun x => x.cell? ⟨w.heap.size, 5, none⟩ = some (.string ⟨c.x.toArray⟩) ∧ x.cell? ⟨w.heap.size, 6, none⟩ = some (.string ⟨c.y.toArray⟩) ∧ x.cell? ⟨b, 9, none⟩ = some (.int .i64 m.x) ∧ x.cell? ⟨b, 10, none⟩ = some (.int .i64 m.y) ∧ Below w.heap.size w x ∧ x.heap[w.heap.size]? = some (drObj c a nv))
        (first | exact KD.out | exact KW.out | exact pt_bel H.out ((Below.refl _ _).alloc (Nat.le_refl _) _) KW.out | exact pt_bel H.out (((Below.refl _ _).alloc (Nat.le_refl _) _).drew) KS.out | exact pt_set H.out hlt _ _ KW.out | fail)
        (first | (go_at_call 69; refine (pt_c B b r n m ⟨c.x.toArray⟩ ⟨c.y.toArray⟩ (str_le hc.out.x) (str_le hc.out.y) m.x m.y _ (Lib.hid (pt_M H.out (by assumption))) o HO).mono ?_; rintro e w' ⟨rfl, hbw⟩; have KW := Lib.hid (pt_bel H.out hbw (by assumption)); first | (have KZ : Hid (w'.heap[W.heap.size]? = some (ptObj 0 0)) := (one_below (w := (W.alloc (ptObj 0 0)).drew) (heap_alloc_new W (ptObj 0 0)) hbw); have z0 := (pt_at KZ.out).1.1; have z1 := (pt_at KZ.out).1.2; have y0 := (pt_at KZ.out).2.1; have y1 := (pt_at KZ.out).2.2) | skip))
      · go_wp2_with fail
        go_meet
        exact ⟨_, rfl, rfl, met1 KW.out.2.2.2.2.1 KW.out.2.2.2.2.2 _ _⟩
      · go_wp2_with fail
        go_meet
        exact ⟨_, rfl, rfl, hlt, met2 H.out hlt KW.out KZ.out _ _⟩
    case rest =>
    obtain ⟨pb, rfl, rfl, hpb, HP⟩ := hcut
    clear c8 c9 c10 c11 c12 d5 d6 KS KD HM1 HB1 HS1 hlt
    have HMX0 := Lib.hid (H.out.below HP.out.2.1)
    cases o with
    | none =>
      have HR : Hid (.error 5 = res) := HL.out
      go_wp2_with fail
      go_ret
      rw [← HR.out]
      exact ⟨HP.out.2.1.mono HBB.out, rfl⟩
    | some pq =>
      obtain ⟨u, v⟩ := pq
      have HUV := Lib.hid (pt_near HO.out HMX0.out.fine.x0 HMX0.out.fine.x1 HMX0.out.fine.y0 HMX0.out.fine.y1)
      obtain ⟨⟨q0, q1⟩, _⟩ := pt_at HP.out.1
      obtain ⟨⟨_, d1, _⟩, _⟩ := dr_at HP.out.2.2
      go_upto_region 7 with fail
      have DA : Hid (DrAt w (wc.alloc (.cells #[.int .i64 1, .int .i64 u, .int .i64 v, .int .i64 0, .int .i64 0, .int .i64 0, .int .i64 0, .int .i64 0, .slice none 0 0, .slice none 0 0] 33)) c a nv pb wc.heap.size u v (.cells #[.int .i64 1, .int .i64 u, .int .i64 v, .int .i64 0, .int .i64 0, .int .i64 0, .int .i64 0, .int .i64 0, .slice none 0 0, .slice none 0 0] 33)) :=
        ⟨HP.out.2.1.alloc HP.out.2.1.size _, one_below HP.out.2.2 ((Below.refl _ _).alloc (Nat.le_refl _) _), one_below HP.out.1 ((Below.refl _ _).alloc (Nat.le_refl _) _), heap_alloc_new wc _⟩
      have HSB : Hid (pb < wc.heap.size) := (Array.getElem?_eq_some_iff.1 HP.out.1).1
      have HPB := Lib.hid hpb
      clear q0 q1 d1 HMX0 HP hpb
      generalize wc.alloc _ = X at DA ⊢
      obtain ⟨sb, hsb⟩ : ∃ sb, wc.heap.size = sb := ⟨_, rfl⟩
      rw [hsb] at DA HSB ⊢
      clear hsb
      have HMX := Lib.hid (H.out.below DA.out.b)
      obtain ⟨⟨_, d1, _⟩, _⟩ := dr_at DA.out.d
      by_cases k8 : c.k = 8
      · have k8b : (c.k == 8) = true := beq_iff_eq.2 k8
        have k7b : (c.k == 7) = false := by rw [beq_eq_false_iff_ne]; omega
        obtain ⟨o2, ho2⟩ : ∃ o2, ptV m c.u c.v u v = o2 := ⟨_, rfl⟩
        have HO2 := Lib.hid ho2
        have HT : Hid (slotV m o2 u v = res) := by
          show _ = _
          have h := HL.out
          simp only [] at h
          rw [if_pos k8, ho2] at h
          exact h
        clear k8 ho2
        obtain ⟨⟨t0, t1⟩, _⟩ := pt_at DA.out.p
        obtain ⟨⟨_, _, _, _, _, _, _, d7, d8, _⟩, _⟩ := dr_at DA.out.d
        go_wp2_with fail
        refine (pt_c B b r n m ⟨c.u.toArray⟩ ⟨c.v.toArray⟩ (str_le hc.out.u) (str_le hc.out.v) u v X HMX o2 HO2).mono ?_
        rintro e w4 ⟨rfl, hb4⟩
        have DB := Lib.hid (DA.out.below hb4)
        clear hb4 t0 t1 d1 d7 d8 DA HMX
        go_upto_region 9 with fail
        have DC : Hid (DrAt w (w4.alloc (ptObj (o2.getD (0, 0)).1 (o2.getD (0, 0)).2)) c a nv pb sb u v (.cells #[.int .i64 1, .int .i64 u, .int .i64 v, .int .i64 0, .int .i64 0, .int .i64 0, .int .i64 0, .int .i64 0, .slice none 0 0, .slice none 0 0] 33)) := DB.out.below ((Below.refl _ _).alloc (Nat.le_refl _) _)
        have HQ : Hid ((w4.alloc (ptObj (o2.getD (0, 0)).1 (o2.getD (0, 0)).2)).heap[w4.heap.size]? = some (ptObj (o2.getD (0, 0)).1 (o2.getD (0, 0)).2)) := heap_alloc_new w4 _
        have HSQ : Hid (sb < w4.heap.size) := (Array.getElem?_eq_some_iff.1 DB.out.s).1
        clear DB
        generalize w4.alloc _ = X2 at DC HQ ⊢
        obtain ⟨qb, hqb⟩ : ∃ qb, w4.heap.size = qb := ⟨_, rfl⟩
        rw [hqb] at HQ HSQ ⊢
        clear hqb
        cases o2 with
        | none =>
          have HR : Hid (.error 5 = res) := HT.out
          go_wp2_with fail
          go_ret
          rw [← HR.out]
          exact ⟨DC.out.b.mono HBB.out, rfl⟩
        | some pq2 =>
          obtain ⟨p2, q2⟩ := pq2
          have HT3 : Hid (thenHit (addV m (lineS u v p2 q2 0)) p2 q2 false = res) := HT.out
          have HUV2 := Lib.hid (pt_near HO2.out HUV.out.1.1 HUV.out.1.2 HUV.out.2.1 HUV.out.2.2)
          clear HT
          obtain ⟨⟨t0, t1⟩, y0, y1⟩ := pt_at DC.out.p
          obtain ⟨⟨x0, x1⟩, _⟩ := pt_at HQ.out
          obtain ⟨g0, g1, g2, g3, g4, g5, g6, g7, g8, g9⟩ := nine_at DC.out.s
          have hz := nine_fz DC.out.s
          have z0 := hz 0
          have z1 := hz 1
          have z2 := hz 2
          have z3 := hz 3
          have z4 := hz 4
          have z5 := hz 5
          have z6 := hz 6
          have z7 := hz 7
          have z8 := hz 8
          have z9 := hz 9
          have n1 := HPB.out
          have n2 := HSB.out
          have n3 := HSQ.out
          clear hz
          have DD := Lib.hid (DC.out.line n1 n2 p2 q2)
          go_upto_region 13 with fail
          clear t0 t1 y0 y1 x0 x1 g0 g1 g2 g3 g4 g5 g6 g7 g8 g9 z0 z1 z2 z3 z4 z5 z6 z7 z8 z9 DC HQ
          generalize (((shSet X2 sb 3 u v p2 q2 0 0 0).setCell ⟨pb, 0, none⟩ (.int .i64 p2)).setCell ⟨pb, 1, none⟩ (.int .i64 q2)) = X at DD ⊢
          have HMX := Lib.hid (H.out.below DD.out.b)
          obtain ⟨⟨_, d1, _⟩, _⟩ := dr_at DD.out.d
          have HSX := Lib.hid (Nat.le_trans HBB.out DD.out.b.size)
          obtain ⟨g0, g1, g2, g3, g4, g5, g6, g7, g8, g9⟩ := nine_at DD.out.s
          obtain ⟨r2, hr2⟩ : ∃ r2, addV m (lineS u v p2 q2 0) = r2 := ⟨_, rfl⟩
          have hT := HT3.out
          rw [hr2] at hT
          have HR2 := Lib.hid hr2
          have HT2 := Lib.hid hT
          clear hr2 hT HT3
          go_wp2_with fail
          refine (add_c B b r n m (lineS u v p2 q2 0) (sp_line _ _ _ _) X HSX.out HMX _ HR2).mono ?_
          cases r2 with
          | error k2 =>
            have HR : Hid (.error k2 = res) := HT2.out
            have hk2 := add_err HR2.out
            rintro e w4 ⟨⟨hba, rfl⟩, _⟩
            have HBA := Lib.hid ((DD.out.b.mono HBB.out).trans hba)
            clear hba g0 g1 g2 g3 g4 g5 g6 g7 g8 g9
            rcases hk2 with rfl | rfl
            · go_wp2_with fail
              go_ret
              rw [← HR.out]
              exact ⟨HBA.out, rfl⟩
            · go_wp2_with fail
              go_ret
              rw [← HR.out]
              exact ⟨HBA.out, rfl⟩
          | ok m3 =>
            have HR : Hid (.ok { m3 with x := p2, y := q2, hit := false } = res) := HT2.out
            rintro e w4 ⟨⟨hba, rfl, hma⟩, hka⟩
            have HMA := Lib.hid hma
            have HPA : Hid (w4.heap[pb]? = some (ptObj p2 q2)) := hka.2 pb _ _ _ DD.out.p (by decide) (by decide)
            have HDA : Hid (w4.heap[w.heap.size]? = some (drObj c a nv)) := hka.2 w.heap.size _ _ _ DD.out.d (by decide) (by decide)
            have HBA := Lib.hid ((DD.out.b.mono HBB.out).trans hba)
            have HF := Lib.hid (hma.place p2 q2 HUV2.out)
            clear hba hma hka g0 g1 g2 g3 g4 g5 g6 g7 g8 g9
            obtain ⟨sv2, h1, _⟩ := HMA.out.cells
            obtain ⟨_, _, _, _, _, _, _, _, _, c9, c10, _⟩ := mc_of h1
            have hf := (mc_of h1).f
            have f9 := hf 9
            have f10 := hf 10
            obtain ⟨⟨t0, t1⟩, _⟩ := pt_at HPA.out
            clear h1 hf
            go_upto_region 17 with fail
            have HDF : Hid (((w4.setCell ⟨b, 9, none⟩ (.int .i64 p2)).setCell ⟨b, 10, none⟩ (.int .i64 q2)).heap[w.heap.size]? = some (drObj c a nv)) := by
              show _ = _
              have hne : w.heap.size ≠ b := by have := H.out.lt.1; omega
              rw [Below.heap_setCell _ _ _ _ hne, Below.heap_setCell _ _ _ _ hne]
              exact HDA.out
            clear c9 c10 f9 f10 t0 t1 HMA HPA HDA
            have HB5 := Lib.hid (HBA.out.trans HF.out.2)
            have HM5 := Lib.hid HF.out.1
            clear HF HBA
            generalize ((w4.setCell ⟨b, 9, none⟩ (.int .i64 p2)).setCell ⟨b, 10, none⟩ (.int .i64 q2)) = w5 at HDF HB5 HM5 ⊢
            obtain ⟨⟨_, d1, _⟩, _⟩ := dr_at HDF.out
            obtain ⟨sv3, h1, _⟩ := HM5.out.cells
            obtain ⟨_, _, _, _, _, _, _, _, _, _, _, _, _, c13, hf⟩ := mc_of h1
            have f13 := hf 13
            have HH := Lib.hid (HM5.out.hitS false)
            clear h1 hf
            go_wp2_with fail
            go_ret
            rw [← HR.out]
            exact ⟨HB5.out.trans HH.out.2, rfl, HH.out.1⟩
      · have k8b : (c.k == 8) = false := beq_eq_false_iff_ne.2 k8
        have HT : Hid (thenHit (addV m (discS u v 0)) u v (decide (c.k = 7)) = res) := by
          show _ = _
          have h := HL.out
          simp only [] at h
          rw [if_neg k8] at h
          exact h
        have HK7 : Hid ((c.k == 7) = decide (c.k = 7)) := rfl
        clear k8
        have HSX := Lib.hid (Nat.le_trans HBB.out DA.out.b.size)
        obtain ⟨g0, g1, g2, g3, g4, g5, g6, g7, g8, g9⟩ := nine_at DA.out.s
        obtain ⟨r2, hr2⟩ : ∃ r2, addV m (discS u v 0) = r2 := ⟨_, rfl⟩
        have hT := HT.out
        rw [hr2] at hT
        have HR2 := Lib.hid hr2
        have HT2 := Lib.hid hT
        clear hr2 hT HT
        go_wp2_with fail
        refine (add_c B b r n m (discS u v 0) (sp_disc _ _) X HSX.out HMX _ HR2).mono ?_
        cases r2 with
        | error k2 =>
          have HR : Hid (.error k2 = res) := HT2.out
          have hk2 := add_err HR2.out
          rintro e w4 ⟨⟨hba, rfl⟩, _⟩
          have HBA := Lib.hid ((DA.out.b.mono HBB.out).trans hba)
          clear hba g0 g1 g2 g3 g4 g5 g6 g7 g8 g9
          rcases hk2 with rfl | rfl
          · go_wp2_with fail
            go_ret
            rw [← HR.out]
            exact ⟨HBA.out, rfl⟩
          · go_wp2_with fail
            go_ret
            rw [← HR.out]
            exact ⟨HBA.out, rfl⟩
        | ok m3 =>
          have HR : Hid (.ok { m3 with x := u, y := v, hit := (decide (c.k = 7)) } = res) := HT2.out
          rintro e w4 ⟨⟨hba, rfl, hma⟩, hka⟩
          have HMA := Lib.hid hma
          have HPA : Hid (w4.heap[pb]? = some (ptObj u v)) := hka.2 pb _ _ _ DA.out.p (by decide) (by decide)
          have HDA : Hid (w4.heap[w.heap.size]? = some (drObj c a nv)) := hka.2 w.heap.size _ _ _ DA.out.d (by decide) (by decide)
          have HBA := Lib.hid ((DA.out.b.mono HBB.out).trans hba)
          have HF := Lib.hid (hma.place u v HUV.out)
          clear hba hma hka g0 g1 g2 g3 g4 g5 g6 g7 g8 g9
          obtain ⟨sv2, h1, _⟩ := HMA.out.cells
          obtain ⟨_, _, _, _, _, _, _, _, _, c9, c10, _⟩ := mc_of h1
          have hf := (mc_of h1).f
          have f9 := hf 9
          have f10 := hf 10
          obtain ⟨⟨t0, t1⟩, _⟩ := pt_at HPA.out
          clear h1 hf
          go_upto_region 17 with fail
          have HDF : Hid (((w4.setCell ⟨b, 9, none⟩ (.int .i64 u)).setCell ⟨b, 10, none⟩ (.int .i64 v)).heap[w.heap.size]? = some (drObj c a nv)) := by
            show _ = _
            have hne : w.heap.size ≠ b := by have := H.out.lt.1; omega
            rw [Below.heap_setCell _ _ _ _ hne, Below.heap_setCell _ _ _ _ hne]
            exact HDA.out
          clear c9 c10 f9 f10 t0 t1 HMA HPA HDA
          have HB5 := Lib.hid (HBA.out.trans HF.out.2)
          have HM5 := Lib.hid HF.out.1
          clear HF HBA
          generalize ((w4.setCell ⟨b, 9, none⟩ (.int .i64 u)).setCell ⟨b, 10, none⟩ (.int .i64 v)) = w5 at HDF HB5 HM5 ⊢
          obtain ⟨⟨_, d1, _⟩, _⟩ := dr_at HDF.out
          obtain ⟨sv3, h1, _⟩ := HM5.out.cells
          obtain ⟨_, _, _, _, _, _, _, _, _, _, _, _, _, c13, hf⟩ := mc_of h1
          have f13 := hf 13
          have HH := Lib.hid (HM5.out.hitS (c.k == 7))
          clear h1 hf
          go_wp2_with fail
          go_ret
          rw [← HR.out]
          exact ⟨HB5.out.trans HH.out.2, rfl, by have h := HH.out.1; rw [HK7.out] at h; exact h⟩
end Go.Proofs.YtecpmnkgikcpnaaDoor.HW
namespace Go.Proofs.YtecpmnkgikcpnaaDoor.HW
open Go.RowKit Go.Proofs.YtecpmnkgikcpnaaDoor.Base Go.Proofs.YtecpmnkgikcpnaaDoor.Dp Go.Proofs.YtecpmnkgikcpnaaDoor.DeciW Go.Proofs.YtecpmnkgikcpnaaDoor.Xp Go.Proofs.YtecpmnkgikcpnaaDoor.Hp Go.Proofs.YtecpmnkgikcpnaaDoor.XW

section
variable {B b r n : Nat} {m : M} {w : World} (h : Mach B b r n m w)
include h
theorem Mach.toolS (s : Int) (h0 : 0 ≤ s) (h1 : s ≤ 9999) : Mach B b r n { m with tool := s } (w.setCell ⟨b, 8, none⟩ (.int .i64 s)) ∧ Below B w (w.setCell ⟨b, 8, none⟩ (.int .i64 s)) :=
  h.upd { m with tool := s } 8 (.int .i64 s) (fun sv => rfl) rfl rfl (h.fine.same rfl rfl rfl rfl) h0 h1
theorem Mach.downS (s : Bool) : Mach B b r n { m with down := s } (w.setCell ⟨b, 12, none⟩ (.bool s)) ∧ Below B w (w.setCell ⟨b, 12, none⟩ (.bool s)) :=
  h.upd { m with down := s } 12 (.bool s) (fun sv => rfl) rfl rfl (h.fine.same rfl rfl rfl rfl) h.t0 h.t1
theorem Mach.route (s t : Bool) : Mach B b r n { m with routing := s, down := t } ((w.setCell ⟨b, 11, none⟩ (.bool s)).setCell ⟨b, 12, none⟩ (.bool t)) ∧ Below B w ((w.setCell ⟨b, 11, none⟩ (.bool s)).setCell ⟨b, 12, none⟩ (.bool t)) := by
  obtain ⟨h1, b1⟩ := h.upd { m with routing := s } 11 (.bool s) (fun sv => rfl) rfl rfl (h.fine.same rfl rfl rfl rfl) h.t0 h.t1
  obtain ⟨h2, b2⟩ := h1.upd { m with routing := s, down := t } 12 (.bool t) (fun sv => rfl) rfl rfl (h.fine.same rfl rfl rfl rfl) h.t0 h.t1
  exact ⟨h2, b1.trans b2⟩
end

set_option maxRecDepth 100000 in
set_option maxHeartbeats 6400000 in
theorem body_c (B b r n : Nat) (m : M) (c : D) (hc : Hid (Cd c)) (a : Int) (nv : Value) (w : World) (hB : B ≤ w.heap.size) (H : Hid (Mach B b r n m w)) (res : Except Nat M) (hres : Hid (bodyV m c = res)) :
    Calls Tryd.prog 54 #[.pointer (some ⟨b, 0, none⟩), drVal c a nv] w (MOut B b r n w res) := by
  have HSM := Lib.hid H.out
  have hlt := H.out.lt.1
  have HM0 := Lib.hid (H.out.hitS false)
  have HSZ : Hid (w.heap.size = (w.setCell ⟨b, 13, none⟩ (.bool false)).heap.size) := by show _ = _; simp [World.setCell]
  have HB0 : Hid (B ≤ (w.setCell ⟨b, 13, none⟩ (.bool false)).heap.size) := by show _ ≤ _; rw [← HSZ.out]; exact hB
  have hl := hres.out
  unfold bodyV at hl
  obtain ⟨sv, h1, _⟩ := H.out.cells
  have c13 := (mc_of h1).c13
  have f13 := (mc_of h1).f 13
  clear hB hres h1
  go_enter Tryd.func54, Tryd.ntmps54
  go_upto_region 3 with fail
  have HBW := Lib.hid HM0.out.2
  have H2 := Lib.hid HM0.out.1
  clear c13 f13 HM0 HSM hlt H
  rw [HSZ.out]
  generalize w.setCell ⟨b, 13, none⟩ (.bool false) = w0 at HBW H2 HB0 HSZ ⊢
  have H := H2
  clear H2 HSZ
  have HBB := HB0
  clear HB0
  have HB1 : Hid (Below w0.heap.size w0 (w0.alloc (drObj c a nv))) := (Below.refl _ _).alloc (Nat.le_refl _) _
  have HS1 : Hid ((w0.alloc (drObj c a nv)).heap[w0.heap.size]? = some (drObj c a nv)) := heap_alloc_new w0 _
  generalize w0.alloc _ = W at HB1 HS1 ⊢
  have HBX := Lib.hid (HBW.out.trans (HB1.out.mono HBB.out))
  have HM1 := Lib.hid (H.out.below HB1.out)
  obtain ⟨sv, h1, _⟩ := HM1.out.cells
  obtain ⟨c0, c1, c2, c3, c4, c5, c6, c7, c8, c9, c10, c11, c12, c13, hf⟩ := mc_of h1
  have z2 := hf 2
  have z8 := hf 8
  have z11 := hf 11
  have z12 := hf 12
  obtain ⟨⟨d0, d1, d2, d3, d4, d5, d6, d7, d8, d9⟩, _⟩ := dr_at HS1.out
  clear h1 hf
  by_cases k : c.k = 6
  · rw [if_pos k] at hl
    have f6 : (c.k == 6) = true := by rw [beq_iff_eq]; omega
    have f14 : (c.k == 14) = false := by rw [beq_eq_false_iff_ne]; omega
    have f13 : (c.k == 13) = false := by rw [beq_eq_false_iff_ne]; omega
    have f9 : (c.k == 9) = false := by rw [beq_eq_false_iff_ne]; omega
    have f10 : (c.k == 10) = false := by rw [beq_eq_false_iff_ne]; omega
    have f11 : (c.k == 11) = false := by rw [beq_eq_false_iff_ne]; omega
    have f7 : (c.k == 7) = false := by rw [beq_eq_false_iff_ne]; omega
    have f8 : (c.k == 8) = false := by rw [beq_eq_false_iff_ne]; omega
    have f12 : (c.k == 12) = false := by rw [beq_eq_false_iff_ne]; omega
    have f15 : (c.k == 15) = false := by rw [beq_eq_false_iff_ne]; omega
    obtain ⟨q, hq⟩ : ∃ q, m.rad c.n = q := ⟨_, rfl⟩
    have hlook := rad_look2 (w := W.drew) (HM1.out.rad.below (below_drew W)) c.n hc.out.n0 hc.out.n1
    rw [show ({ m with hit := false } : M).rad c.n = m.rad c.n from rfl, hq] at hlook
    rw [hq] at hl
    clear hq k
    go_upto_region 6 with fail
    go_region
    have HBD := Lib.hid HBX.out.drew
    have HMD : Hid (Mach B b r n { m with hit := false } W.drew) := HM1.out.below (below_drew W)
    have HSD : Hid (W.drew.heap[w0.heap.size]? = some (drObj c a nv)) := HS1.out
    clear hlook c0 c1 c2 c3 c4 c5 c6 c7 c8 c9 c10 c11 c12 c13 z2 z8 z11 z12 d0 d1 d2 d3 d4 d5 d6 d7 d8 d9 HBX HM1 HS1 HB1
    generalize W.drew = X at HBD HMD HSD ⊢
    obtain ⟨sv, h1, _⟩ := HMD.out.cells
    have c8 := (mc_of h1).c8
    have z8 := (mc_of h1).f 8
    obtain ⟨⟨_, _, d2, _⟩, _⟩ := dr_at HSD.out
    have HF := Lib.hid (HMD.out.toolS c.n hc.out.n0 hc.out.n1)
    clear h1
    cases q with
    | some g =>
      have HR : Hid (.ok { m with hit := false, tool := c.n } = res) := by show _ = _; rw [← hl]; exact (if_neg (by rintro ⟨e, _⟩; cases e)).symm
      clear hl
      go_wp2_with fail
      go_ret
      rw [← HR.out]
      exact ⟨HBD.out.trans HF.out.2, rfl, HF.out.1⟩
    | none =>
      by_cases h0 : c.n = 0
      · have h0b : (c.n != 0) = false := by rw [bne_eq_false_iff_eq]; exact h0
        have HR : Hid (.ok { m with hit := false, tool := c.n } = res) := by show _ = _; rw [← hl]; exact (if_neg (by rintro ⟨_, e⟩; exact e h0)).symm
        clear hl h0
        go_wp2_with fail
        go_ret
        rw [← HR.out]
        exact ⟨HBD.out.trans HF.out.2, rfl, HF.out.1⟩
      · have h0b : (c.n != 0) = true := by rw [bne_iff_ne]; exact h0
        have HR : Hid (.error 4 = res) := by show _ = _; rw [← hl]; exact (if_pos ⟨rfl, h0⟩).symm
        clear hl h0
        go_wp2_with fail
        go_ret
        rw [← HR.out]
        exact ⟨HBD.out, rfl⟩
  · rw [if_neg k] at hl
    have n6 := k
    clear k
    by_cases k : c.k = 14
    · rw [if_pos k] at hl
      have f6 : (c.k == 6) = false := by rw [beq_eq_false_iff_ne]; omega
      have f14 : (c.k == 14) = true := by rw [beq_iff_eq]; omega
      have f13 : (c.k == 13) = false := by rw [beq_eq_false_iff_ne]; omega
      have f9 : (c.k == 9) = false := by rw [beq_eq_false_iff_ne]; omega
      have f10 : (c.k == 10) = false := by rw [beq_eq_false_iff_ne]; omega
      have f11 : (c.k == 11) = false := by rw [beq_eq_false_iff_ne]; omega
      have f7 : (c.k == 7) = false := by rw [beq_eq_false_iff_ne]; omega
      have f8 : (c.k == 8) = false := by rw [beq_eq_false_iff_ne]; omega
      have f12 : (c.k == 12) = false := by rw [beq_eq_false_iff_ne]; omega
      have f15 : (c.k == 15) = false := by rw [beq_eq_false_iff_ne]; omega
      have HR := Lib.hid hl
      clear hl k
      go_wp2_with fail
      go_ret
      rw [← HR.out]
      exact ⟨HBX.out, rfl, HM1.out⟩
    · rw [if_neg k] at hl
      have n14 := k
      clear k
      by_cases k : c.k = 13
      · rw [if_pos k] at hl
        have f6 : (c.k == 6) = false := by rw [beq_eq_false_iff_ne]; omega
        have f14 : (c.k == 14) = false := by rw [beq_eq_false_iff_ne]; omega
        have f13 : (c.k == 13) = true := by rw [beq_iff_eq]; omega
        have f9 : (c.k == 9) = false := by rw [beq_eq_false_iff_ne]; omega
        have f10 : (c.k == 10) = false := by rw [beq_eq_false_iff_ne]; omega
        have f11 : (c.k == 11) = false := by rw [beq_eq_false_iff_ne]; omega
        have f7 : (c.k == 7) = false := by rw [beq_eq_false_iff_ne]; omega
        have f8 : (c.k == 8) = false := by rw [beq_eq_false_iff_ne]; omega
        have f12 : (c.k == 12) = false := by rw [beq_eq_false_iff_ne]; omega
        have f15 : (c.k == 15) = false := by rw [beq_eq_false_iff_ne]; omega
        have HR := Lib.hid hl
        have HF := Lib.hid (HM1.out.route false false)
        clear hl k
        go_wp2_with fail
        go_ret
        rw [← HR.out]
        exact ⟨HBX.out.trans HF.out.2, rfl, HF.out.1⟩
      · rw [if_neg k] at hl
        have n13 := k
        clear k
        by_cases k : c.k = 9
        · rw [if_pos k] at hl
          have f6 : (c.k == 6) = false := by rw [beq_eq_false_iff_ne]; omega
          have f14 : (c.k == 14) = false := by rw [beq_eq_false_iff_ne]; omega
          have f13 : (c.k == 13) = false := by rw [beq_eq_false_iff_ne]; omega
          have f9 : (c.k == 9) = true := by rw [beq_iff_eq]; omega
          have f10 : (c.k == 10) = false := by rw [beq_eq_false_iff_ne]; omega
          have f11 : (c.k == 11) = false := by rw [beq_eq_false_iff_ne]; omega
          have f7 : (c.k == 7) = false := by rw [beq_eq_false_iff_ne]; omega
          have f8 : (c.k == 8) = false := by rw [beq_eq_false_iff_ne]; omega
          have f12 : (c.k == 12) = false := by rw [beq_eq_false_iff_ne]; omega
          have f15 : (c.k == 15) = false := by rw [beq_eq_false_iff_ne]; omega
          obtain ⟨o, ho⟩ : ∃ o, ptV m c.x c.y m.x m.y = o := ⟨_, rfl⟩
          have HO : Hid (ptV { m with hit := false } c.x c.y m.x m.y = o) := ho
          rw [ho] at hl
          have HL := Lib.hid hl
          clear hl ho k
          have KS := Lib.hid (pt_S H.out HB1.out HS1.out)
          have KD := Lib.hid (pt_bel H.out (below_drew W) KS.out)
          have hlt : w0.heap.size < W.heap.size := (Array.getElem?_eq_some_iff.1 HS1.out).1
          go_upto_region 14 with fail
          go_cut [8, 9] (fun pv ok x => ∃ pb : Nat, pv = .pointer (some ⟨pb, 0, none⟩) ∧ ok = .bool o.isSome ∧ w0.heap.size < pb ∧ Hid (PtAt w0 x c a nv pb (o.getD (0, 0)).1 (o.getD (0, 0)).2))
          case first =>
            go_region_held3 (fun x => x.cell? ⟨w0.heap.size, 5, none⟩ = some (.string ⟨c.x.toArray⟩) ∧ x.cell? ⟨w0.heap.size, 6, none⟩ = some (.string ⟨c.y.toArray⟩) ∧ x.cell? ⟨b, 9, none⟩ = some (.int .i64 m.x) ∧ x.cell? ⟨b, 10, none⟩ = some (.int .i64 m.y) ∧ Below w0.heap.size w0 x ∧ x.heap[w0.heap.size]? = some (drObj c a nv))
              (first | exact KD.out | exact KW.out | exact pt_bel H.out ((Below.refl _ _).alloc (Nat.le_refl _) _) KW.out | exact pt_bel H.out (((Below.refl _ _).alloc (Nat.le_refl _) _).drew) KS.out | exact pt_set H.out hlt _ _ KW.out | fail)
              (first | (go_at_call 69; refine (pt_c B b r n { m with hit := false } ⟨c.x.toArray⟩ ⟨c.y.toArray⟩ (str_le hc.out.x) (str_le hc.out.y) m.x m.y _ (Lib.hid (pt_M H.out (by assumption))) o HO).mono ?_; rintro e w' ⟨rfl, hbw⟩; have KW := Lib.hid (pt_bel H.out hbw (by assumption)); first | (have KZ : Hid (w'.heap[W.heap.size]? = some (ptObj 0 0)) := (one_below (w := (W.alloc (ptObj 0 0)).drew) (heap_alloc_new W (ptObj 0 0)) hbw); have z0 := (pt_at KZ.out).1.1; have z1 := (pt_at KZ.out).1.2; have y0 := (pt_at KZ.out).2.1; have y1 := (pt_at KZ.out).2.2) | skip))
            · go_wp2_with fail
              go_meet
              exact ⟨_, rfl, rfl, met1 KW.out.2.2.2.2.1 KW.out.2.2.2.2.2 _ _⟩
            · go_wp2_with fail
              go_meet
              exact ⟨_, rfl, rfl, hlt, met2 H.out hlt KW.out KZ.out _ _⟩
          case rest =>
          obtain ⟨pb, rfl, rfl, hpb, HP⟩ := hcut
          clear c0 c1 c2 c3 c4 c5 c6 c7 c8 c9 c10 c11 c12 c13 d0 d1 d2 d3 d4 d5 d6 d7 d8 d9 z2 z8 z11 z12 KS KD HM1 HB1 HS1 hlt HBX
          have HMX := Lib.hid (H.out.below HP.out.2.1)
          have HBY := Lib.hid (HBW.out.trans (HP.out.2.1.mono HBB.out))
          obtain ⟨sv, h1, _⟩ := HMX.out.cells
          obtain ⟨_, _, _, _, _, _, _, _, _, c9, c10, c11, c12, _⟩ := mc_of h1
          have hf := (mc_of h1).f
          have z9 := hf 9
          have z10 := hf 10
          have z11 := hf 11
          have z12 := hf 12
          obtain ⟨⟨q0, q1⟩, _⟩ := pt_at HP.out.1
          clear h1 hf
          cases o with
          | none =>
            have HR : Hid (.error 5 = res) := HL.out
            go_wp2_with fail
            go_ret
            rw [← HR.out]
            exact ⟨HBY.out, rfl⟩
          | some pq =>
            obtain ⟨u, v⟩ := pq
            have HR : Hid (.ok { m with hit := false, x := u, y := v, routing := true, down := false } = res) := HL.out
            have huv := pt_near HO.out HMX.out.fine.x0 HMX.out.fine.x1 HMX.out.fine.y0 HMX.out.fine.y1
            have hF := HMX.out.place u v huv
            have hG := hF.1.route true false
            have HF := Lib.hid (And.intro hG.1 (hF.2.trans hG.2))
            clear huv hF hG
            go_wp2_with fail
            go_ret
            rw [← HR.out]
            exact ⟨HBY.out.trans HF.out.2, rfl, HF.out.1⟩
        · rw [if_neg k] at hl
          have n9 := k
          clear k
          by_cases k : c.k = 10
          · rw [if_pos k] at hl
            have f6 : (c.k == 6) = false := by rw [beq_eq_false_iff_ne]; omega
            have f14 : (c.k == 14) = false := by rw [beq_eq_false_iff_ne]; omega
            have f13 : (c.k == 13) = false := by rw [beq_eq_false_iff_ne]; omega
            have f9 : (c.k == 9) = false := by rw [beq_eq_false_iff_ne]; omega
            have f10 : (c.k == 10) = true := by rw [beq_iff_eq]; omega
            have f11 : (c.k == 11) = false := by rw [beq_eq_false_iff_ne]; omega
            have f7 : (c.k == 7) = false := by rw [beq_eq_false_iff_ne]; omega
            have f8 : (c.k == 8) = false := by rw [beq_eq_false_iff_ne]; omega
            have f12 : (c.k == 12) = false := by rw [beq_eq_false_iff_ne]; omega
            have f15 : (c.k == 15) = false := by rw [beq_eq_false_iff_ne]; omega
            cases hr : m.routing with
            | false =>
              rw [if_pos hr] at hl
              have HR : Hid (.error 4 = res) := hl
              rw [show ({ m with hit := false } : M).routing = m.routing from rfl, hr] at c11
              clear hl hr k
              go_wp2_with fail
              go_ret
              rw [← HR.out]
              exact ⟨HBX.out, rfl⟩
            | true =>
              rw [if_neg (by rw [hr]; decide)] at hl
              have HR : Hid (.ok { m with hit := false, down := c.on } = res) := hl
              rw [show ({ m with hit := false } : M).routing = m.routing from rfl, hr] at c11
              have HF := Lib.hid (HM1.out.downS c.on)
              clear hl hr k
              go_wp2_with fail
              go_ret
              rw [← HR.out]
              exact ⟨HBX.out.trans HF.out.2, rfl, HF.out.1⟩
          · rw [if_neg k] at hl
            have n10 := k
            clear k
            by_cases k : c.k = 11
            · rw [if_pos k] at hl
              have f6 : (c.k == 6) = false := by rw [beq_eq_false_iff_ne]; omega
              have f14 : (c.k == 14) = false := by rw [beq_eq_false_iff_ne]; omega
              have f13 : (c.k == 13) = false := by rw [beq_eq_false_iff_ne]; omega
              have f9 : (c.k == 9) = false := by rw [beq_eq_false_iff_ne]; omega
              have f10 : (c.k == 10) = false := by rw [beq_eq_false_iff_ne]; omega
              have f11 : (c.k == 11) = true := by rw [beq_iff_eq]; omega
              have f7 : (c.k == 7) = false := by rw [beq_eq_false_iff_ne]; omega
              have f8 : (c.k == 8) = false := by rw [beq_eq_false_iff_ne]; omega
              have f12 : (c.k == 12) = false := by rw [beq_eq_false_iff_ne]; omega
              have f15 : (c.k == 15) = false := by rw [beq_eq_false_iff_ne]; omega
              clear k
              have HR := Lib.hid hl
              clear hl c0 c1 c2 c3 c4 c5 c6 c7 c8 c9 c10 c12 c13 z2 z8 z11 z12
              go_wp2_with fail
              refine (cut_c B b r n { m with hit := false } c hc a nv W (Nat.le_trans HBB.out HB1.out.size) HM1 res HR).mono ?_
              cases res with
              | error k =>
                rintro e w' ⟨hb, rfl⟩
                have HBE := Lib.hid (HBX.out.trans hb)
                clear hb
                go_wp2_with fail
                go_ret
                exact ⟨HBE.out, rfl⟩
              | ok m' =>
                rintro e w' ⟨hb, rfl, hm⟩
                have HBE := Lib.hid (HBX.out.trans hb)
                have HME := Lib.hid hm
                clear hb hm
                go_wp2_with fail
                go_ret
                exact ⟨HBE.out, rfl, HME.out⟩
            · rw [if_neg k] at hl
              have n11 := k
              clear k
              by_cases kh : c.k = 7 ∨ c.k = 8 ∨ c.k = 12
              · rw [if_pos kh] at hl
                by_cases k : c.k = 12
                · clear kh
                  have f6 : (c.k == 6) = false := by rw [beq_eq_false_iff_ne]; omega
                  have f14 : (c.k == 14) = false := by rw [beq_eq_false_iff_ne]; omega
                  have f13 : (c.k == 13) = false := by rw [beq_eq_false_iff_ne]; omega
                  have f9 : (c.k == 9) = false := by rw [beq_eq_false_iff_ne]; omega
                  have f10 : (c.k == 10) = false := by rw [beq_eq_false_iff_ne]; omega
                  have f11 : (c.k == 11) = false := by rw [beq_eq_false_iff_ne]; omega
                  have f7 : (c.k == 7) = false := by rw [beq_eq_false_iff_ne]; omega
                  have f8 : (c.k == 8) = false := by rw [beq_eq_false_iff_ne]; omega
                  have f12 : (c.k == 12) = true := by rw [beq_iff_eq]; omega
                  have f15 : (c.k == 15) = false := by rw [beq_eq_false_iff_ne]; omega
                  by_cases hg : m.routing = true ∨ m.tool = 0 ∨ (c.k = 12 ∧ m.hit = false)
                  · rw [if_pos hg] at hl
                    have HR : Hid (.error 4 = res) := hl
                    clear hl
                    cases hr : m.routing with
                    | true =>
                      rw [show ({ m with hit := false } : M).routing = m.routing from rfl, hr] at c11
                      clear hg hr k
                      go_wp2_with fail
                      go_ret
                      rw [← HR.out]
                      exact ⟨HBX.out, rfl⟩
                    | false =>
                      rw [show ({ m with hit := false } : M).routing = m.routing from rfl, hr] at c11
                      by_cases ht : m.tool = 0
                      · have htb : (m.tool == 0) = true := beq_iff_eq.2 ht
                        clear hg hr ht k
                        go_wp2_with fail
                        go_ret
                        rw [← HR.out]
                        exact ⟨HBX.out, rfl⟩
                      · have htb : (m.tool == 0) = false := beq_eq_false_iff_ne.2 ht
                        cases hh : m.hit with
                        | true => exact absurd hg (by rintro (e | e | ⟨_, e⟩); rw [hr] at e; cases e; exact ht e; rw [hh] at e; cases e)
                        | false =>
                          clear hg hr ht k
                          go_wp2_with fail
                          go_ret
                          rw [← HR.out]
                          exact ⟨HBX.out, rfl⟩
                  · rw [if_neg hg] at hl
                    have hr : m.routing = false := by cases hr : m.routing with | false => rfl | true => exact absurd (.inl hr) hg
                    have ht : ¬ m.tool = 0 := fun e => hg (.inr (.inl e))
                    have htb : (m.tool == 0) = false := beq_eq_false_iff_ne.2 ht
                    rw [show ({ m with hit := false } : M).routing = m.routing from rfl, hr] at c11
                    have hh : m.hit = true := by cases hh : m.hit with | true => rfl | false => exact absurd (.inr (.inr ⟨k, hh⟩)) hg
                    rw [hh]
                    clear hg hr ht k
                    have HR := Lib.hid hl
                    clear hl c0 c1 c2 c3 c4 c5 c6 c7 c9 c10 c12 c13 z2 z8 z11 z12
                    go_wp2_with fail
                    refine (drill_c B b r n { m with hit := false } c hc a nv W (Nat.le_trans HBB.out HB1.out.size) HM1 res HR).mono ?_
                    cases res with
                    | error k =>
                      rintro e w' ⟨hb, rfl⟩
                      have HBE := Lib.hid (HBX.out.trans hb)
                      clear hb
                      go_wp2_with fail
                      go_ret
                      exact ⟨HBE.out, rfl⟩
                    | ok m' =>
                      rintro e w' ⟨hb, rfl, hm⟩
                      have HBE := Lib.hid (HBX.out.trans hb)
                      have HME := Lib.hid hm
                      clear hb hm
                      go_wp2_with fail
                      go_ret
                      exact ⟨HBE.out, rfl, HME.out⟩
                · by_cases k7 : c.k = 7
                  · clear kh k
                    have k := k7
                    have f6 : (c.k == 6) = false := by rw [beq_eq_false_iff_ne]; omega
                    have f14 : (c.k == 14) = false := by rw [beq_eq_false_iff_ne]; omega
                    have f13 : (c.k == 13) = false := by rw [beq_eq_false_iff_ne]; omega
                    have f9 : (c.k == 9) = false := by rw [beq_eq_false_iff_ne]; omega
                    have f10 : (c.k == 10) = false := by rw [beq_eq_false_iff_ne]; omega
                    have f11 : (c.k == 11) = false := by rw [beq_eq_false_iff_ne]; omega
                    have f7 : (c.k == 7) = true := by rw [beq_iff_eq]; omega
                    have f8 : (c.k == 8) = false := by rw [beq_eq_false_iff_ne]; omega
                    have f12 : (c.k == 12) = false := by rw [beq_eq_false_iff_ne]; omega
                    have f15 : (c.k == 15) = false := by rw [beq_eq_false_iff_ne]; omega
                    clear k7
                    by_cases hg : m.routing = true ∨ m.tool = 0 ∨ (c.k = 12 ∧ m.hit = false)
                    · rw [if_pos hg] at hl
                      have HR : Hid (.error 4 = res) := hl
                      clear hl
                      cases hr : m.routing with
                      | true =>
                        rw [show ({ m with hit := false } : M).routing = m.routing from rfl, hr] at c11
                        clear hg hr k
                        go_wp2_with fail
                        go_ret
                        rw [← HR.out]
                        exact ⟨HBX.out, rfl⟩
                      | false =>
                        rw [show ({ m with hit := false } : M).routing = m.routing from rfl, hr] at c11
                        by_cases ht : m.tool = 0
                        · have htb : (m.tool == 0) = true := beq_iff_eq.2 ht
                          clear hg hr ht k
                          go_wp2_with fail
                          go_ret
                          rw [← HR.out]
                          exact ⟨HBX.out, rfl⟩
                        · have htb : (m.tool == 0) = false := beq_eq_false_iff_ne.2 ht
                          exact absurd hg (by rintro (e | e | ⟨e, _⟩); rw [hr] at e; cases e; exact ht e; omega)
                    · rw [if_neg hg] at hl
                      have hr : m.routing = false := by cases hr : m.routing with | false => rfl | true => exact absurd (.inl hr) hg
                      have ht : ¬ m.tool = 0 := fun e => hg (.inr (.inl e))
                      have htb : (m.tool == 0) = false := beq_eq_false_iff_ne.2 ht
                      rw [show ({ m with hit := false } : M).routing = m.routing from rfl, hr] at c11
                      clear hg hr ht k
                      have HR := Lib.hid hl
                      clear hl c0 c1 c2 c3 c4 c5 c6 c7 c9 c10 c12 c13 z2 z8 z11 z12
                      go_wp2_with fail
                      refine (drill_c B b r n { m with hit := false } c hc a nv W (Nat.le_trans HBB.out HB1.out.size) HM1 res HR).mono ?_
                      cases res with
                      | error k =>
                        rintro e w' ⟨hb, rfl⟩
                        have HBE := Lib.hid (HBX.out.trans hb)
                        clear hb
                        go_wp2_with fail
                        go_ret
                        exact ⟨HBE.out, rfl⟩
                      | ok m' =>
                        rintro e w' ⟨hb, rfl, hm⟩
                        have HBE := Lib.hid (HBX.out.trans hb)
                        have HME := Lib.hid hm
                        clear hb hm
                        go_wp2_with fail
                        go_ret
                        exact ⟨HBE.out, rfl, HME.out⟩
                  · have k8 : c.k = 8 := by omega
                    clear kh k k7
                    have k := k8
                    have f6 : (c.k == 6) = false := by rw [beq_eq_false_iff_ne]; omega
                    have f14 : (c.k == 14) = false := by rw [beq_eq_false_iff_ne]; omega
                    have f13 : (c.k == 13) = false := by rw [beq_eq_false_iff_ne]; omega
                    have f9 : (c.k == 9) = false := by rw [beq_eq_false_iff_ne]; omega
                    have f10 : (c.k == 10) = false := by rw [beq_eq_false_iff_ne]; omega
                    have f11 : (c.k == 11) = false := by rw [beq_eq_false_iff_ne]; omega
                    have f7 : (c.k == 7) = false := by rw [beq_eq_false_iff_ne]; omega
                    have f8 : (c.k == 8) = true := by rw [beq_iff_eq]; omega
                    have f12 : (c.k == 12) = false := by rw [beq_eq_false_iff_ne]; omega
                    have f15 : (c.k == 15) = false := by rw [beq_eq_false_iff_ne]; omega
                    clear k8
                    by_cases hg : m.routing = true ∨ m.tool = 0 ∨ (c.k = 12 ∧ m.hit = false)
                    · rw [if_pos hg] at hl
                      have HR : Hid (.error 4 = res) := hl
                      clear hl
                      cases hr : m.routing with
                      | true =>
                        rw [show ({ m with hit := false } : M).routing = m.routing from rfl, hr] at c11
                        clear hg hr k
                        go_wp2_with fail
                        go_ret
                        rw [← HR.out]
                        exact ⟨HBX.out, rfl⟩
                      | false =>
                        rw [show ({ m with hit := false } : M).routing = m.routing from rfl, hr] at c11
                        by_cases ht : m.tool = 0
                        · have htb : (m.tool == 0) = true := beq_iff_eq.2 ht
                          clear hg hr ht k
                          go_wp2_with fail
                          go_ret
                          rw [← HR.out]
                          exact ⟨HBX.out, rfl⟩
                        · have htb : (m.tool == 0) = false := beq_eq_false_iff_ne.2 ht
                          exact absurd hg (by rintro (e | e | ⟨e, _⟩); rw [hr] at e; cases e; exact ht e; omega)
                    · rw [if_neg hg] at hl
                      have hr : m.routing = false := by cases hr : m.routing with | false => rfl | true => exact absurd (.inl hr) hg
                      have ht : ¬ m.tool = 0 := fun e => hg (.inr (.inl e))
                      have htb : (m.tool == 0) = false := beq_eq_false_iff_ne.2 ht
                      rw [show ({ m with hit := false } : M).routing = m.routing from rfl, hr] at c11
                      clear hg hr ht k
                      have HR := Lib.hid hl
                      clear hl c0 c1 c2 c3 c4 c5 c6 c7 c9 c10 c12 c13 z2 z8 z11 z12
                      go_wp2_with fail
                      refine (drill_c B b r n { m with hit := false } c hc a nv W (Nat.le_trans HBB.out HB1.out.size) HM1 res HR).mono ?_
                      cases res with
                      | error k =>
                        rintro e w' ⟨hb, rfl⟩
                        have HBE := Lib.hid (HBX.out.trans hb)
                        clear hb
                        go_wp2_with fail
                        go_ret
                        exact ⟨HBE.out, rfl⟩
                      | ok m' =>
                        rintro e w' ⟨hb, rfl, hm⟩
                        have HBE := Lib.hid (HBX.out.trans hb)
                        have HME := Lib.hid hm
                        clear hb hm
                        go_wp2_with fail
                        go_ret
                        exact ⟨HBE.out, rfl, HME.out⟩
              · rw [if_neg kh] at hl
                by_cases k : c.k = 15
                · rw [if_pos k] at hl
                  have f6 : (c.k == 6) = false := by rw [beq_eq_false_iff_ne]; omega
                  have f14 : (c.k == 14) = false := by rw [beq_eq_false_iff_ne]; omega
                  have f13 : (c.k == 13) = false := by rw [beq_eq_false_iff_ne]; omega
                  have f9 : (c.k == 9) = false := by rw [beq_eq_false_iff_ne]; omega
                  have f10 : (c.k == 10) = false := by rw [beq_eq_false_iff_ne]; omega
                  have f11 : (c.k == 11) = false := by rw [beq_eq_false_iff_ne]; omega
                  have f7 : (c.k == 7) = false := by rw [beq_eq_false_iff_ne]; omega
                  have f8 : (c.k == 8) = false := by rw [beq_eq_false_iff_ne]; omega
                  have f12 : (c.k == 12) = false := by rw [beq_eq_false_iff_ne]; omega
                  have f15 : (c.k == 15) = true := by rw [beq_iff_eq]; omega
                  have HR := Lib.hid hl
                  have HF := Lib.hid (HM1.out.stg 3)
                  clear hl k
                  go_wp2_with fail
                  go_ret
                  rw [← HR.out]
                  exact ⟨HBX.out.trans HF.out.2, rfl, HF.out.1⟩
                · rw [if_neg k] at hl
                  have n15 := k
                  clear k
                  have f6 : (c.k == 6) = false := by rw [beq_eq_false_iff_ne]; omega
                  have f14 : (c.k == 14) = false := by rw [beq_eq_false_iff_ne]; omega
                  have f13 : (c.k == 13) = false := by rw [beq_eq_false_iff_ne]; omega
                  have f9 : (c.k == 9) = false := by rw [beq_eq_false_iff_ne]; omega
                  have f10 : (c.k == 10) = false := by rw [beq_eq_false_iff_ne]; omega
                  have f11 : (c.k == 11) = false := by rw [beq_eq_false_iff_ne]; omega
                  have f7 : (c.k == 7) = false := by rw [beq_eq_false_iff_ne]; omega
                  have f8 : (c.k == 8) = false := by rw [beq_eq_false_iff_ne]; omega
                  have f12 : (c.k == 12) = false := by rw [beq_eq_false_iff_ne]; omega
                  have f15 : (c.k == 15) = false := by rw [beq_eq_false_iff_ne]; omega
                  have HR := Lib.hid hl
                  clear hl
                  go_wp2_with fail
                  go_ret
                  rw [← HR.out]
                  exact ⟨HBX.out, rfl⟩
end Go.Proofs.YtecpmnkgikcpnaaDoor.HW
namespace Go.Proofs.YtecpmnkgikcpnaaDoor.HW
open Go.RowKit Go.Proofs.YtecpmnkgikcpnaaDoor.Base Go.Proofs.YtecpmnkgikcpnaaDoor.Dp Go.Proofs.YtecpmnkgikcpnaaDoor.DeciW Go.Proofs.YtecpmnkgikcpnaaDoor.Xp Go.Proofs.YtecpmnkgikcpnaaDoor.Hp Go.Proofs.YtecpmnkgikcpnaaDoor.XW

set_option maxRecDepth 100000 in
set_option maxHeartbeats 3200000 in
theorem do_c (B b r n : Nat) (m : M) (c : D) (hc : Hid (Cd c)) (a : Int) (p : Option Addr) (cap Bn : Nat) (w : World) (hB : B ≤ w.heap.size) (hn : n ≤ 1000000000) (HN : Hid (NumsIn Bn w p c.nums)) (H : Hid (Mach B b r n m w)) (res : Except Nat M) (hres : Hid (doV m c = res)) :
    Calls Tryd.prog 36 #[.pointer (some ⟨b, 0, none⟩), drVal c a (.slice p c.nums.length cap)] w (MOut B b r (n + 1) w res) := by
  have HBB := Lib.hid hB
  have HNN := Lib.hid hn
  have HB1 : Hid (Below w.heap.size w (w.alloc (drObj c a (.slice p c.nums.length cap)))) := (Below.refl _ _).alloc (Nat.le_refl _) _
  have HS1 : Hid ((w.alloc (drObj c a (.slice p c.nums.length cap))).heap[w.heap.size]? = some (drObj c a (.slice p c.nums.length cap))) := heap_alloc_new w _
  have hl := hres.out
  unfold doV at hl
  clear hB hres hn
  go_enter Tryd.func36, Tryd.ntmps36
  go_upto_region 1 with fail
  generalize w.alloc _ = W at HB1 HS1 ⊢
  have HM1 := Lib.hid (H.out.below HB1.out)
  have HN1 := Lib.hid (HN.out.below HB1.out)
  obtain ⟨sv, h1, _⟩ := HM1.out.cells
  have c2 := (mc_of h1).c2
  have z2 := (mc_of h1).f 2
  obtain ⟨⟨d0, d1, d2, d3, d4, d5, d6, d7, d8, d9⟩, _⟩ := dr_at HS1.out
  clear h1
  by_cases s0 : m.stage = 0
  · rw [if_pos s0] at hl
    have s0b : (m.stage == 0) = true := beq_iff_eq.2 s0
    clear s0
    by_cases k2 : c.k = 2
    · have k2b : (c.k != 2) = false := by rw [bne_eq_false_iff_eq]; exact k2
      rw [if_neg (by omega)] at hl
      have HR := Lib.hid hl
      have HF := Lib.hid (HM1.out.stg 1)
      clear hl k2
      go_wp2_with fail
      go_ret
      rw [← HR.out]
      exact ⟨(HB1.out.mono HBB.out).trans HF.out.2, rfl, HF.out.1.mono (Nat.le_succ _)⟩
    · have k2b : (c.k != 2) = true := by rw [bne_iff_ne]; exact k2
      rw [if_pos k2] at hl
      have HR := Lib.hid hl
      clear hl k2
      go_wp2_with fail
      go_ret
      rw [← HR.out]
      exact ⟨HB1.out.mono HBB.out, rfl⟩
  · rw [if_neg s0] at hl
    have s0b : (m.stage == 0) = false := beq_eq_false_iff_ne.2 s0
    by_cases s1 : m.stage = 1
    · rw [if_pos s1] at hl
      have s1b : (m.stage == 1) = true := beq_iff_eq.2 s1
      have HR := Lib.hid hl
      clear s0 s1 hl
      go_wp2_with fail
      refine (header_c B b r n m c hc a p cap Bn W (Nat.le_trans HBB.out HB1.out.size) HNN.out HN1 HM1 res HR).mono ?_
      cases res with
      | error k =>
        rintro e w' ⟨hb, rfl⟩
        have HBE := Lib.hid ((HB1.out.mono HBB.out).trans hb)
        clear hb
        go_wp2_with fail
        go_ret
        exact ⟨HBE.out, rfl⟩
      | ok m' =>
        rintro e w' ⟨hb, rfl, hm⟩
        have HBE := Lib.hid ((HB1.out.mono HBB.out).trans hb)
        have HME := Lib.hid hm
        clear hb hm
        go_wp2_with fail
        go_ret
        exact ⟨HBE.out, rfl, HME.out⟩
    · rw [if_neg s1] at hl
      have s1b : (m.stage == 1) = false := beq_eq_false_iff_ne.2 s1
      by_cases s2 : m.stage = 2
      · rw [if_pos s2] at hl
        have s2b : (m.stage == 2) = true := beq_iff_eq.2 s2
        have HR := Lib.hid hl
        clear s0 s1 s2 hl
        go_wp2_with fail
        refine (body_c B b r n m c hc a (.slice p c.nums.length cap) W (Nat.le_trans HBB.out HB1.out.size) HM1 res HR).mono ?_
        cases res with
        | error k =>
          rintro e w' ⟨hb, rfl⟩
          have HBE := Lib.hid ((HB1.out.mono HBB.out).trans hb)
          clear hb
          go_wp2_with fail
          go_ret
          exact ⟨HBE.out, rfl⟩
        | ok m' =>
          rintro e w' ⟨hb, rfl, hm⟩
          have HBE := Lib.hid ((HB1.out.mono HBB.out).trans hb)
          have HME := Lib.hid hm
          clear hb hm
          go_wp2_with fail
          go_ret
          exact ⟨HBE.out, rfl, HME.out.mono (Nat.le_succ _)⟩
      · rw [if_neg s2] at hl
        have s2b : (m.stage == 2) = false := beq_eq_false_iff_ne.2 s2
        have HR := Lib.hid hl
        clear s0 s1 s2 hl
        go_wp2_with fail
        go_ret
        rw [← HR.out]
        exact ⟨HB1.out.mono HBB.out, rfl⟩
end Go.Proofs.YtecpmnkgikcpnaaDoor.HW
namespace Go.Proofs.YtecpmnkgikcpnaaDoor.HW
open Go.RowKit Go.Proofs.YtecpmnkgikcpnaaDoor.Base Go.Proofs.YtecpmnkgikcpnaaDoor.Dp Go.Proofs.YtecpmnkgikcpnaaDoor.DeciW Go.Proofs.YtecpmnkgikcpnaaDoor.Xp Go.Proofs.YtecpmnkgikcpnaaDoor.Hp Go.Proofs.YtecpmnkgikcpnaaDoor.XW

/-- What Holes and File return. -/
def HOut (sh : List Sh) (i e : Nat) (w : World) (en : Ending) (w' : World) : Prop :=
  ∃ v, en = .returned (.tuple #[v, .int .i64 (i : Int), .int .i64 (e : Int)]) ∧ Below w.heap.size w w' ∧ w'.ownsRow w.heap.size 33 10 v sh.length (shsV sh)
theorem hout_nil {i e : Nat} {w w' : World} (hb : Below w.heap.size w w') : HOut [] i e w (.returned (.tuple #[nils, .int .i64 (i : Int), .int .i64 (e : Int)])) w' := ⟨nils, rfl, hb, World.ownsRow_nil _ _ _ _⟩
theorem mach_new (w : World) (bu : Int) : Mach w.heap.size (w.heap.size + 1) w.heap.size 0 (m0 bu) ((w.alloc (.map #[] 0)).alloc (mObj nils w.heap.size (m0 bu))) := by
  have e1 : (w.alloc (.map #[] 0)).heap.size = w.heap.size + 1 := by simp
  refine ⟨by omega, Nat.le_refl _, ⟨nils, ?_, World.ownsRow_nil _ _ _ _⟩, ⟨.map [], (World.ownsMap_made w _ _ _).alloc _, Maps.isMap_empty, fun k => ⟨rfl, rfl⟩⟩, fine0 bu, Int.le_refl _, by show (0 : Int) ≤ 9999; decide⟩
  have h := heap_alloc_new (w.alloc (.map #[] 0)) (mObj nils w.heap.size (m0 bu))
  rwa [e1] at h

theorem thenAt_err {r : Except Nat M} {p q : Int} {k : Nat} (h : thenAt r p q = .error k) : r = .error k := by
  cases r with
  | error e => exact h
  | ok m => cases h
theorem thenHit_err {r : Except Nat M} {p q : Int} {b : Bool} {k : Nat} (h : thenHit r p q b = .error k) : r = .error k := by
  cases r with
  | error e => exact h
  | ok m => cases h
theorem err_inj {a b : Nat} (h : (Except.error a : Except Nat M) = .error b) : a = b := by injection h
theorem again_err : ∀ (j : Nat) {m : M} {p q : Int} {k : Nat}, againN j m p q = .error k → k ≠ 0
  | 0, _, _, _, _, h => by cases h
  | j + 1, m, p, q, k, h => by
    unfold againN at h
    split at h
    · rename_i e he
      have := err_inj h
      rcases add_err he with h1 | h1 <;> omega
    · exact again_err j h
theorem def_err {m : M} {c : D} {k : Nat} (h : defV m c = .error k) : k ≠ 0 := by
  unfold defV at h
  split at h
  · have := err_inj h; omega
  · split at h
    · have := err_inj h; omega
    · split at h
      · have := err_inj h; omega
      · cases h
theorem head_err {m : M} {c : D} {k : Nat} (h : headV m c = .error k) : k ≠ 0 := by
  unfold headV at h
  split at h
  · split at h
    · have := err_inj h; omega
    · cases h
  · split at h
    · exact def_err h
    · split at h
      · split at h
        · have := err_inj h; omega
        · cases h
      · have := err_inj h; omega
theorem cut_err {m : M} {c : D} {k : Nat} (h : cutV m c = .error k) : k ≠ 0 := by
  unfold cutV at h
  split at h
  · have := err_inj h; omega
  · split at h
    · have := err_inj h; omega
    · split at h
      · rcases add_err (thenAt_err h) with h1 | h1 <;> omega
      · cases h
theorem drill_err {m : M} {c : D} {k : Nat} (h : drillV m c = .error k) : k ≠ 0 := by
  unfold drillV at h
  split at h
  · unfold againM at h
    split at h
    · have := err_inj h; omega
    · exact again_err _ h
  · split at h
    · have := err_inj h; omega
    · split at h
      · unfold slotV at h
        split at h
        · have := err_inj h; omega
        · rcases add_err (thenHit_err h) with h1 | h1 <;> omega
      · rcases add_err (thenHit_err h) with h1 | h1 <;> omega
theorem body_err {m : M} {c : D} {k : Nat} (h : bodyV m c = .error k) : k ≠ 0 := by
  unfold bodyV at h
  split at h
  · split at h
    · have := err_inj h; omega
    · cases h
  · split at h
    · cases h
    · split at h
      · cases h
      · split at h
        · split at h
          · have := err_inj h; omega
          · cases h
        · split at h
          · split at h
            · have := err_inj h; omega
            · cases h
          · split at h
            · exact cut_err h
            · split at h
              · split at h
                · have := err_inj h; omega
                · exact drill_err h
              · split at h
                · cases h
                · have := err_inj h; omega
theorem do_err {m : M} {c : D} {k : Nat} (h : doV m c = .error k) : k ≠ 0 := by
  unfold doV at h
  split at h
  · split at h
    · have := err_inj h; omega
    · cases h
  · split at h
    · exact head_err h
    · split at h
      · exact body_err h
      · have := err_inj h; omega

set_option maxRecDepth 100000 in
set_option maxHeartbeats 6400000 in
theorem holes_c (Bn : Nat) (p : Option Addr) (cap : Nat) (l : List (Nat × D)) (hl : l.length ≤ 1000000) (HC : Hid (∀ x ∈ l, Cd x.2)) (w : World) (HD : Hid (DrIn Bn w p l)) (bu : Int) (b0 : -9223372036854775808 ≤ bu) (b1 : bu ≤ 9223372036854775807) (sh : List Sh) (i e : Nat) (hh : Hid (holesV (l.map Prod.snd) bu = (sh, i, e))) :
    Calls Tryd.prog 21 #[.slice p l.length cap, .int .i64 bu] w (HOut sh i e w) := by
  obtain ⟨R, hR⟩ : ∃ R, runV (l.map Prod.snd) 0 (m0 bu) = R := ⟨_, rfl⟩
  have hH := hh.out
  unfold holesV at hH
  rw [hR] at hH
  have HH := Lib.hid hH
  have HM : Hid (Mach w.heap.size (w.heap.size + 1) w.heap.size 0 (m0 bu) ((w.alloc (.map #[] 0)).alloc (.cells #[.slice none 0 0, .int .i64 (max 0 (min bu 100000)), .int .i64 0, .int .i64 0, .int .i64 0, .int .i64 0, .bool false, .map (some w.heap.size), .int .i64 0, .int .i64 0, .int .i64 0, .bool false, .bool false, .bool false] 84))) := mach_new w bu
  have HB : Hid (Below w.heap.size w ((w.alloc (.map #[] 0)).alloc (.cells #[.slice none 0 0, .int .i64 (max 0 (min bu 100000)), .int .i64 0, .int .i64 0, .int .i64 0, .int .i64 0, .bool false, .map (some w.heap.size), .int .i64 0, .int .i64 0, .int .i64 0, .bool false, .bool false, .bool false] 84))) := ((Below.refl _ _).alloc (Nat.le_refl _) _).alloc (by simp) _
  have HR : Hid (runV ((l.map Prod.snd).drop 0) 0 (m0 bu) = R) := hR
  have HLN : Hid ((l.map Prod.snd).length = l.length) := by show _ = _; simp
  have hmm := @run_makeMap Tryd.prog
  clear hh hH hR
  go_enter Tryd.func21, Tryd.ntmps21
  go_upto_region 3 with fail
  generalize ((w.alloc (.map #[] 0)).alloc (.cells #[.slice none 0 0, .int .i64 (max 0 (min bu 100000)), .int .i64 0, .int .i64 0, .int .i64 0, .int .i64 0, .bool false, .map (some w.heap.size), .int .i64 0, .int .i64 0, .int .i64 0, .bool false, .bool false, .bool false] 84)) = W at HM HB ⊢
  clear hmm
  go_loopw [18] (fun iv wx => ∃ (j : Nat) (mm : M) (wy : World), wy = wx ∧ iv = .int .i64 j ∧ j ≤ l.length ∧ Hid (runV ((l.map Prod.snd).drop j) j mm = R) ∧ Hid (Mach w.heap.size (w.heap.size + 1) w.heap.size j mm wy ∧ Below w.heap.size w wy)) (fun iv _ => l.length - (intOf iv).toNat)
  case atStart => exact ⟨0, m0 bu, _, rfl, rfl, Nat.zero_le _, HR.out, HM.out, HB.out⟩
  case round =>
  obtain ⟨j, mm, wx, rfl, rfl, hj, HJ, HA⟩ := hrel
  clear HR HM HB
  by_cases hlt : j < l.length
  · have hlti : (j : Int) < (l.length : Int) := by omega
    obtain ⟨x, hx⟩ : ∃ x, l[j] = x := ⟨_, rfl⟩
    have hdr : (l.map Prod.snd).drop j = x.2 :: (l.map Prod.snd).drop (j + 1) := by
      rw [List.drop_eq_getElem_cons (by simpa using hlt), List.getElem_map, hx]
    have hJ := HJ.out
    rw [hdr] at hJ
    have hCd : Hid (Cd x.2) := HC.out x (by rw [← hx]; exact List.getElem_mem _)
    obtain ⟨bl, ol, rfl, hbl, htl⟩ := (HD.out.below HA.out.2) (by omega)
    obtain ⟨np, nc, ht, hnx⟩ := htl j hlt
    rw [hx] at ht hnx
    have HNX := Lib.hid hnx
    obtain ⟨s0, s1, s2, s3, s4, s5, s6, s7, s8, s9⟩ := ht
    have HBN : Hid (Below w.heap.size w (wx.alloc (.cells #[.int .i64 (x.1 : Int), .int .i64 x.2.k, .int .i64 x.2.n, .bool x.2.on, .string ⟨x.2.t.toArray⟩, .string ⟨x.2.x.toArray⟩, .string ⟨x.2.y.toArray⟩, .string ⟨x.2.u.toArray⟩, .string ⟨x.2.v.toArray⟩, .slice np x.2.nums.length nc] 39))) := HA.out.2.alloc HA.out.2.size _
    have HMN : Hid (Mach w.heap.size (w.heap.size + 1) w.heap.size j mm (wx.alloc (.cells #[.int .i64 (x.1 : Int), .int .i64 x.2.k, .int .i64 x.2.n, .bool x.2.on, .string ⟨x.2.t.toArray⟩, .string ⟨x.2.x.toArray⟩, .string ⟨x.2.y.toArray⟩, .string ⟨x.2.u.toArray⟩, .string ⟨x.2.v.toArray⟩, .slice np x.2.nums.length nc] 39))) := HA.out.1.below ((Below.refl _ _).alloc (Nat.le_refl _) _)
    have HDN : Hid ((wx.alloc (.cells #[.int .i64 (x.1 : Int), .int .i64 x.2.k, .int .i64 x.2.n, .bool x.2.on, .string ⟨x.2.t.toArray⟩, .string ⟨x.2.x.toArray⟩, .string ⟨x.2.y.toArray⟩, .string ⟨x.2.u.toArray⟩, .string ⟨x.2.v.toArray⟩, .slice np x.2.nums.length nc] 39)).heap[wx.heap.size]? = some (.cells #[.int .i64 (x.1 : Int), .int .i64 x.2.k, .int .i64 x.2.n, .bool x.2.on, .string ⟨x.2.t.toArray⟩, .string ⟨x.2.x.toArray⟩, .string ⟨x.2.y.toArray⟩, .string ⟨x.2.u.toArray⟩, .string ⟨x.2.v.toArray⟩, .slice np x.2.nums.length nc] 39)) := heap_alloc_new wx _
    have HNN : Hid (NumsIn Bn (wx.alloc (.cells #[.int .i64 (x.1 : Int), .int .i64 x.2.k, .int .i64 x.2.n, .bool x.2.on, .string ⟨x.2.t.toArray⟩, .string ⟨x.2.x.toArray⟩, .string ⟨x.2.y.toArray⟩, .string ⟨x.2.u.toArray⟩, .string ⟨x.2.v.toArray⟩, .slice np x.2.nums.length nc] 39)) np x.2.nums) := HNX.out.below ((Below.refl _ _).alloc (Nat.le_refl _) _)
    clear hdr htl hnx HJ hx
    go_upto_region 5 with fail
    clear s0 s1 s2 s3 s4 s5 s6 s7 s8 s9
    generalize wx.alloc (.cells #[.int .i64 (x.1 : Int), .int .i64 x.2.k, .int .i64 x.2.n, .bool x.2.on, .string ⟨x.2.t.toArray⟩, .string ⟨x.2.x.toArray⟩, .string ⟨x.2.y.toArray⟩, .string ⟨x.2.u.toArray⟩, .string ⟨x.2.v.toArray⟩, .slice np x.2.nums.length nc] 39) = X at HBN HMN HDN HNN ⊢
    obtain ⟨⟨d0, d1, d2, d3, d4, d5, d6, d7, d8, d9⟩, _⟩ := dr_at HDN.out
    by_cases k1 : x.2.k = 1
    · have k1b : (x.2.k == 1) = true := beq_iff_eq.2 k1
      have HJ2 : Hid (runV ((l.map Prod.snd).drop (j + 1)) (j + 1) mm = R) := by
        show _ = _
        rw [← hJ]
        exact (if_pos k1).symm
      clear hJ k1
      go_wp2_with fail
      go_round
      case rel => exact ⟨j + 1, mm, _, rfl, by go_num, by omega, HJ2.out, HMN.out.mono (Nat.le_succ _), HBN.out⟩
      case measure => simp [intOf]; omega
    · have k1b : (x.2.k == 1) = false := beq_eq_false_iff_ne.2 k1
      obtain ⟨r2, hr2⟩ : ∃ r2, doV mm x.2 = r2 := ⟨_, rfl⟩
      have HR2 := Lib.hid hr2
      have hJ2 : (match doV mm x.2 with | .error e => Except.error (j, e) | .ok m' => runV ((l.map Prod.snd).drop (j + 1)) (j + 1) m') = R := by
        rw [← hJ]
        exact (if_neg k1).symm
      rw [hr2] at hJ2
      clear hJ k1 hr2
      go_wp2_with fail
      refine (do_c w.heap.size (w.heap.size + 1) w.heap.size j mm x.2 hCd (x.1 : Int) np nc Bn X HBN.out.size (by omega) HNN HMN r2 HR2).mono ?_
      cases r2 with
      | error k =>
        have HRE : Hid (R = .error (j, k)) := hJ2.symm
        have hk0 := do_err HR2.out
        have hk0b : ((k : Int) != 0) = true := by rw [bne_iff_ne]; omega
        have hH := HH.out
        rw [HRE.out] at hH
        have HE : Hid (([], j, k) = (sh, i, e)) := hH
        rintro en w4 ⟨hb, rfl⟩
        have HBE := Lib.hid (HBN.out.trans hb)
        clear hb hH hJ2 hk0
        go_wp2_with fail
        go_ret3
        have hE := HE.out
        simp only [Prod.mk.injEq] at hE
        obtain ⟨rfl, rfl, rfl⟩ := hE
        exact hout_nil HBE.out
      | ok m3 =>
        have HJ3 : Hid (runV ((l.map Prod.snd).drop (j + 1)) (j + 1) m3 = R) := hJ2
        rintro en w4 ⟨hb, rfl, hm⟩
        have HBE := Lib.hid (HBN.out.trans hb)
        have HME := Lib.hid hm
        clear hb hm hJ2
        go_wp2_with fail
        go_round
        case rel => exact ⟨j + 1, m3, _, rfl, by go_num, by omega, HJ3.out, HME.out, HBE.out⟩
        case measure => simp [intOf]; omega
  · have hje : (l.map Prod.snd).drop j = [] := by rw [List.drop_eq_nil_iff]; simpa using hlt
    have hlti : ¬ (j : Int) < (l.length : Int) := by omega
    have hJ := HJ.out
    rw [hje] at hJ
    have HRR : Hid (R = .ok mm) := hJ.symm
    have hH := HH.out
    rw [HRR.out] at hH
    obtain ⟨sv, h1, h2⟩ := HA.out.1.cells
    have c0 := (mc_of h1).c0
    have c2 := (mc_of h1).c2
    have HO := Lib.hid h2
    clear hJ hje h1 h2
    by_cases h3 : mm.stage = 3
    · have h3b : (mm.stage != 3) = false := by rw [bne_eq_false_iff_eq]; exact h3
      have HE : Hid ((mm.sh, 0, 0) = (sh, i, e)) := by
        show _ = _
        rw [← hH]
        exact (if_neg (by omega)).symm
      clear hH h3
      go_wp2_with fail
      go_ret3
      have hE := HE.out
      simp only [Prod.mk.injEq] at hE
      obtain ⟨rfl, rfl, rfl⟩ := hE
      exact ⟨_, rfl, HA.out.2, HO.out⟩
    · have h3b : (mm.stage != 3) = true := by rw [bne_iff_ne]; exact h3
      have HE : Hid (([], l.length, 11) = (sh, i, e)) := by
        show _ = _
        rw [← hH, ← HLN.out]
        exact (if_pos h3).symm
      clear hH h3
      go_wp2_with fail
      go_ret3
      have hE := HE.out
      simp only [Prod.mk.injEq] at hE
      obtain ⟨rfl, rfl, rfl⟩ := hE
      exact hout_nil HA.out.2
end Go.Proofs.YtecpmnkgikcpnaaDoor.HW
namespace Go.Proofs.YtecpmnkgikcpnaaDoor.HW
open Go.RowKit Go.Proofs.YtecpmnkgikcpnaaDoor.Base Go.Proofs.YtecpmnkgikcpnaaDoor.Dp Go.Proofs.YtecpmnkgikcpnaaDoor.DeciW Go.Proofs.YtecpmnkgikcpnaaDoor.Xp Go.Proofs.YtecpmnkgikcpnaaDoor.Hp Go.Proofs.YtecpmnkgikcpnaaDoor.XW

theorem own_mono {w : World} {B B' : Nat} {e : TypeId} {sz n : Nat} {v : Value} {xs : List Value} (h : w.ownsRow B e sz v n xs) (hB : B' ≤ B) : w.ownsRow B' e sz v n xs := by
  refine ⟨h.1, ?_⟩
  rcases h.2 with h2 | ⟨g, cap, cur, h1, hb, h3⟩
  · exact .inl h2
  · exact .inr ⟨g, cap, cur, h1, Nat.le_trans hB hb, h3⟩
theorem parse_cd {s : List UInt8} {l : List (Nat × D)} {a : Nat} (h : parseX s = (l, a, 0)) : (∀ x ∈ l, Cd x.2) ∧ l.length ≤ 1000000 := by
  have hb := (parse_ok h).1.1
  obtain ⟨h1, h2, _⟩ := parse_known h
  refine ⟨fun x hx => ?_, by omega⟩
  have o := h1 x hx
  have f := o.fields
  exact ⟨o.n0, o.n1, Nat.le_trans f.2.1 hb, Nat.le_trans f.2.2.1 hb, Nat.le_trans f.2.2.2.1 hb, Nat.le_trans f.2.2.2.2 hb, Nat.le_trans o.nums (by decide), o.z⟩
theorem run_index : ∀ (l : List D) (i : Nat) (m : M) {j k : Nat}, runV l i m = .error (j, k) → i ≤ j ∧ j < i + l.length
  | [], i, m, j, k, h => by cases h
  | c :: l, i, m, j, k, h => by
    unfold runV at h
    split at h
    · have := run_index l (i + 1) m h
      simp; omega
    · split at h
      · injection h with h
        injection h with h1 h2
        simp; omega
      · rename_i m' _
        have := run_index l (i + 1) m' h
        simp; omega
theorem holes_index {l : List D} {b : Int} {sh : List Sh} {i e : Nat} (h : holesV l b = (sh, i, e)) (h0 : e ≠ 0) (h1 : e ≠ 11) : i < l.length := by
  unfold holesV at h
  split at h
  · rename_i j k hr
    have := run_index l 0 _ hr
    simp only [Prod.mk.injEq] at h
    omega
  · split at h
    · simp only [Prod.mk.injEq] at h
      exact absurd h.2.2.symm h1
    · simp only [Prod.mk.injEq] at h
      exact absurd h.2.2.symm h0

set_option maxRecDepth 100000 in
set_option maxHeartbeats 6400000 in
theorem file_c (S : ByteArray) (hs : S.size ≤ maxLen) (bu : Int) (b0 : -9223372036854775808 ≤ bu) (b1 : bu ≤ 9223372036854775807) (w : World) (hM : Hid (MaxIs w)) (sh : List Sh) (i e : Nat) (hh : Hid (fileV S.data.toList bu = (sh, i, e))) :
    Calls Tryd.prog 10 #[.string S, .int .i64 bu] w (HOut sh i e w) := by
  have HSZ := Lib.hid hs
  unfold maxLen at hs
  obtain ⟨l, a, pe, hp⟩ : ∃ l a pe, parseX S.data.toList = (l, a, pe) := ⟨_, _, _, rfl⟩
  have HP := Lib.hid hp
  have hF := hh.out
  unfold fileV at hF
  rw [hp] at hF
  simp only [] at hF
  clear hh hp
  go_enter Tryd.func10, Tryd.ntmps10
  go_wp2_with fail
  refine (parse_c S HSZ.out w hM l a pe HP).mono ?_
  rintro en w1 ⟨v, rfl, hps⟩
  obtain ⟨p, cp, rfl, hd⟩ := hps.reads
  have HB1 := Lib.hid hps.bel
  have HD1 := Lib.hid hd
  clear hps hd
  by_cases h0 : pe = 0
  · subst h0
    have hF2 : (match holesV (l.map Prod.snd) bu with | (h, i, f) => if f = 0 then (h, 0, 0) else if f = 11 then ([], S.data.toList.length, 11) else ([], ((l.map Prod.fst)[i]?).getD 0, f)) = (sh, i, e) := by
      rw [← hF]
      exact (if_neg (by simp)).symm
    obtain ⟨sh2, i2, e2, hh2⟩ : ∃ sh2 i2 e2, holesV (l.map Prod.snd) bu = (sh2, i2, e2) := ⟨_, _, _, rfl⟩
    rw [hh2] at hF2
    simp only [] at hF2
    have HF := Lib.hid hF2
    have HH2 := Lib.hid hh2
    have hcd := parse_cd HP.out
    have HCD := Lib.hid hcd.1
    have hln := hcd.2
    have hz : ((((0 : Nat) : Int)) != 0) = false := by decide
    clear hF hF2 hh2 hcd
    go_wp2_with fail
    refine (holes_c w.heap.size p cp l hln HCD w1 HD1 bu b0 b1 sh2 i2 e2 HH2).mono ?_
    rintro en w2 ⟨v, rfl, hb2, ho2⟩
    have HB2 := Lib.hid (HB1.out.trans (hb2.mono HB1.out.size))
    have HO2 := Lib.hid (own_mono ho2 HB1.out.size)
    have HD2 := Lib.hid (HD1.out.below hb2)
    clear hb2 ho2 HD1 HB1
    by_cases e0 : e2 = 0
    · subst e0
      have HE : Hid ((sh2, 0, 0) = (sh, i, e)) := by show _ = _; rw [← HF.out]; exact (if_pos rfl).symm
      go_wp2_with fail
      go_ret3
      have hE := HE.out
      simp only [Prod.mk.injEq] at hE
      obtain ⟨rfl, rfl, rfl⟩ := hE
      exact ⟨_, rfl, HB2.out, HO2.out⟩
    · have e0b : ((e2 : Int) == 0) = false := by rw [beq_eq_false_iff_ne]; omega
      by_cases e11 : e2 = 11
      · subst e11
        have HE : Hid (([], S.size, 11) = (sh, i, e)) := by show _ = _; rw [← HF.out, len_list]; rfl
        go_wp2_with fail
        go_ret3
        have hE := HE.out
        simp only [Prod.mk.injEq] at hE
        obtain ⟨rfl, rfl, rfl⟩ := hE
        exact hout_nil HB2.out
      · have e11b : ((e2 : Int) == 11) = false := by rw [beq_eq_false_iff_ne]; omega
        have hi2 := holes_index HH2.out e0 e11
        rw [List.length_map] at hi2
        obtain ⟨x, hx⟩ : ∃ x, l[i2] = x := ⟨_, rfl⟩
        have HE : Hid (([], x.1, e2) = (sh, i, e)) := by
          show _ = _
          rw [← HF.out, if_neg e0, if_neg e11, List.getElem?_map, List.getElem?_eq_getElem hi2, hx]
          rfl
        obtain ⟨bl, ol, rfl, hbl, htl⟩ := HD2.out (by omega)
        obtain ⟨np, nc, ht, _⟩ := htl i2 hi2
        rw [hx] at ht
        have s0 := ht.1
        have hi2i : (i2 : Int) < (l.length : Int) := by omega
        clear hx htl ht e0 e11
        go_wp2_with fail
        go_quiet (fail)
        go_wp2_with fail
        go_ret3
        have hE := HE.out
        simp only [Prod.mk.injEq] at hE
        obtain ⟨rfl, rfl, rfl⟩ := hE
        exact hout_nil (below_drewN HB2.out _)
  · have h0b : ((pe : Int) != 0) = true := by rw [bne_iff_ne]; omega
    have HE : Hid (([], a, pe) = (sh, i, e)) := by show _ = _; rw [← hF]; exact (if_pos h0).symm
    clear hF h0
    go_wp2_with fail
    go_ret3
    have hE := HE.out
    simp only [Prod.mk.injEq] at hE
    obtain ⟨rfl, rfl, rfl⟩ := hE
    exact hout_nil HB1.out
end Go.Proofs.YtecpmnkgikcpnaaDoor.HW
namespace Go.Proofs.YtecpmnkgikcpnaaDoor.HW
open Go.RowKit Go.Proofs.YtecpmnkgikcpnaaDoor.Base Go.Proofs.YtecpmnkgikcpnaaDoor.Dp Go.Proofs.YtecpmnkgikcpnaaDoor.DeciW Go.Proofs.YtecpmnkgikcpnaaDoor.Xp Go.Proofs.YtecpmnkgikcpnaaDoor.Hp Go.Proofs.YtecpmnkgikcpnaaDoor.XW

set_option maxHeartbeats 800000 in
theorem pts_nil (w : World) : Calls Tryd.prog 37 #[.slice none 0 0, .slice none 0 0] w fun e w' => e = .returned (.bool true) ∧ w = w' := by
  go_enter Tryd.func37, Tryd.ntmps37
  go_wp2_with fail
  refine wp_loop_rounds 1 ?_
  rw [rounds_succ]
  go_wp2_with fail
  go_ret
  exact ⟨rfl, rfl⟩

set_option maxRecDepth 100000 in
set_option maxHeartbeats 3200000 in
theorem same_eq (k ax ay bx bz cx cy r : Int) (w : World) :
    Calls Tryd.prog 22 #[.agg #[.int .i64 k, .int .i64 ax, .int .i64 ay, .int .i64 bx, .int .i64 bz, .int .i64 cx, .int .i64 cy, .int .i64 r, .slice none 0 0, .slice none 0 0], .agg #[.int .i64 k, .int .i64 ax, .int .i64 ay, .int .i64 bx, .int .i64 bz, .int .i64 cx, .int .i64 cy, .int .i64 r, .slice none 0 0, .slice none 0 0]] w fun e w' => e = .returned (.bool true) ∧ Below w.heap.size w w' := by
  go_enter Tryd.func22, Tryd.ntmps22
  go_wp2_with fail
  refine (pts_nil _).mono ?_
  rintro e w' ⟨rfl, rfl⟩
  go_wp2_with fail
  refine wp_loop_rounds 1 ?_
  rw [rounds_succ]
  go_wp2_with fail
  go_ret
  exact ⟨rfl, ((Below.refl _ _).alloc (Nat.le_refl _) _).alloc (by simp) _⟩
/-- One shape at an address. -/
def OneSh (w : World) (p : Option Addr) (s : Sh) : Prop := ∃ b o, p = some ⟨b, o, none⟩ ∧ b < w.heap.size ∧ ∀ i v, (shCells s)[i]? = some v → w.cell? ⟨b, o + i, none⟩ = some v
theorem OneSh.below {w x : World} {p : Option Addr} {s : Sh} (h : OneSh w p s) (hb : Below w.heap.size w x) : OneSh x p s := by
  obtain ⟨b, o, rfl, hlt, hc⟩ := h
  exact ⟨b, o, rfl, Nat.lt_of_lt_of_le hlt hb.size, fun i v hi => (hb.cell (p := ⟨b, o + i, none⟩) hlt).trans (hc i v hi)⟩
theorem OneSh.of {w : World} {B : Nat} {v : Value} {s : Sh} (h : w.ownsRow B 33 10 v 1 (shsV [s])) : ∃ p cap, v = .slice p 1 cap ∧ OneSh w p s := by
  rcases h.2 with ⟨_, h0⟩ | ⟨g, cap, cur, rfl, hb, hg, _⟩
  · cases h0
  · refine ⟨_, _, rfl, g, 0, rfl, (Array.getElem?_eq_some_iff.1 hg).1, fun i v hi => ?_⟩
    have hil : i < 10 := by
      have := (Array.getElem?_eq_some_iff.1 hi).1
      simpa using this
    rw [Nat.zero_add, h.cellAt i (by omega)]
    show (shsV [s])[i]? = some v
    unfold shsV
    simp only [List.flatMap_cons, List.flatMap_nil, List.append_nil]
    rw [Array.getElem?_toList]
    exact hi
theorem one_cells {w : World} {b o : Nat} {s : Sh} (h : ∀ i v, (shCells s)[i]? = some v → w.cell? ⟨b, o + i, none⟩ = some v) :
    w.cell? ⟨b, o, none⟩ = some (.int .i64 s.k) ∧ w.cell? ⟨b, o + 1, none⟩ = some (.int .i64 s.ax) ∧ w.cell? ⟨b, o + 2, none⟩ = some (.int .i64 s.ay) ∧ w.cell? ⟨b, o + 3, none⟩ = some (.int .i64 s.bx) ∧ w.cell? ⟨b, o + 4, none⟩ = some (.int .i64 s.bz) ∧ w.cell? ⟨b, o + 5, none⟩ = some (.int .i64 s.cx) ∧ w.cell? ⟨b, o + 6, none⟩ = some (.int .i64 s.cy) ∧ w.cell? ⟨b, o + 7, none⟩ = some (.int .i64 s.r) ∧ w.cell? ⟨b, o + 8, none⟩ = some (.slice none 0 0) ∧ w.cell? ⟨b, o + 9, none⟩ = some (.slice none 0 0) :=
  ⟨h 0 _ rfl, h 1 _ rfl, h 2 _ rfl, h 3 _ rfl, h 4 _ rfl, h 5 _ rfl, h 6 _ rfl, h 7 _ rfl, h 8 _ rfl, h 9 _ rfl⟩

set_option maxRecDepth 100000 in
set_option maxHeartbeats 6400000 in
theorem shapes_eq (s : Sh) (p q : Option Addr) (c d : Nat) (w : World) (H1 : Hid (OneSh w p s)) (H2 : Hid (OneSh w q s)) :
    Calls Tryd.prog 12 #[.slice p 1 c, .slice q 1 d] w fun e w' => e = .returned (.bool true) ∧ Below w.heap.size w w' := by
  obtain ⟨b1, o1, rfl, hl1, hc1⟩ := H1.out
  obtain ⟨b2, o2, rfl, hl2, hc2⟩ := H2.out
  obtain ⟨s0, s1, s2, s3, s4, s5, s6, s7, s8, s9⟩ := one_cells hc1
  obtain ⟨t0, t1, t2, t3, t4, t5, t6, t7, t8, t9⟩ := one_cells hc2
  obtain ⟨k, ax, ay, bx, bz, cx, cy, r⟩ := s
  clear hc1 hc2 H1 H2
  go_enter Tryd.func12, Tryd.ntmps12
  go_wp2_with fail
  refine wp_loop_rounds 2 ?_
  rw [rounds_succ]
  go_upto_region 6 with fail
  go_region_law ((go_simp; go_at_call 22; refine (same_eq k ax ay bx bz cx cy r _).mono ?_; rintro e w' ⟨rfl, hb⟩))
  all_goals
    have HB := Lib.hid ((below_drew w).trans hb)
    clear hb s0 s1 s2 s3 s4 s5 s6 s7 s8 s9 t0 t1 t2 t3 t4 t5 t6 t7 t8 t9
    go_wp2_with fail
    rw [rounds_succ]
    go_wp2_with fail
    go_ret
    exact ⟨rfl, HB.out⟩
theorem ret_t {a b : ByteArray} (h : a = b) : Ending.returned (.string a) = .returned (.string b) := by rw [h]
theorem pointed_c (n : Nat) (hn : n ≤ 1000000000) (S : ByteArray) (hS : Hid (S.data.toList = if n % 1000000 = 0 then [46] else [])) (w : World) :
    Calls Tryd.prog 11 #[.int .i64 (n : Int)] w fun e w' => e = .returned (.string S) ∧ w = w' := by
  by_cases h : n % 1000000 = 0
  · have hb : (((n : Int) % 1000000) == 0) = true := by rw [beq_iff_eq]; omega
    have HE : Hid ((⟨#[46]⟩ : ByteArray) = S) := by
      refine str_eq ?_
      rw [hS.out, if_pos h]
    clear hS h
    go_enter Tryd.func11, Tryd.ntmps11
    go_wp2_with fail
    go_ret
    exact ⟨ret_t HE.out, rfl⟩
  · have hb : (((n : Int) % 1000000) == 0) = false := by rw [beq_eq_false_iff_ne]; omega
    have HE : Hid ((⟨#[]⟩ : ByteArray) = S) := by
      refine str_eq ?_
      rw [hS.out, if_neg h]
    clear hS h
    go_enter Tryd.func11, Tryd.ntmps11
    go_wp2_with fail
    go_ret
    exact ⟨ret_t HE.out, rfl⟩
end Go.Proofs.YtecpmnkgikcpnaaDoor.HW
namespace Go.Proofs.YtecpmnkgikcpnaaDoor.HW
open Go.RowKit Go.Proofs.YtecpmnkgikcpnaaDoor.Base Go.Proofs.YtecpmnkgikcpnaaDoor.Dp Go.Proofs.YtecpmnkgikcpnaaDoor.DeciW Go.Proofs.YtecpmnkgikcpnaaDoor.Xp Go.Proofs.YtecpmnkgikcpnaaDoor.Hp Go.Proofs.YtecpmnkgikcpnaaDoor.XW

def u1 : List UInt8 := [77, 52, 56, 10, 77, 69, 84, 82, 73, 67, 44, 76, 90, 10, 84, 49, 67, 48, 46, 56, 10, 37, 10, 84, 49, 10, 88, 48, 48, 49, 89, 50, 46, 53, 10, 82, 50, 88, 49, 46, 10, 77, 51, 48, 10]
def h3 : List Sh := [discS 10000000 25000000 4000000, discS 20000000 25000000 4000000, discS 30000000 25000000 4000000]
theorem v1 : fileV u1 10 = (h3, 0, 0) := by decide +kernel
theorem v2 : fileV [77, 52, 56, 10, 84, 49, 67, 49, 10] 10 = ([], 4, 4) := by decide +kernel
theorem v3 : fileV [77, 52, 56, 10] 10 = ([], 4, 11) := by decide +kernel
theorem row_cells {w : World} {B n : Nat} {v : Value} {xs : List Value} (h : w.ownsRow B 33 10 v (n + 1) xs) : ∃ g cap, v = .slice (some ⟨g, 0, none⟩) (n + 1) cap ∧ ∀ i u, xs[i]? = some u → w.cell? ⟨g, i, none⟩ = some u := by
  rcases h.2 with ⟨_, h0⟩ | ⟨g, cap, cur, rfl, hb, hg, _⟩
  · cases h0
  · refine ⟨g, cap, rfl, fun i u hi => ?_⟩
    rw [h.cellAt i (by have := (List.getElem?_eq_some_iff.1 hi).1; have h1 := h.1; omega)]
    exact hi

set_option maxRecDepth 100000 in
set_option maxHeartbeats 6400000 in
theorem hawake_c (w : World) (hM : Hid (MaxIs w)) : Calls Tryd.prog 13 #[] w fun e w' => e = .returned (.bool true) ∧ Below w.heap.size w w' := by
  go_enter Tryd.func13, Tryd.ntmps13
  go_wp2_with fail
  refine (file_c ⟨#[77, 52, 56, 10, 77, 69, 84, 82, 73, 67, 44, 76, 90, 10, 84, 49, 67, 48, 46, 56, 10, 37, 10, 84, 49, 10, 88, 48, 48, 49, 89, 50, 46, 53, 10, 82, 50, 88, 49, 46, 10, 77, 51, 48, 10]⟩ (by decide) 10 (by omega) (by omega) w hM h3 0 0 (Lib.hid v1)).mono ?_
  rintro en w1 ⟨v, rfl, hb1, ho1⟩
  have HB1 := Lib.hid hb1
  have HM1 := Lib.hid (hM.out.below hb1)
  have HO1 := Lib.hid ho1
  clear hb1 ho1
  go_wp2_with fail
  refine (file_c ⟨#[77, 52, 56, 10, 84, 49, 67, 49, 10]⟩ (by decide) 10 (by omega) (by omega) w1 HM1 [] 4 4 (Lib.hid v2)).mono ?_
  rintro en w2 ⟨va, rfl, hb2, _⟩
  have HB2 := Lib.hid (HB1.out.trans (hb2.mono HB1.out.size))
  have HM2 := Lib.hid (HM1.out.below hb2)
  have HO2 := Lib.hid (row_below HO1.out hb2)
  clear hb2 HB1 HM1 HO1
  go_wp2_with fail
  refine (file_c ⟨#[77, 52, 56, 10]⟩ (by decide) 10 (by omega) (by omega) w2 HM2 [] 4 11 (Lib.hid v3)).mono ?_
  rintro en w3 ⟨vb, rfl, hb3, _⟩
  have HB3 := Lib.hid (HB2.out.trans (hb3.mono HB2.out.size))
  have HO3 := Lib.hid (row_below HO2.out hb3)
  clear hb3 HB2 HM2 HO2
  obtain ⟨g, cap, rfl, hc⟩ := row_cells (n := 2) HO3.out
  have g1 : w3.cell? ⟨g, 1, none⟩ = some (.int .i64 10000000) := hc 1 _ rfl
  have g2 : w3.cell? ⟨g, 2, none⟩ = some (.int .i64 25000000) := hc 2 _ rfl
  have g7 : w3.cell? ⟨g, 7, none⟩ = some (.int .i64 4000000) := hc 7 _ rfl
  have g21 : w3.cell? ⟨g, 21, none⟩ = some (.int .i64 30000000) := hc 21 _ rfl
  have g22 : w3.cell? ⟨g, 22, none⟩ = some (.int .i64 25000000) := hc 22 _ rfl
  clear hc
  go_wp2_with fail
  go_ret
  exact ⟨rfl, HB3.out⟩
end Go.Proofs.YtecpmnkgikcpnaaDoor.HW
