/-
  Blocks that are known, in a row; the walk of the statements' Rat.
-/
import Derived.Test.YtkfjmcdfamhiaaaDoorFl
import Derived.Test.YtkfjmcdfamhiaaaDoorDoW
import Derived.Test.YtkfjmcdfamhiaaaDoorEvalH
namespace Go.Proofs.YtkfjmcdfamhiaaaDoor.ExW
open Go.RowKit Go.Proofs.YtkfjmcdfamhiaaaDoor.Base Go.Proofs.YtkfjmcdfamhiaaaDoor.Dp Go.Proofs.YtkfjmcdfamhiaaaDoor.Fr Go.Proofs.YtkfjmcdfamhiaaaDoor.FrW

/-- What lies in the named blocks; all else below is as it was. -/
def Kn (w0 : World) (L : List (Nat × Obj)) (w : World) : Prop := (∀ p ∈ L, w.heap[p.1]? = some p.2) ∧ Below w0.heap.size w0 w
theorem Kn.bel {w0 w : World} {L : List (Nat × Obj)} (h : Kn w0 L w) : Below w0.heap.size w0 w := h.2
theorem Kn.nil (w : World) : Kn w [] w := ⟨fun _ h => by simp at h, Below.refl _ _⟩
theorem Kn.below {w0 w w' : World} {L : List (Nat × Obj)} (h : Kn w0 L w) (hb : Below w.heap.size w w') : Kn w0 L w' :=
  ⟨fun p hp => one_below (h.1 p hp) hb, h.2.trans (hb.mono h.2.size)⟩
theorem Kn.new {w0 w : World} {L : List (Nat × Obj)} (h : Kn w0 L w) (o : Obj) : Kn w0 ((w.heap.size, o) :: L) (w.alloc o) := by
  refine ⟨fun p hp => ?_, h.2.alloc h.2.size o⟩
  rcases List.mem_cons.1 hp with rfl | hp
  · exact heap_alloc_new w o
  · exact one_below (h.1 p hp) ((Below.refl _ _).alloc (Nat.le_refl _) _)
theorem Kn.drewN {w0 w : World} {L : List (Nat × Obj)} (h : Kn w0 L w) (n : Nat) : Kn w0 L (w.drewN n) := h.below (below_drewN (Below.refl _ _) n)
theorem Kn.get {w0 w : World} {L : List (Nat × Obj)} (h : Kn w0 L w) {b : Nat} {o : Obj} (hm : (b, o) ∈ L) : w.heap[b]? = some o := h.1 _ hm
theorem Kn.less {w0 w : World} {L M : List (Nat × Obj)} (h : Kn w0 L w) (hs : ∀ p ∈ M, p ∈ L) : Kn w0 M w := ⟨fun p hp => h.1 p (hs p hp), h.2⟩

theorem res_fin (w : World) (wb : World) (hb : Below w.heap.size w wb) (hr : wb.heap[w.heap.size]? = some (ratObj 0 0)) (N D : Int) : ∀ x, x = (wb.setCell ⟨w.heap.size, 0, none⟩ (.int .i64 N)).setCell ⟨w.heap.size, 1, none⟩ (.int .i64 D) → x.heap[w.heap.size]? = some (ratObj N D) ∧ Below w.heap.size w x := by
  rintro x rfl
  exact ⟨rat_set hr N D, (hb.setCell (Nat.le_refl _) _).setCell (Nat.le_refl _) _⟩
set_option maxRecDepth 100000 in
set_option maxHeartbeats 1600000 in
theorem lrat_c (a b : Int) (N D : Int) (h : Hid (ratV a b = (N, D))) (w : World) :
    Calls Tryd.prog 13 #[.int .i64 a, .int .i64 b] w fun e w' => e = .returned (ratVal N D) ∧ Below w.heap.size w w' := by
  obtain ⟨x, hx⟩ : ∃ x, a.tmod 1073741825 = x := ⟨_, rfl⟩
  obtain ⟨y, hy⟩ : ∃ y, b.tmod 1073741825 = y := ⟨_, rfl⟩
  obtain ⟨z, hz⟩ : ∃ z, a.tmod 100 = z := ⟨_, rfl⟩
  have hxb := tmod_in a 1073741825 (by decide)
  have hyb := tmod_in b 1073741825 (by decide)
  have hzb := tmod_in a 100 (by decide)
  rw [hx] at hxb
  rw [hy] at hyb
  rw [hz] at hzb
  obtain ⟨p, q, e, hm⟩ : ∃ p q e, makeV x y = (p, q, e) := ⟨_, _, _, rfl⟩
  have HM : Hid (makeV x y = (p, q, e)) := hm
  have HV : Hid ((if q = 0 then (z, 1) else (p, q)) = (N, D)) := by
    show _ = _
    have h' := h.out
    unfold ratV at h'
    rw [hx, hy, hz, hm] at h'
    exact h'
  obtain ⟨x1, x2⟩ := hxb
  obtain ⟨y1, y2⟩ := hyb
  obtain ⟨z1, z2⟩ := hzb
  have K0 : Hid (Kn w [(w.heap.size, ratObj 0 0)] (w.alloc (ratObj 0 0))) := (Kn.nil w).new _
  clear h hm
  go_enter Tryd.func13, Tryd.ntmps13
  go_wp2_with fail
  with_reducible refine (rmake_c x y (by omega) (by omega) (by omega) (by omega) (p, q, e) HM _).mono ?_
  rintro en w1 ⟨rfl, hb⟩
  have K1 := Lib.hid ((K0.out.below hb).new (ratObj p q))
  clear K0 hb
  go_upto_region 2 with fail
  obtain ⟨g, hg⟩ : ∃ g, w1.heap.size = g := ⟨_, rfl⟩
  rw [hg] at K1
  rw [hg]
  generalize w1.alloc (ratObj p q) = W1 at K1 ⊢
  obtain ⟨⟨v0, v1⟩, _⟩ := rat_at (K1.out.get (b := g) (o := ratObj p q) (by simp))
  obtain ⟨_, z0, zz1⟩ := rat_at (K1.out.get (b := w.heap.size) (o := ratObj 0 0) (by simp))
  by_cases hq : q = 0
  · have HE : Hid (N = z ∧ D = 1) := by
      have h := HV.out
      rw [if_pos hq] at h
      exact ⟨(Prod.mk.inj h).1.symm, (Prod.mk.inj h).2.symm⟩
    obtain ⟨rfl, rfl⟩ := HE.out
    subst hq
    have HF : Hid _ := res_fin w W1 K1.out.2 (K1.out.get (b := w.heap.size) (o := ratObj 0 0) (by simp)) N 1 _ rfl
    go_wp2_with fail
    clear v0 v1
    generalize (W1.setCell ⟨w.heap.size, 0, none⟩ (.int .i64 N)).setCell ⟨w.heap.size, 1, none⟩ (.int .i64 1) = WE at HF ⊢
    obtain ⟨⟨r0, r1⟩, _⟩ := rat_at HF.out.1
    exact bodyPost_ret (v := ratVal N 1) (by simp [results, Tryd.results13, go_sem, r0, r1]) rfl ⟨rfl, HF.out.2⟩
  · have HE : Hid (N = p ∧ D = q) := by
      have h := HV.out
      rw [if_neg hq] at h
      exact ⟨(Prod.mk.inj h).1.symm, (Prod.mk.inj h).2.symm⟩
    obtain ⟨rfl, rfl⟩ := HE.out
    have HF : Hid _ := res_fin w W1 K1.out.2 (K1.out.get (b := w.heap.size) (o := ratObj 0 0) (by simp)) N D _ rfl
    go_wp2_with fail
    clear v0 v1
    generalize (W1.setCell ⟨w.heap.size, 0, none⟩ (.int .i64 N)).setCell ⟨w.heap.size, 1, none⟩ (.int .i64 D) = WE at HF ⊢
    obtain ⟨⟨r0, r1⟩, _⟩ := rat_at HF.out.1
    exact bodyPost_ret (v := ratVal N D) (by simp [results, Tryd.results13, go_sem, r0, r1]) rfl ⟨rfl, HF.out.2⟩
end Go.Proofs.YtkfjmcdfamhiaaaDoor.ExW
