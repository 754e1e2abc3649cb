/-
  The walks of expr.inside and expr.pair.
-/
import Derived.Test.YtkfjmcdfamhiaaaDoorTx
import Derived.Test.YtkfjmcdfamhiaaaDoorOpW
import Derived.Deep.RegionHeld3
import Derived.Deep.DrawnRows
import Derived.Deep.RegionLaw
namespace Go.Proofs.YtkfjmcdfamhiaaaDoor.TxW
open Go.RowKit Go.Proofs.YtkfjmcdfamhiaaaDoor.Base Go.Proofs.YtkfjmcdfamhiaaaDoor.Dp Go.Proofs.YtkfjmcdfamhiaaaDoor.Tx Go.Proofs.YtkfjmcdfamhiaaaDoor.FrW

abbrev pcVal (S : ByteArray) (r d : Int) : Value := .agg #[.string S, .int .i64 r, .int .i64 d]
abbrev pcObj (S : ByteArray) (r d : Int) : Obj := .cells #[.string S, .int .i64 r, .int .i64 d] 59
theorem pc_at {w : World} {b : Nat} {S : ByteArray} {r d : Int} (h : w.heap[b]? = some (pcObj S r d)) : (w.cell? ⟨b, 0, none⟩ = some (.string S) ∧ w.cell? ⟨b, 1, none⟩ = some (.int .i64 r) ∧ w.cell? ⟨b, 2, none⟩ = some (.int .i64 d)) ∧ w.frozen? ⟨b, 0, none⟩ = false ∧ w.frozen? ⟨b, 1, none⟩ = false ∧ w.frozen? ⟨b, 2, none⟩ = false := by
  refine ⟨⟨?_, ?_, ?_⟩, ?_, ?_, ?_⟩ <;> simp [World.cell?, World.frozen?, h]
/-- A piece in new memory. -/
def PcOut (S : ByteArray) (r d : Int) (w : World) (e : Ending) (w' : World) : Prop := e = .returned (pcVal S r d) ∧ Below w.heap.size w w'

theorem inside_size {S T : ByteArray} {r d least r' d' : Int} (h : insideV (S.data.toList, r, d) least = (T.data.toList, r', d')) : T.size ≤ S.size + 2 := by
  unfold insideV at h
  split at h
  · simp only [Prod.mk.injEq] at h
    rw [str_eq h.1]; omega
  · simp only [Prod.mk.injEq] at h
    have := congrArg List.length h.1
    rw [len_list] at this
    simp at this
    omega
theorem pc_fin (w : World) (o : Obj) (S : ByteArray) (r d : Int) : ∀ v, v = (w.alloc o).alloc (pcObj S r d) → v.heap[w.heap.size + 1]? = some (pcObj S r d) ∧ Below w.heap.size w v := by
  rintro v rfl
  refine ⟨?_, ((Below.refl _ _).alloc (Nat.le_refl _) _).alloc (by simp) _⟩
  show ((w.alloc o).heap.push _)[_]? = _
  rw [Array.getElem?_push, if_pos (by simp)]
set_option maxHeartbeats 800000 in
theorem inside_c (S T : ByteArray) (r d least r' d' : Int) (hS : S.size ≤ 100000) (hd0 : 0 ≤ d) (hd1 : d ≤ 100000) (h : Hid (insideV (S.data.toList, r, d) least = (T.data.toList, r', d'))) (w : World) :
    Calls Tryd.prog 25 #[pcVal S r d, .int .i64 least] w (PcOut T r' d' w) := by
  have h' := h.out
  unfold insideV at h'
  by_cases hl : least ≤ r
  · rw [if_pos hl] at h'
    simp only [Prod.mk.injEq] at h'
    obtain ⟨h1, h2, h3⟩ := h'
    obtain rfl := str_eq h1
    subst h2
    subst h3
    clear h h1
    have HF : Hid _ := pc_fin w (pcObj S r d) S r d _ rfl
    go_enter Tryd.func25, Tryd.ntmps25
    go_wp2_with fail
    generalize (w.alloc (pcObj S r d)).alloc (pcObj S r d) = WE at HF ⊢
    obtain ⟨⟨c0, c1, c2⟩, _⟩ := pc_at HF.out.1
    exact bodyPost_ret (v := pcVal S r d) (by simp [results, Tryd.results25, go_sem, c0, c1, c2]) rfl ⟨rfl, HF.out.2⟩
  · rw [if_neg hl] at h'
    simp only [Prod.mk.injEq] at h'
    obtain ⟨h1, h2, h3⟩ := h'
    subst h2
    have HT : Hid (T.data.toList = 40 :: (S.data.toList ++ [41])) := h1.symm
    have HD : Hid (d' = d + 1) := h3.symm
    clear h h1 h3
    have HF : Hid _ := pc_fin w (pcObj S r d) ((⟨#[40]⟩ : ByteArray) ++ S ++ ⟨#[41]⟩) 3 (d + 1) _ rfl
    go_enter Tryd.func25, Tryd.ntmps25
    go_wp2_with fail
    generalize (w.alloc (pcObj S r d)).alloc (pcObj ((⟨#[40]⟩ : ByteArray) ++ S ++ ⟨#[41]⟩) 3 (d + 1)) = WE at HF ⊢
    obtain ⟨⟨c0, c1, c2⟩, _⟩ := pc_at HF.out.1
    have HS : Hid (((⟨#[40]⟩ : ByteArray) ++ S ++ ⟨#[41]⟩) = T) := str_eq (by rw [HT.out, app_list, app_list]; rfl)
    exact bodyPost_ret (v := pcVal ((⟨#[40]⟩ : ByteArray) ++ S ++ ⟨#[41]⟩) 3 (d + 1)) (by simp [results, Tryd.results25, go_sem, c0, c1, c2]) rfl ⟨by rw [HS.out, HD.out], HF.out.2⟩

attribute [local go_sem ↓] Go.wp_at_zero Go.wp_at_succ
/-- The two operands and the result in memory. -/
structure PrAt (w0 : World) (S : ByteArray) (r d : Int) (T : ByteArray) (q e : Int) (w : World) : Prop where
  a : w.heap[w0.heap.size]? = some (pcObj S r d)
  b : w.heap[w0.heap.size + 1]? = some (pcObj T q e)
  r : w.heap[w0.heap.size + 2]? = some (pcObj ⟨#[]⟩ 0 0)
  bel : Below w0.heap.size w0 w
theorem PrAt.below {w0 w w' : World} {S T : ByteArray} {r d q e : Int} (h : PrAt w0 S r d T q e w) (hb : Below w.heap.size w w') : PrAt w0 S r d T q e w' :=
  ⟨(hb.block _ (Array.getElem?_eq_some_iff.1 h.a).1).trans h.a, (hb.block _ (Array.getElem?_eq_some_iff.1 h.b).1).trans h.b, (hb.block _ (Array.getElem?_eq_some_iff.1 h.r).1).trans h.r, h.bel.trans (hb.mono h.bel.size)⟩
theorem prAt_new (w : World) (S : ByteArray) (r d : Int) (T : ByteArray) (q e : Int) : PrAt w S r d T q e (((w.alloc (pcObj S r d)).alloc (pcObj T q e)).alloc (pcObj ⟨#[]⟩ 0 0)) := by
  refine ⟨?_, ?_, ?_, ?_⟩
  · rw [Below.heap_alloc _ _ _ (by simp; omega), Below.heap_alloc _ _ _ (by simp)]; show (w.heap.push _)[w.heap.size]? = _; simp
  · rw [Below.heap_alloc _ _ _ (by simp)]; show ((w.alloc (pcObj S r d)).heap.push _)[_]? = _; rw [Array.getElem?_push, if_pos (by simp)]
  · show (((w.alloc (pcObj S r d)).alloc (pcObj T q e)).heap.push _)[_]? = _; rw [Array.getElem?_push, if_pos (by simp)]
  · exact (((Below.refl _ _).alloc (Nat.le_refl _) _).alloc (by simp) _).alloc (by simp; omega) _

theorem PrAt.set {w0 w : World} {S T : ByteArray} {r d q e : Int} (h : PrAt w0 S r d T q e w) (S1 : ByteArray) (r1 d1 : Int) (T1 : ByteArray) (q1 e1 : Int) : ∀ v, v = ((((((w.setCell ⟨w0.heap.size, 0, none⟩ (.string S1)).setCell ⟨w0.heap.size, 1, none⟩ (.int .i64 r1)).setCell ⟨w0.heap.size, 2, none⟩ (.int .i64 d1)).setCell ⟨w0.heap.size + 1, 0, none⟩ (.string T1)).setCell ⟨w0.heap.size + 1, 1, none⟩ (.int .i64 q1)).setCell ⟨w0.heap.size + 1, 2, none⟩ (.int .i64 e1)) → PrAt w0 S1 r1 d1 T1 q1 e1 v := by
  rintro v rfl
  have ha := heap_set (heap_set (heap_set h.a 0 (.string S1)) 1 (.int .i64 r1)) 2 (.int .i64 d1)
  have hb : (((w.setCell ⟨w0.heap.size, 0, none⟩ (.string S1)).setCell ⟨w0.heap.size, 1, none⟩ (.int .i64 r1)).setCell ⟨w0.heap.size, 2, none⟩ (.int .i64 d1)).heap[w0.heap.size + 1]? = some (pcObj T q e) := by
    rw [Below.heap_setCell _ _ _ _ (by show _ ≠ _; simp), Below.heap_setCell _ _ _ _ (by show _ ≠ _; simp), Below.heap_setCell _ _ _ _ (by show _ ≠ _; simp)]
    exact h.b
  refine ⟨?_, heap_set (heap_set (heap_set hb 0 (.string T1)) 1 (.int .i64 q1)) 2 (.int .i64 e1), ?_, ?_⟩
  · rw [Below.heap_setCell _ _ _ _ (by show _ ≠ _; simp), Below.heap_setCell _ _ _ _ (by show _ ≠ _; simp), Below.heap_setCell _ _ _ _ (by show _ ≠ _; simp)]
    exact ha
  · rw [Below.heap_setCell _ _ _ _ (by show _ ≠ _; simp), Below.heap_setCell _ _ _ _ (by show _ ≠ _; simp), Below.heap_setCell _ _ _ _ (by show _ ≠ _; simp), Below.heap_setCell _ _ _ _ (by show _ ≠ _; simp), Below.heap_setCell _ _ _ _ (by show _ ≠ _; simp), Below.heap_setCell _ _ _ _ (by show _ ≠ _; simp)]
    exact h.r
  · exact (((((h.bel.setCell (Nat.le_refl _) _).setCell (Nat.le_refl _) _).setCell (Nat.le_refl _) _).setCell (by show _ ≤ _ + 1; omega) _).setCell (by show _ ≤ _ + 1; omega) _).setCell (by show _ ≤ _ + 1; omega) _
theorem PrAt.fin {w0 w : World} {S T : ByteArray} {r d q e : Int} (h : PrAt w0 S r d T q e w) (S1 : ByteArray) (r1 d1 : Int) : ∀ v, v = (((w.setCell ⟨w0.heap.size + 2, 0, none⟩ (.string S1)).setCell ⟨w0.heap.size + 2, 1, none⟩ (.int .i64 r1)).setCell ⟨w0.heap.size + 2, 2, none⟩ (.int .i64 d1)) → v.heap[w0.heap.size + 2]? = some (pcObj S1 r1 d1) ∧ Below w0.heap.size w0 v := by
  rintro v rfl
  exact ⟨heap_set (heap_set (heap_set h.r 0 (.string S1)) 1 (.int .i64 r1)) 2 (.int .i64 d1), ((h.bel.setCell (by show _ ≤ _ + 2; omega) _).setCell (by show _ ≤ _ + 2; omega) _).setCell (by show _ ≤ _ + 2; omega) _⟩

set_option maxRecDepth 100000 in
set_option maxHeartbeats 3200000 in
theorem pair_add (S T : ByteArray) (r d q e : Int) (S1 T1 : ByteArray) (r1 d1 q1 e1 : Int) (hS : S.size ≤ 100000) (hT : T.size ≤ 100000) (hd0 : 0 ≤ d) (hd1 : d ≤ 100000) (he0 : 0 ≤ e) (he1 : e ≤ 100000) (ha : Hid (insideV (S.data.toList, r, d) 1 = (S1.data.toList, r1, d1))) (hb : Hid (insideV (T.data.toList, q, e) 2 = (T1.data.toList, q1, e1))) (w : World) :
    Calls Tryd.prog 26 #[.int .i64 3, pcVal S r d, pcVal T q e] w (PcOut (S1 ++ ⟨#[43]⟩ ++ T1) 0 (max d1 e1) w) := by
  have hS1 := inside_size ha.out
  have hT1 := inside_size hb.out
  have A1 : Hid (PrAt w S r d T q e _) := prAt_new w S r d T q e
  go_enter Tryd.func26, Tryd.ntmps26
  go_upto_region 9 with fail
  generalize ((w.alloc (pcObj S r d)).alloc (pcObj T q e)).alloc (pcObj ⟨#[]⟩ 0 0) = W1 at A1 ⊢
  obtain ⟨⟨a0, a1, a2⟩, y0, y1, y2⟩ := pc_at A1.out.a
  obtain ⟨⟨b0, b1, b2⟩, z0, z1, z2⟩ := pc_at A1.out.b
  have HR1 : Hid (FrW.rk 3 = 1) := rfl
  have hw2 : IntKind.i64.wrap (2 : Int) = 2 := by decide
  have A1' : Hid (PrAt w S r d T q e W1.drew) := A1.out.below ⟨rfl, rfl, rfl, Nat.le_refl _, fun _ _ => rfl⟩
  go_region_law (first
    | (go_simp; go_at_call 27; (with_reducible refine (rank_c 3 1 HR1 _).mono ?_); rintro en w' ⟨rfl, rfl⟩)
    | (go_simp; go_at_call 25; first | ((with_reducible refine (inside_c S S1 r d 1 r1 d1 hS hd0 hd1 ha _).mono ?_); rintro en w2 ⟨rfl, hb2⟩; have A2 := Lib.hid (A1'.out.below hb2); obtain ⟨⟨b0', b1', b2'⟩, z0', z1', z2'⟩ := pc_at A2.out.b) | ((with_reducible refine (inside_c T T1 q e 2 q1 e1 hT he0 he1 hb _).mono ?_); rintro en w3 ⟨rfl, hb3⟩; have A3 := Lib.hid (A2.out.below hb3); obtain ⟨⟨a0', a1', a2'⟩, x0', x1', x2'⟩ := pc_at A3.out.a; obtain ⟨⟨b0', b1', b2'⟩, z0', z1', z2'⟩ := pc_at A3.out.b)))
  all_goals
    have A4 : Hid _ := A3.out.set S1 r1 d1 T1 q1 e1 _ rfl
    clear A1 A1' A2 A3 a0 a1 a2 y0 y1 y2 b0 b1 b2 z0 z1 z2
    clear a0' a1' a2' x0' x1' x2' b0' b1' b2' z0' z1' z2'
    generalize ((((((w3.setCell ⟨w.heap.size, 0, none⟩ (.string S1)).setCell ⟨w.heap.size, 1, none⟩ (.int .i64 r1)).setCell ⟨w.heap.size, 2, none⟩ (.int .i64 d1)).setCell ⟨w.heap.size + 1, 0, none⟩ (.string T1)).setCell ⟨w.heap.size + 1, 1, none⟩ (.int .i64 q1)).setCell ⟨w.heap.size + 1, 2, none⟩ (.int .i64 e1)) = W4 at A4 ⊢
    obtain ⟨⟨a0, a1, a2⟩, _⟩ := pc_at A4.out.a
    obtain ⟨⟨b0, b1, b2⟩, _⟩ := pc_at A4.out.b
    obtain ⟨⟨c0, c1, c2⟩, z0, z1, z2⟩ := pc_at A4.out.r
    have HF : Hid _ := A4.out.fin (S1 ++ ⟨#[43]⟩ ++ T1) 0 (max d1 e1) _ rfl
    go_wp2_with fail
    generalize (((W4.setCell ⟨w.heap.size + 2, 0, none⟩ (.string (S1 ++ ⟨#[43]⟩ ++ T1))).setCell ⟨w.heap.size + 2, 1, none⟩ (.int .i64 0)).setCell ⟨w.heap.size + 2, 2, none⟩ (.int .i64 (max d1 e1))) = WE at HF ⊢
    clear a0 a1 a2 b0 b1 b2 c0 c1 c2 z0 z1 z2
    obtain ⟨⟨r0, r1', r2⟩, _⟩ := pc_at HF.out.1
    exact bodyPost_ret (v := pcVal (S1 ++ ⟨#[43]⟩ ++ T1) 0 (max d1 e1)) (by simp [results, Tryd.results26, go_sem, r0, r1', r2]) rfl ⟨rfl, HF.out.2⟩

set_option maxRecDepth 100000 in
set_option maxHeartbeats 3200000 in
theorem pair_sub (S T : ByteArray) (r d q e : Int) (S1 T1 : ByteArray) (r1 d1 q1 e1 : Int) (hS : S.size ≤ 100000) (hT : T.size ≤ 100000) (hd0 : 0 ≤ d) (hd1 : d ≤ 100000) (he0 : 0 ≤ e) (he1 : e ≤ 100000) (ha : Hid (insideV (S.data.toList, r, d) 1 = (S1.data.toList, r1, d1))) (hb : Hid (insideV (T.data.toList, q, e) 2 = (T1.data.toList, q1, e1))) (w : World) :
    Calls Tryd.prog 26 #[.int .i64 4, pcVal S r d, pcVal T q e] w (PcOut (S1 ++ ⟨#[45]⟩ ++ T1) 0 (max d1 e1) w) := by
  have hS1 := inside_size ha.out
  have hT1 := inside_size hb.out
  have A1 : Hid (PrAt w S r d T q e _) := prAt_new w S r d T q e
  go_enter Tryd.func26, Tryd.ntmps26
  go_upto_region 9 with fail
  generalize ((w.alloc (pcObj S r d)).alloc (pcObj T q e)).alloc (pcObj ⟨#[]⟩ 0 0) = W1 at A1 ⊢
  obtain ⟨⟨a0, a1, a2⟩, y0, y1, y2⟩ := pc_at A1.out.a
  obtain ⟨⟨b0, b1, b2⟩, z0, z1, z2⟩ := pc_at A1.out.b
  have HR1 : Hid (FrW.rk 4 = 1) := rfl
  have hw2 : IntKind.i64.wrap (2 : Int) = 2 := by decide
  have A1' : Hid (PrAt w S r d T q e W1.drew) := A1.out.below ⟨rfl, rfl, rfl, Nat.le_refl _, fun _ _ => rfl⟩
  go_region_law (first
    | (go_simp; go_at_call 27; (with_reducible refine (rank_c 4 1 HR1 _).mono ?_); rintro en w' ⟨rfl, rfl⟩)
    | (go_simp; go_at_call 25; first | ((with_reducible refine (inside_c S S1 r d 1 r1 d1 hS hd0 hd1 ha _).mono ?_); rintro en w2 ⟨rfl, hb2⟩; have A2 := Lib.hid (A1'.out.below hb2); obtain ⟨⟨b0', b1', b2'⟩, z0', z1', z2'⟩ := pc_at A2.out.b) | ((with_reducible refine (inside_c T T1 q e 2 q1 e1 hT he0 he1 hb _).mono ?_); rintro en w3 ⟨rfl, hb3⟩; have A3 := Lib.hid (A2.out.below hb3); obtain ⟨⟨a0', a1', a2'⟩, x0', x1', x2'⟩ := pc_at A3.out.a; obtain ⟨⟨b0', b1', b2'⟩, z0', z1', z2'⟩ := pc_at A3.out.b)))
  all_goals
    have A4 : Hid _ := A3.out.set S1 r1 d1 T1 q1 e1 _ rfl
    clear A1 A1' A2 A3 a0 a1 a2 y0 y1 y2 b0 b1 b2 z0 z1 z2
    clear a0' a1' a2' x0' x1' x2' b0' b1' b2' z0' z1' z2'
    generalize ((((((w3.setCell ⟨w.heap.size, 0, none⟩ (.string S1)).setCell ⟨w.heap.size, 1, none⟩ (.int .i64 r1)).setCell ⟨w.heap.size, 2, none⟩ (.int .i64 d1)).setCell ⟨w.heap.size + 1, 0, none⟩ (.string T1)).setCell ⟨w.heap.size + 1, 1, none⟩ (.int .i64 q1)).setCell ⟨w.heap.size + 1, 2, none⟩ (.int .i64 e1)) = W4 at A4 ⊢
    obtain ⟨⟨a0, a1, a2⟩, _⟩ := pc_at A4.out.a
    obtain ⟨⟨b0, b1, b2⟩, _⟩ := pc_at A4.out.b
    obtain ⟨⟨c0, c1, c2⟩, z0, z1, z2⟩ := pc_at A4.out.r
    have HF : Hid _ := A4.out.fin (S1 ++ ⟨#[45]⟩ ++ T1) 0 (max d1 e1) _ rfl
    go_wp2_with fail
    generalize (((W4.setCell ⟨w.heap.size + 2, 0, none⟩ (.string (S1 ++ ⟨#[45]⟩ ++ T1))).setCell ⟨w.heap.size + 2, 1, none⟩ (.int .i64 0)).setCell ⟨w.heap.size + 2, 2, none⟩ (.int .i64 (max d1 e1))) = WE at HF ⊢
    clear a0 a1 a2 b0 b1 b2 c0 c1 c2 z0 z1 z2
    obtain ⟨⟨r0, r1', r2⟩, _⟩ := pc_at HF.out.1
    exact bodyPost_ret (v := pcVal (S1 ++ ⟨#[45]⟩ ++ T1) 0 (max d1 e1)) (by simp [results, Tryd.results26, go_sem, r0, r1', r2]) rfl ⟨rfl, HF.out.2⟩

set_option maxRecDepth 100000 in
set_option maxHeartbeats 3200000 in
theorem pair_mul (S T : ByteArray) (r d q e : Int) (S1 T1 : ByteArray) (r1 d1 q1 e1 : Int) (hS : S.size ≤ 100000) (hT : T.size ≤ 100000) (hd0 : 0 ≤ d) (hd1 : d ≤ 100000) (he0 : 0 ≤ e) (he1 : e ≤ 100000) (ha : Hid (insideV (S.data.toList, r, d) 2 = (S1.data.toList, r1, d1))) (hb : Hid (insideV (T.data.toList, q, e) 3 = (T1.data.toList, q1, e1))) (w : World) :
    Calls Tryd.prog 26 #[.int .i64 5, pcVal S r d, pcVal T q e] w (PcOut (S1 ++ ⟨#[120]⟩ ++ T1) 0 (max d1 e1) w) := by
  have hS1 := inside_size ha.out
  have hT1 := inside_size hb.out
  have A1 : Hid (PrAt w S r d T q e _) := prAt_new w S r d T q e
  go_enter Tryd.func26, Tryd.ntmps26
  go_upto_region 9 with fail
  generalize ((w.alloc (pcObj S r d)).alloc (pcObj T q e)).alloc (pcObj ⟨#[]⟩ 0 0) = W1 at A1 ⊢
  obtain ⟨⟨a0, a1, a2⟩, y0, y1, y2⟩ := pc_at A1.out.a
  obtain ⟨⟨b0, b1, b2⟩, z0, z1, z2⟩ := pc_at A1.out.b
  have HR1 : Hid (FrW.rk 5 = 2) := rfl
  have hw2 : IntKind.i64.wrap (3 : Int) = 3 := by decide
  have A1' : Hid (PrAt w S r d T q e W1.drew) := A1.out.below ⟨rfl, rfl, rfl, Nat.le_refl _, fun _ _ => rfl⟩
  go_region_law (first
    | (go_simp; go_at_call 27; (with_reducible refine (rank_c 5 2 HR1 _).mono ?_); rintro en w' ⟨rfl, rfl⟩)
    | (go_simp; go_at_call 25; first | ((with_reducible refine (inside_c S S1 r d 2 r1 d1 hS hd0 hd1 ha _).mono ?_); rintro en w2 ⟨rfl, hb2⟩; have A2 := Lib.hid (A1'.out.below hb2); obtain ⟨⟨b0', b1', b2'⟩, z0', z1', z2'⟩ := pc_at A2.out.b) | ((with_reducible refine (inside_c T T1 q e 3 q1 e1 hT he0 he1 hb _).mono ?_); rintro en w3 ⟨rfl, hb3⟩; have A3 := Lib.hid (A2.out.below hb3); obtain ⟨⟨a0', a1', a2'⟩, x0', x1', x2'⟩ := pc_at A3.out.a; obtain ⟨⟨b0', b1', b2'⟩, z0', z1', z2'⟩ := pc_at A3.out.b)))
  all_goals
    have A4 : Hid _ := A3.out.set S1 r1 d1 T1 q1 e1 _ rfl
    clear A1 A1' A2 A3 a0 a1 a2 y0 y1 y2 b0 b1 b2 z0 z1 z2
    clear a0' a1' a2' x0' x1' x2' b0' b1' b2' z0' z1' z2'
    generalize ((((((w3.setCell ⟨w.heap.size, 0, none⟩ (.string S1)).setCell ⟨w.heap.size, 1, none⟩ (.int .i64 r1)).setCell ⟨w.heap.size, 2, none⟩ (.int .i64 d1)).setCell ⟨w.heap.size + 1, 0, none⟩ (.string T1)).setCell ⟨w.heap.size + 1, 1, none⟩ (.int .i64 q1)).setCell ⟨w.heap.size + 1, 2, none⟩ (.int .i64 e1)) = W4 at A4 ⊢
    obtain ⟨⟨a0, a1, a2⟩, _⟩ := pc_at A4.out.a
    obtain ⟨⟨b0, b1, b2⟩, _⟩ := pc_at A4.out.b
    obtain ⟨⟨c0, c1, c2⟩, z0, z1, z2⟩ := pc_at A4.out.r
    have HF : Hid _ := A4.out.fin (S1 ++ ⟨#[120]⟩ ++ T1) 0 (max d1 e1) _ rfl
    go_wp2_with fail
    generalize (((W4.setCell ⟨w.heap.size + 2, 0, none⟩ (.string (S1 ++ ⟨#[120]⟩ ++ T1))).setCell ⟨w.heap.size + 2, 1, none⟩ (.int .i64 0)).setCell ⟨w.heap.size + 2, 2, none⟩ (.int .i64 (max d1 e1))) = WE at HF ⊢
    clear a0 a1 a2 b0 b1 b2 c0 c1 c2 z0 z1 z2
    obtain ⟨⟨r0, r1', r2⟩, _⟩ := pc_at HF.out.1
    exact bodyPost_ret (v := pcVal (S1 ++ ⟨#[120]⟩ ++ T1) 0 (max d1 e1)) (by simp [results, Tryd.results26, go_sem, r0, r1', r2]) rfl ⟨rfl, HF.out.2⟩

set_option maxRecDepth 100000 in
set_option maxHeartbeats 3200000 in
theorem pair_div (S T : ByteArray) (r d q e : Int) (S1 T1 : ByteArray) (r1 d1 q1 e1 : Int) (hS : S.size ≤ 100000) (hT : T.size ≤ 100000) (hd0 : 0 ≤ d) (hd1 : d ≤ 100000) (he0 : 0 ≤ e) (he1 : e ≤ 100000) (ha : Hid (insideV (S.data.toList, r, d) 2 = (S1.data.toList, r1, d1))) (hb : Hid (insideV (T.data.toList, q, e) 3 = (T1.data.toList, q1, e1))) (w : World) :
    Calls Tryd.prog 26 #[.int .i64 6, pcVal S r d, pcVal T q e] w (PcOut (S1 ++ ⟨#[47]⟩ ++ T1) 0 (max d1 e1) w) := by
  have hS1 := inside_size ha.out
  have hT1 := inside_size hb.out
  have A1 : Hid (PrAt w S r d T q e _) := prAt_new w S r d T q e
  go_enter Tryd.func26, Tryd.ntmps26
  go_upto_region 9 with fail
  generalize ((w.alloc (pcObj S r d)).alloc (pcObj T q e)).alloc (pcObj ⟨#[]⟩ 0 0) = W1 at A1 ⊢
  obtain ⟨⟨a0, a1, a2⟩, y0, y1, y2⟩ := pc_at A1.out.a
  obtain ⟨⟨b0, b1, b2⟩, z0, z1, z2⟩ := pc_at A1.out.b
  have HR1 : Hid (FrW.rk 6 = 2) := rfl
  have hw2 : IntKind.i64.wrap (3 : Int) = 3 := by decide
  have A1' : Hid (PrAt w S r d T q e W1.drew) := A1.out.below ⟨rfl, rfl, rfl, Nat.le_refl _, fun _ _ => rfl⟩
  go_region_law (first
    | (go_simp; go_at_call 27; (with_reducible refine (rank_c 6 2 HR1 _).mono ?_); rintro en w' ⟨rfl, rfl⟩)
    | (go_simp; go_at_call 25; first | ((with_reducible refine (inside_c S S1 r d 2 r1 d1 hS hd0 hd1 ha _).mono ?_); rintro en w2 ⟨rfl, hb2⟩; have A2 := Lib.hid (A1'.out.below hb2); obtain ⟨⟨b0', b1', b2'⟩, z0', z1', z2'⟩ := pc_at A2.out.b) | ((with_reducible refine (inside_c T T1 q e 3 q1 e1 hT he0 he1 hb _).mono ?_); rintro en w3 ⟨rfl, hb3⟩; have A3 := Lib.hid (A2.out.below hb3); obtain ⟨⟨a0', a1', a2'⟩, x0', x1', x2'⟩ := pc_at A3.out.a; obtain ⟨⟨b0', b1', b2'⟩, z0', z1', z2'⟩ := pc_at A3.out.b)))
  all_goals
    have A4 : Hid _ := A3.out.set S1 r1 d1 T1 q1 e1 _ rfl
    clear A1 A1' A2 A3 a0 a1 a2 y0 y1 y2 b0 b1 b2 z0 z1 z2
    clear a0' a1' a2' x0' x1' x2' b0' b1' b2' z0' z1' z2'
    generalize ((((((w3.setCell ⟨w.heap.size, 0, none⟩ (.string S1)).setCell ⟨w.heap.size, 1, none⟩ (.int .i64 r1)).setCell ⟨w.heap.size, 2, none⟩ (.int .i64 d1)).setCell ⟨w.heap.size + 1, 0, none⟩ (.string T1)).setCell ⟨w.heap.size + 1, 1, none⟩ (.int .i64 q1)).setCell ⟨w.heap.size + 1, 2, none⟩ (.int .i64 e1)) = W4 at A4 ⊢
    obtain ⟨⟨a0, a1, a2⟩, _⟩ := pc_at A4.out.a
    obtain ⟨⟨b0, b1, b2⟩, _⟩ := pc_at A4.out.b
    obtain ⟨⟨c0, c1, c2⟩, z0, z1, z2⟩ := pc_at A4.out.r
    have HF : Hid _ := A4.out.fin (S1 ++ ⟨#[47]⟩ ++ T1) 0 (max d1 e1) _ rfl
    go_wp2_with fail
    generalize (((W4.setCell ⟨w.heap.size + 2, 0, none⟩ (.string (S1 ++ ⟨#[47]⟩ ++ T1))).setCell ⟨w.heap.size + 2, 1, none⟩ (.int .i64 0)).setCell ⟨w.heap.size + 2, 2, none⟩ (.int .i64 (max d1 e1))) = WE at HF ⊢
    clear a0 a1 a2 b0 b1 b2 c0 c1 c2 z0 z1 z2
    obtain ⟨⟨r0, r1', r2⟩, _⟩ := pc_at HF.out.1
    exact bodyPost_ret (v := pcVal (S1 ++ ⟨#[47]⟩ ++ T1) 0 (max d1 e1)) (by simp [results, Tryd.results26, go_sem, r0, r1', r2]) rfl ⟨rfl, HF.out.2⟩
end Go.Proofs.YtkfjmcdfamhiaaaDoor.TxW
