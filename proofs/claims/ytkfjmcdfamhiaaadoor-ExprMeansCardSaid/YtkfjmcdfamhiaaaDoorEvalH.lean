/-
  The walk of expr.Eval.
-/
import Derived.Test.YtkfjmcdfamhiaaaDoorOpW
import Derived.Test.YtkfjmcdfamhiaaaDoorDoW
import Derived.Deep.RegionHeld3
import Derived.Deep.DrawnRows
namespace Go.Proofs.YtkfjmcdfamhiaaaDoor.FrW
open Go.RowKit Go.Proofs.YtkfjmcdfamhiaaaDoor.Base Go.Proofs.YtkfjmcdfamhiaaaDoor.Dp Go.Proofs.YtkfjmcdfamhiaaaDoor.DeciW Go.Proofs.YtkfjmcdfamhiaaaDoor.Fr

theorem info_rat : (Tryd.prog.info? 27).map (fun i => (i.zero, i.size, i.bytes)) = some (some (.agg #[.int .i64 0, .int .i64 0]), 2, 16) := by kernel_rfl
/-- The stack of Eval in memory, behind the result's block. -/
structure StAt (w0 : World) (v : Value) (st : List (Int × Int)) (w : World) : Prop where
  own : w.ownsRow (w0.heap.size + 1) 27 2 v st.length (RdW.opVs st)
  res : w.heap[w0.heap.size]? = some (ratObj 0 0)
  bel : Below w0.heap.size w0 w
theorem StAt.lt {w0 w : World} {v : Value} {st : List (Int × Int)} (h : StAt w0 v st w) : w0.heap.size < w.heap.size := (Array.getElem?_eq_some_iff.1 h.res).1
theorem StAt.below {w0 w w' : World} {v : Value} {st : List (Int × Int)} (h : StAt w0 v st w) (hb : Below w.heap.size w w') : StAt w0 v st w' :=
  ⟨h.own.kept (row := none) ⟨hb.os, hb.tape, hb.output, hb.size, fun k hk _ => hb.block k hk⟩ (by cases v.ownBlock <;> simp), (hb.block _ h.lt).trans h.res, h.bel.trans (hb.mono h.bel.size)⟩


theorem own_cut {w : World} {B : Nat} {e : TypeId} {p : Option Addr} {c : Nat} {l : List (Int × Int)} (h : w.ownsRow B e 2 (.slice p l.length c) l.length (RdW.opVs l)) (k : Nat) (hk : k ≤ l.length) :
    w.ownsRow B e 2 (.slice p k c) k (RdW.opVs (l.take k)) := by
  rcases h.2 with ⟨h', h0⟩ | ⟨g', cap', cur, h', _⟩
  · obtain rfl : l = [] := List.eq_nil_of_length_eq_zero h0
    obtain rfl : k = 0 := by simpa using hk
    simp only [Value.slice.injEq] at h'
    obtain ⟨rfl, _, rfl⟩ := h'
    exact ⟨rfl, .inl ⟨rfl, rfl⟩⟩
  · injection h' with h1 h2 h3
    subst h1
    exact own_take h k hk
theorem op_at {w : World} {b : Nat} {k n : Int} (h : w.heap[b]? = some (opObj k n)) : w.cell? ⟨b, 0, none⟩ = some (.int .i64 k) ∧ w.cell? ⟨b, 1, none⟩ = some (.int .i64 n) := by
  refine ⟨?_, ?_⟩ <;> simp [World.cell?, h]
theorem one_below {w v : World} {b : Nat} {o : Obj} (h : w.heap[b]? = some o) (hb : Below w.heap.size w v) : v.heap[b]? = some o :=
  (hb.block b (Array.getElem?_eq_some_iff.1 h).1).trans h
theorem own_ne {w : World} {B : Nat} {e t : TypeId} {sz n : Nat} {v : Value} {xs : List Value} (h : w.ownsRow B e sz v n xs) {b : Nat} {cs : Array Value} {fz : Nat × Nat} (hb : w.heap[b]? = some (.cells cs t fz)) (he : e ≠ t) : v.ownBlock ≠ some b := by
  rcases h.2 with ⟨rfl, _⟩ | ⟨g, cap, cur, rfl, _, hh, _⟩
  · simp [Value.ownBlock]
  · intro h2
    have : g = b := by simpa [Value.ownBlock] using h2
    subst this
    rw [hb] at hh
    injection hh with hh
    injection hh with _ ht
    exact he ht.symm
/-- A round of Eval: the stack, the operation, the value. -/
structure Rnd (w0 : World) (B : Nat) (v : Value) (st : List (Int × Int)) (k n : Int) (g : Nat) (N D : Int) (w : World) : Prop where
  stk : StAt w0 v st w
  op : w.heap[B]? = some (opObj k n)
  val : w.heap[g]? = some (ratObj N D)
  ne : v.ownBlock ≠ some g
  nb : B ≠ g
  ng : w0.heap.size < g
theorem Rnd.below {w0 w w' : World} {B : Nat} {v : Value} {st : List (Int × Int)} {k n : Int} {g : Nat} {N D : Int} (h : Rnd w0 B v st k n g N D w) (hb : Below w.heap.size w w') : Rnd w0 B v st k n g N D w' :=
  ⟨h.stk.below hb, one_below h.op hb, one_below h.val hb, h.ne, h.nb, h.ng⟩
theorem Rnd.set {w0 w : World} {B : Nat} {v : Value} {st : List (Int × Int)} {k n : Int} {g : Nat} {N D : Int} (h : Rnd w0 B v st k n g N D w) (N' D' : Int) :
    Rnd w0 B v st k n g N' D' ((w.setCell ⟨g, 0, none⟩ (.int .i64 N')).setCell ⟨g, 1, none⟩ (.int .i64 D')) := by
  have hb : Below w0.heap.size w ((w.setCell ⟨g, 0, none⟩ (.int .i64 N')).setCell ⟨g, 1, none⟩ (.int .i64 D')) := ((Below.refl _ _).setCell (by have := h.ng; show _ ≤ g; omega) _).setCell (by have := h.ng; show _ ≤ g; omega) _
  have hne (b : Nat) (hb : b ≠ g) : ((w.setCell ⟨g, 0, none⟩ (.int .i64 N')).setCell ⟨g, 1, none⟩ (.int .i64 D')).heap[b]? = w.heap[b]? := by
    rw [Below.heap_setCell _ _ _ _ hb, Below.heap_setCell _ _ _ _ hb]
  refine ⟨⟨RdW.ownsRow_set (RdW.ownsRow_set h.stk.own h.ne _) h.ne _, ?_, h.stk.bel.trans hb⟩, ?_, rat_set h.val _ _, h.ne, h.nb, h.ng⟩
  · rw [hne _ (by have := h.ng; omega)]; exact h.stk.res
  · rw [hne _ h.nb]; exact h.op
/-- The value's block is made. -/
theorem Rnd.new {w0 w : World} {B : Nat} {v : Value} {st : List (Int × Int)} {k n : Int} (h : StAt w0 v st w) (ho : w.heap[B]? = some (opObj k n)) : Rnd w0 B v st k n w.heap.size 0 0 (w.alloc (ratObj 0 0)) := by
  have hB := (Array.getElem?_eq_some_iff.1 ho).1
  refine ⟨h.below ((Below.refl _ _).alloc (Nat.le_refl _) _), ?_, ?_, ?_, by omega, h.lt⟩
  · rw [Below.heap_alloc _ _ _ hB]; exact ho
  · show (w.heap.push _)[w.heap.size]? = _; simp
  · intro he
    have := (h.own.lt _ he).2
    omega
theorem StAt.fin {w0 w : World} {v : Value} {st : List (Int × Int)} (h : StAt w0 v st w) (N D : Int) : ∀ x, x = (w.setCell ⟨w0.heap.size, 0, none⟩ (.int .i64 N)).setCell ⟨w0.heap.size, 1, none⟩ (.int .i64 D) →
    x.heap[w0.heap.size]? = some (ratObj N D) ∧ Below w0.heap.size w0 x := by
  rintro x rfl
  exact ⟨rat_set h.res N D, (h.bel.setCell (Nat.le_refl _) _).setCell (Nat.le_refl _) _⟩
theorem run_step {vars l st : List (Int × Int)} {j : Nat} {k n : Int} {r : Int × Int × Nat} (hj : j < l.length) (hk : l[j].1 = k) (hn : l[j].2 = n) (h : runV vars (l.drop j) st = r) :
    (if (stepV vars st k n).2 = 0 then runV vars (l.drop (j + 1)) (stepV vars st k n).1 else (0, 0, (stepV vars st k n).2)) = r := by
  rw [List.drop_eq_getElem_cons hj, runV, hk, hn] at h
  exact h

theorem Rnd.fin {w0 w : World} {B : Nat} {v : Value} {st : List (Int × Int)} {k n : Int} {g : Nat} {N D : Int} (h : Rnd w0 B v st k n g N D w) (N' D' : Int) : ∀ x, x = (w.setCell ⟨w0.heap.size, 0, none⟩ (.int .i64 N')).setCell ⟨w0.heap.size, 1, none⟩ (.int .i64 D') →
    x.heap[w0.heap.size]? = some (ratObj N' D') ∧ Below w0.heap.size w0 x := h.stk.fin N' D'
theorem StAt.push {w0 w w' : World} {v v2 v' : Value} {st : List (Int × Int)} {N D : Int} {o : Obj} (h : StAt w0 v st w) (hv : v2.ownBlock = v.ownBlock) (hg : ((w.alloc o).drew).grownBy w' v2.ownBlock) (m : Nat) (hm : m ≤ st.length) (ho : w'.ownsRow (w0.heap.size + 1) 27 2 v' (m + 1) (RdW.opVs (st.take m) ++ [.int .i64 N, .int .i64 D])) : StAt w0 v' (st.take m ++ [(N, D)]) w' := by
  rw [hv] at hg
  have hg : (w.alloc o).grownBy w' v.ownBlock := ⟨hg.os, hg.tape, hg.output, hg.size, hg.block⟩
  refine ⟨?_, ?_, ?_⟩
  · rw [show (st.take m ++ [(N, D)]).length = m + 1 by simp; omega, RdW.opVs_append]
    exact ho
  · rw [hg.block _ (by have := h.lt; simp; omega) (fun e => by have := (h.own.lt _ e.symm).1; omega), Below.heap_alloc _ _ _ h.lt]
    exact h.res
  · exact (h.bel.alloc h.bel.size o).grown hg (Nat.le_trans h.bel.size (by simp)) (fun k hk => by have := (h.own.lt _ hk).1; omega)
theorem step_ok {vars st : List (Int × Int)} {k n N D : Int} {m : Nat} (h1 : kn k n = true) (h2 : tk k ≤ st.length) (h3 : opV vars st k n = (N, D, 0)) (h4 : st.length - tk k = m) : stepV vars st k n = (st.take m ++ [(N, D)], 0) := by
  unfold stepV
  rw [if_neg (by rintro (h | h); · rw [h1] at h; cases h
                 · omega), h3, h4]
  rfl
theorem step_bad {vars st : List (Int × Int)} {k n N D : Int} {e : Nat} (h1 : kn k n = true) (h2 : tk k ≤ st.length) (h3 : opV vars st k n = (N, D, e)) (h4 : e ≠ 0) : (stepV vars st k n).2 = e := by
  unfold stepV
  rw [if_neg (by rintro (h | h); · rw [h1] at h; cases h
                 · omega), h3, if_neg h4]
theorem step_no {vars st : List (Int × Int)} {k n : Int} (h : kn k n = false ∨ st.length < tk k) : (stepV vars st k n).2 = 3 := by
  unfold stepV; rw [if_pos h]
theorem run_ok {vars l st st' : List (Int × Int)} {k n : Int} {r : Int × Int × Nat} (h : (if (stepV vars st k n).2 = 0 then runV vars l (stepV vars st k n).1 else (0, 0, (stepV vars st k n).2)) = r) (h1 : stepV vars st k n = (st', 0)) : runV vars l st' = r := by
  rw [h1, if_pos rfl] at h
  exact h
theorem run_bad {vars l st : List (Int × Int)} {k n : Int} {r : Int × Int × Nat} {e : Nat} (h : (if (stepV vars st k n).2 = 0 then runV vars l (stepV vars st k n).1 else (0, 0, (stepV vars st k n).2)) = r) (h1 : (stepV vars st k n).2 = e) (he : e ≠ 0) : r = (0, 0, e) := by
  rw [h1, if_neg he] at h
  exact h.symm
/-- The top of the stack in memory. -/
theorem stk_top {w : World} {g c : Nat} {B : Nat} {e : TypeId} {st : List (Int × Int)} (h : w.ownsRow B e 2 (.slice (some ⟨g, 0, none⟩) st.length c) st.length (RdW.opVs st)) (i : Nat) (hi : i < st.length) :
    w.cell? ⟨g, i * 2, none⟩ = some (.int .i64 (st.getD i (0, 0)).1) ∧ w.cell? ⟨g, i * 2 + 1, none⟩ = some (.int .i64 (st.getD i (0, 0)).2) := by
  have hp := pairs_get st i hi
  have hd : st.getD i (0, 0) = st[i] := by simp [List.getD, hi]
  rw [h.cellAt (i * 2) (by omega), h.cellAt (i * 2 + 1) (by omega), hd]
  exact hp

theorem cell_far2 (w : World) {g b : Nat} (h : b ≠ g) (u v : Value) (a : Nat) : (((w.setCell ⟨g, 0, none⟩ u).setCell ⟨g, 1, none⟩ v).drew).cell? ⟨b, a, none⟩ = w.cell? ⟨b, a, none⟩ := by
  show (World.setCell (World.setCell w _ _) _ _).cell? _ = _
  rw [World.cell?_setCell_other _ _ _ _ (by intro e; simp only [Addr.mk.injEq] at e; exact h e.1.symm), World.cell?_setCell_other _ _ _ _ (by intro e; simp only [Addr.mk.injEq] at e; exact h e.1.symm)]

theorem Rnd.drew {w0 w : World} {B : Nat} {v : Value} {st : List (Int × Int)} {k n : Int} {g : Nat} {N D : Int} (h : Rnd w0 B v st k n g N D w) : Rnd w0 B v st k n g N D w.drew := h.below ⟨rfl, rfl, rfl, Nat.le_refl _, fun _ _ => rfl⟩
theorem cell_far3 (w : World) {g b : Nat} (h : b ≠ g) (u v : Value) (a : Nat) : ((w.setCell ⟨g, 0, none⟩ u).setCell ⟨g, 1, none⟩ v).cell? ⟨b, a, none⟩ = w.cell? ⟨b, a, none⟩ := cell_far2 w h u v a
theorem end_one {st : List (Int × Int)} (h : st.length = 1) : endV st = ((st.getD 0 (0, 0)).1, (st.getD 0 (0, 0)).2, 0) := by
  match st, h with
  | [x], _ => rfl
theorem end_bad {st : List (Int × Int)} (h : ¬ st.length = 1) : endV st = (0, 0, 3) := by
  match st, h with
  | [], _ => rfl
  | [x], h => exact absurd rfl h
  | _ :: _ :: _, _ => rfl

end Go.Proofs.YtkfjmcdfamhiaaaDoor.FrW
