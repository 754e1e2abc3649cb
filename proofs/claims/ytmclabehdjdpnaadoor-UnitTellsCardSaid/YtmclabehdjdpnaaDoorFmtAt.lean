/-
  A format that lies in memory, its copies, and what turns in the heap.
-/
import Derived.Test.YtmclabehdjdpnaaDoorUnitW
namespace Go.Proofs.YtmclabehdjdpnaaDoor.UnitB
open Go.RowKit Go.Proofs.YtmclabehdjdpnaaDoor.Dp Go.Proofs.YtmclabehdjdpnaaDoor.Base Go.Proofs.YtmclabehdjdpnaaDoor.DeciW Go.Proofs.YtmclabehdjdpnaaDoor.Up Go.Proofs.YtmclabehdjdpnaaDoor.UnitW

/-- A format lies there. -/
structure FmtAt (w : World) (b : Nat) (u i d : Int) (t : Bool) : Prop where
  c0 : w.cell? ⟨b, 0, none⟩ = some (.int .i64 u)
  c1 : w.cell? ⟨b, 1, none⟩ = some (.int .i64 i)
  c2 : w.cell? ⟨b, 2, none⟩ = some (.int .i64 d)
  c3 : w.cell? ⟨b, 3, none⟩ = some (.bool t)
  z0 : w.frozen? ⟨b, 0, none⟩ = false
  z1 : w.frozen? ⟨b, 1, none⟩ = false
  z2 : w.frozen? ⟨b, 2, none⟩ = false
  z3 : w.frozen? ⟨b, 3, none⟩ = false
theorem fmtAt_heap {w : World} {b : Nat} {u i d : Int} {t : Bool} (h : w.heap[b]? = some (fmtObj u i d t)) : FmtAt w b u i d t := by
  refine ⟨?_, ?_, ?_, ?_, ?_, ?_, ?_, ?_⟩ <;> simp [World.cell?, World.frozen?, h]
theorem heap_set {w : World} {b : Nat} {u i d U I D : Int} {t T : Bool} (h : w.heap[b]? = some (fmtObj u i d t)) :
    ((((w.setCell ⟨b, 0, none⟩ (.int .i64 U)).setCell ⟨b, 1, none⟩ (.int .i64 I)).setCell ⟨b, 2, none⟩ (.int .i64 D)).setCell ⟨b, 3, none⟩ (.bool T)).heap[b]? = some (fmtObj U I D T) := by
  have e (v : World) (b : Nat) (c : Array Value) (k : TypeId) (o : Nat) (x : Value) (h : v.heap[b]? = some (.cells c k)) : (v.setCell ⟨b, o, none⟩ x).heap[b]? = some (.cells (c.setIfInBounds o x) k) := by
    show (Array.modify _ _ _)[b]? = _
    rw [Array.getElem?_modify, if_pos rfl, h]; rfl
  exact e _ _ _ _ _ _ (e _ _ _ _ _ _ (e _ _ _ _ _ _ (e _ _ _ _ _ _ h)))

theorem opt_of {α : Type} {o : Option α} {d x : α} (h : Hid (o.getD d = x ∧ o.isSome = true)) : o = some x := by
  cases o with
  | none => exact absurd h.out.2 (by simp)
  | some y => rw [← h.out.1]; rfl
theorem two_alloc {w : World} {b : Nat} {o p q : Obj} (h : w.heap[b]? = some o) : (((w.alloc p).alloc q).drew).heap[b]? = some o := by
  have hl := (Array.getElem?_eq_some_iff.1 h).1
  show ((w.heap.push p).push q)[b]? = _
  rw [Array.getElem?_push, if_neg (by simp; omega), Array.getElem?_push, if_neg (by omega), h]
theorem two_allocA {w : World} {p q : Obj} : (((w.alloc p).alloc q).drew).heap[w.heap.size]? = some p := by
  show ((w.heap.push p).push q)[w.heap.size]? = _
  rw [Array.getElem?_push, if_neg (by simp), Array.getElem?_push, if_pos rfl]
theorem two_allocB {w : World} {p q : Obj} : (((w.alloc p).alloc q).drew).heap[w.heap.size + 1]? = some q := by
  show ((w.heap.push p).push q)[w.heap.size + 1]? = _
  rw [Array.getElem?_push, if_pos (by simp)]
theorem heap_other (w : World) (m o : Nat) (x : Value) {b : Nat} (h : b ≠ m) : (w.setCell ⟨m, o, none⟩ x).heap[b]? = w.heap[b]? := Below.heap_setCell w _ x b h
theorem heap_same {w : World} {b : Nat} {u i d : Int} {t T : Bool} (h : w.heap[b]? = some (fmtObj u i d t)) : (w.setCell ⟨b, 3, none⟩ (.bool T)).heap[b]? = some (fmtObj u i d T) := by
  show (Array.modify _ _ _)[b]? = _
  rw [Array.getElem?_modify, if_pos rfl, h]; rfl
/-- The format and its two copies. -/
structure Tri (w : World) (b m k : Nat) (u i d : Int) (t : Bool) : Prop where
  o : w.heap[b]? = some (fmtObj u i d t)
  m : w.heap[m]? = some (fmtObj u i d false)
  k : w.heap[k]? = some (fmtObj u i d true)
theorem Tri.below {w v : World} {b m k : Nat} {u i d : Int} {t : Bool} (h : Tri w b m k u i d t) (hb : Below w.heap.size w v) : Tri v b m k u i d t :=
  ⟨(hb.block b (Array.getElem?_eq_some_iff.1 h.o).1).trans h.o, (hb.block m (Array.getElem?_eq_some_iff.1 h.m).1).trans h.m, (hb.block k (Array.getElem?_eq_some_iff.1 h.k).1).trans h.k⟩
theorem one_below {w v : World} {b : Nat} {o : Obj} (h : w.heap[b]? = some o) (hb : Below w.heap.size w v) : v.heap[b]? = some o :=
  (hb.block b (Array.getElem?_eq_some_iff.1 h).1).trans h
end Go.Proofs.YtmclabehdjdpnaaDoor.UnitB
