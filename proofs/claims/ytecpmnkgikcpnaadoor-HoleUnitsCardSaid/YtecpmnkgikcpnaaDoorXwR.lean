/-
  Rows of drill commands in memory.
-/
import Derived.Test.YtecpmnkgikcpnaaDoorXwE
import Derived.Test.YtecpmnkgikcpnaaDoorXt
import Derived.OwnWalk
namespace Go.Proofs.YtecpmnkgikcpnaaDoor.XW
open Go.RowKit Go.Proofs.YtecpmnkgikcpnaaDoor.Base Go.Proofs.YtecpmnkgikcpnaaDoor.Dp Go.Proofs.YtecpmnkgikcpnaaDoor.Xp

def rowV (x : Nat × D) (nv : Value) : List Value := (drCells x.2 (x.1 : Int) nv).toList
def rowsV : List (Nat × D) → List Value → List Value
  | x :: l, v :: ns => rowV x v ++ rowsV l ns
  | _, _ => []
/-- The cells of a row of commands, the numbers of each elsewhere. -/
def RowsAt (B : Nat) (w : World) (l : List (Nat × D)) (xs : List Value) : Prop :=
  ∃ ns : List Value, ns.length = l.length ∧ xs = rowsV l ns ∧ ∀ i (h : i < l.length) (h2 : i < ns.length), ∃ p c, ns[i] = .slice p l[i].2.nums.length c ∧ NumsIn B w p l[i].2.nums
theorem rowV_length (x : Nat × D) (v : Value) : (rowV x v).length = 10 := rfl
theorem rowsV_snoc : ∀ (l : List (Nat × D)) (ns : List Value) (x : Nat × D) (v : Value), ns.length = l.length → rowsV (l ++ [x]) (ns ++ [v]) = rowsV l ns ++ rowV x v
  | [], [], x, v, _ => by simp [rowsV]
  | [], _ :: _, _, _, h => by simp at h
  | _ :: _, [], _, _, h => by simp at h
  | y :: l, n :: ns, x, v, h => by
    have ih := rowsV_snoc l ns x v (by simpa using h)
    simp only [List.cons_append, rowsV, ih, List.append_assoc]
theorem rowsV_length : ∀ (l : List (Nat × D)) (ns : List Value), ns.length = l.length → (rowsV l ns).length = l.length * 10
  | [], [], _ => rfl
  | [], _ :: _, h => by simp at h
  | _ :: _, [], h => by simp at h
  | y :: l, n :: ns, h => by
    have ih := rowsV_length l ns (by simpa using h)
    simp only [rowsV, List.length_append, rowV_length, ih, List.length_cons]; omega
theorem rowsV_get : ∀ (l : List (Nat × D)) (ns : List Value) (h : ns.length = l.length) (i : Nat) (hi : i < l.length) (j : Nat), j < 10 → (rowsV l ns)[i * 10 + j]? = (rowV l[i] (ns[i]'(by omega)))[j]?
  | [], _, _, i, hi, _, _ => by simp at hi
  | _ :: _, [], h, _, _, _, _ => by simp at h
  | y :: l, n :: ns, h, 0, hi, j, hj => by
    simp only [rowsV, Nat.zero_mul, Nat.zero_add]
    rw [List.getElem?_append_left (by rw [rowV_length]; exact hj)]
    rfl
  | y :: l, n :: ns, h, i + 1, hi, j, hj => by
    simp only [rowsV]
    rw [List.getElem?_append_right (by rw [rowV_length]; omega), rowV_length, show (i + 1) * 10 + j - 10 = i * 10 + j by omega]
    exact rowsV_get l ns (by simpa using h) i (by simpa using hi) j hj
theorem RowsAt.nil (B : Nat) (w : World) : RowsAt B w [] [] := ⟨[], rfl, rfl, fun i h _ => absurd h (by simp)⟩
theorem RowsAt.imp {B : Nat} {w w' : World} {l : List (Nat × D)} {xs : List Value} (h : RowsAt B w l xs) (hn : ∀ p (n : List Int), NumsIn B w p n → NumsIn B w' p n) : RowsAt B w' l xs := by
  obtain ⟨ns, h1, h2, h3⟩ := h
  refine ⟨ns, h1, h2, fun i hi hi2 => ?_⟩
  obtain ⟨p, c, e, hp⟩ := h3 i hi hi2
  exact ⟨p, c, e, hn _ _ hp⟩
theorem RowsAt.below {B : Nat} {w w' : World} {l : List (Nat × D)} {xs : List Value} (h : RowsAt B w l xs) (hb : Below w.heap.size w w') : RowsAt B w' l xs := h.imp fun _ _ hp => hp.below hb
theorem RowsAt.snoc {B : Nat} {w : World} {l : List (Nat × D)} {xs : List Value} (h : RowsAt B w l xs) (x : Nat × D) (p : Option Addr) (c : Nat) (hp : NumsIn B w p x.2.nums) : RowsAt B w (l ++ [x]) (xs ++ rowV x (.slice p x.2.nums.length c)) := by
  obtain ⟨ns, h1, rfl, h3⟩ := h
  refine ⟨ns ++ [.slice p x.2.nums.length c], by simp [h1], (rowsV_snoc l ns x _ h1).symm, fun i hi hi2 => ?_⟩
  by_cases hil : i < l.length
  · obtain ⟨q, d, e, hq⟩ := h3 i hil (by omega)
    refine ⟨q, d, ?_, ?_⟩
    · rw [List.getElem_append_left (by omega), e]
      simp [List.getElem_append_left, hil]
    · simpa [List.getElem_append_left, hil] using hq
  · have e : i = l.length := by simp at hi; omega
    subst e
    refine ⟨p, c, ?_, ?_⟩
    · simp [← h1]
    · simpa using hp
/-- The commands so far, in memory. -/
structure PsAt (w0 : World) (v : Value) (acc : List (Nat × D)) (w : World) : Prop where
  own : ∃ xs, w.ownsRow w0.heap.size 39 10 v acc.length xs ∧ RowsAt w0.heap.size w acc xs
  bel : Below w0.heap.size w0 w
theorem PsAt.below {w0 w w' : World} {v : Value} {acc : List (Nat × D)} (h : PsAt w0 v acc w) (hb : Below w.heap.size w w') : PsAt w0 v acc w' := by
  obtain ⟨⟨xs, h1, h2⟩, h3⟩ := h
  exact ⟨⟨xs, h1.kept (row := none) ⟨hb.os, hb.tape, hb.output, hb.size, fun k hk _ => hb.block k hk⟩ (by cases v.ownBlock <;> simp), h2.below hb⟩, h3.trans (hb.mono h3.size)⟩
theorem own_ne {w : World} {B : Nat} {e t : TypeId} {sz n : Nat} {v : Value} {xs : List Value} (h : w.ownsRow B e sz v n xs) {b : Nat} {cs : Array Value} {fz : Nat × Nat} (hb : w.heap[b]? = some (.cells cs t fz)) (he : e ≠ t) : v.ownBlock ≠ some b := by
  rcases h.2 with ⟨rfl, _⟩ | ⟨g, cap, cur, rfl, _, hh, _⟩
  · simp [Value.ownBlock]
  · intro h2
    have : g = b := by simpa [Value.ownBlock] using h2
    subst this
    rw [hb] at hh
    injection hh with hh
    injection hh with _ ht
    exact he ht.symm
theorem PsAt.push {w0 w w' : World} {v v' : Value} {acc : List (Nat × D)} {xs : List Value} {o : Obj} {x : Nat × D} {p : Option Addr} {c : Nat} (hx : w.ownsRow w0.heap.size 39 10 v acc.length xs) (hr : RowsAt w0.heap.size w acc xs) (hb : Below w0.heap.size w0 w)
    (hp : NumsIn w0.heap.size w p x.2.nums) (hg : (w.alloc o).grownBy w' v.ownBlock) (ho : w'.ownsRow w0.heap.size 39 10 v' (acc.length + 1) (xs ++ rowV x (.slice p x.2.nums.length c))) : PsAt w0 v' (acc ++ [x]) w' := by
  have key : ∀ q (n : List Int), NumsIn w0.heap.size w q n → NumsIn w0.heap.size w' q n := by
    intro q n hq hl
    obtain ⟨b, o', cs, rfl, hB, hh, hc⟩ := hq hl
    have hlt := (Array.getElem?_eq_some_iff.1 hh).1
    refine ⟨b, o', cs, rfl, hB, ?_, hc⟩
    rw [hg.block b (by simp; omega) (Ne.symm (own_ne hx hh (by decide))), Below.heap_alloc _ _ _ hlt]
    exact hh
  refine ⟨⟨_, ?_, (hr.imp key).snoc x p c (key _ _ hp)⟩, ?_⟩
  · rw [show (acc ++ [x]).length = acc.length + 1 by simp]
    exact ho
  · exact (hb.alloc hb.size o).grown hg (Nat.le_trans hb.size (by simp)) (fun k hk => (hx.lt _ hk).1)
theorem info_dr : (Tryd.prog.info? 39).map (fun i => (i.zero, i.size, i.bytes)) = some (some (.agg #[.int .i64 0, .int .i64 0, .int .i64 0, .bool false, .string ⟨#[]⟩, .string ⟨#[]⟩, .string ⟨#[]⟩, .string ⟨#[]⟩, .string ⟨#[]⟩, .slice none 0 0]), 10, 136) := by kernel_rfl
/-- What Parse returns. -/
def ParsOut (l : List (Nat × D)) (a e : Nat) (w : World) (en : Ending) (w' : World) : Prop := ∃ v, en = .returned (.tuple #[v, .int .i64 (a : Int), .int .i64 (e : Int)]) ∧ PsAt w v l w'
theorem ps_nil (w : World) {w' : World} (hb : Below w.heap.size w w') : PsAt w nils [] w' := ⟨⟨[], ⟨rfl, .inl ⟨rfl, rfl⟩⟩, RowsAt.nil _ _⟩, hb⟩
end Go.Proofs.YtecpmnkgikcpnaaDoor.XW
