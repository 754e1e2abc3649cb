/-
  The reader of an expression in memory; the walks of next, put, digit and digits.
-/
import Derived.Test.YtkfjmcdfamhiaaaDoorEq
import Derived.Test.YtkfjmcdfamhiaaaDoorBase
import Derived.Test.YtkfjmcdfamhiaaaDoorMem
import Derived.OwnWalk
import Derived.Deep.AppendLies
import Derived.Lib.FrozenHead
namespace Go.Proofs.YtkfjmcdfamhiaaaDoor.RdW
open Go.RowKit Go.Proofs.YtkfjmcdfamhiaaaDoor.Dp Go.Proofs.YtkfjmcdfamhiaaaDoor.Base Go.Proofs.YtkfjmcdfamhiaaaDoor.Ep Go.Proofs.YtkfjmcdfamhiaaaDoor.Mem

theorem ret_int {k : IntKind} {a b : Int} (h : a = b) : Ending.returned (.int k a) = .returned (.int k b) := by rw [h]
/-- Operations as cells. -/
def opVs (l : List (Int × Int)) : List Value := l.flatMap fun o => [.int .i64 o.1, .int .i64 o.2]
theorem opVs_append (a b : List (Int × Int)) : opVs (a ++ b) = opVs a ++ opVs b := by simp [opVs]
theorem opVs_length (l : List (Int × Int)) : (opVs l).length = l.length * 2 := by
  induction l with
  | nil => rfl
  | cons o l ih => unfold opVs at ih ⊢; rw [List.flatMap_cons, List.length_append, ih]; simp; omega
abbrev rdObj (S : ByteArray) (at_ deep : Int) (v : Value) (e : Int) : Obj := .cells #[.string S, .int .i64 at_, .int .i64 deep, v, .int .i64 e] 51
/-- The reader lies there. -/
structure Rd (w0 : World) (S : ByteArray) (R : Nat) (deep : Nat) (st : St) (k : Nat) (v : Value) (w : World) : Prop where
  k_le : k ≤ S.size
  rest : S.data.toList.drop k = st.r
  obj : w.heap[R]? = some (rdObj S (k : Int) (deep : Int) v (st.e : Int))
  own : w.ownsRow w0.heap.size 53 2 v st.ops.length (opVs st.ops)
  bel : Below w0.heap.size w0 w
  ge : w0.heap.size ≤ R
/-- The same, the place and the slice unnamed. -/
def RdA (w0 : World) (S : ByteArray) (R : Nat) (deep : Nat) (st : St) (w : World) : Prop := ∃ k v, Rd w0 S R deep st k v w
section
variable {w0 w w' : World} {S : ByteArray} {R deep k : Nat} {st : St} {v : Value}
theorem Rd.cells (h : Rd w0 S R deep st k v w) : w.cell? ⟨R, 0, none⟩ = some (.string S) ∧ w.cell? ⟨R, 1, none⟩ = some (.int .i64 (k : Int)) ∧ w.cell? ⟨R, 2, none⟩ = some (.int .i64 (deep : Int)) ∧ w.cell? ⟨R, 3, none⟩ = some v ∧ w.cell? ⟨R, 4, none⟩ = some (.int .i64 (st.e : Int)) := by
  have h1 := h.obj
  refine ⟨?_, ?_, ?_, ?_, ?_⟩ <;> simp [World.cell?, h1]
theorem Rd.any (h : Rd w0 S R deep st k v w) : RdA w0 S R deep st w := ⟨k, v, h⟩
theorem Rd.frozen (h : Rd w0 S R deep st k v w) (o : Nat) : w.frozen? ⟨R, o, none⟩ = false := by
  have h1 := h.obj
  simp [World.frozen?, h1]
theorem Rd.len (h : Rd w0 S R deep st k v w) : k + st.r.length = S.size := by
  have h1 := congrArg List.length h.rest
  rw [List.length_drop, len_list] at h1
  have := h.k_le
  omega
theorem Rd.lt (h : Rd w0 S R deep st k v w) : R < w.heap.size := (Array.getElem?_eq_some_iff.1 h.obj).1
theorem Rd.ne (h : Rd w0 S R deep st k v w) : v.ownBlock ≠ some R := by
  rcases h.own.2 with ⟨rfl, _⟩ | ⟨g, cap, cur, rfl, _, hh, _⟩
  · simp [Value.ownBlock]
  · intro he
    have : g = R := by simpa [Value.ownBlock] using he
    subst this
    rw [h.obj] at hh
    injection hh with hh
    injection hh with _ ht
    exact absurd ht (by decide)
theorem Rd.drewN (h : Rd w0 S R deep st k v w) (n : Nat) : Rd w0 S R deep st k v (w.drewN n) :=
  ⟨h.k_le, h.rest, h.obj, ⟨h.own.1, h.own.2⟩, below_drewN h.bel n, h.ge⟩
theorem Rd.below (h : Rd w0 S R deep st k v w) (hb : Below w.heap.size w w') : Rd w0 S R deep st k v w' :=
  ⟨h.k_le, h.rest, (hb.block R h.lt).trans h.obj, h.own.kept (row := none) ⟨hb.os, hb.tape, hb.output, hb.size, fun k hk _ => hb.block k hk⟩ (by cases v.ownBlock <;> simp), h.bel.trans (hb.mono h.bel.size), h.ge⟩
theorem heap_here {x : World} {b : Nat} {c : Array Value} {t : TypeId} (h : x.heap[b]? = some (.cells c t)) (o : Nat) (u : Value) : (x.setCell ⟨b, o, none⟩ u).heap[b]? = some (.cells (c.setIfInBounds o u) t) := by
  show (Array.modify _ _ _)[b]? = _
  rw [Array.getElem?_modify, if_pos rfl, h]; rfl
theorem ownsRow_set {x : World} {base : Nat} {e : TypeId} {size n : Nat} {v : Value} {xs : List Value} (h : x.ownsRow base e size v n xs) {a : Addr} (ha : v.ownBlock ≠ some a.block) (u : Value) : (x.setCell a u).ownsRow base e size v n xs :=
  h.kept (w' := x.setCell a u) (row := some a.block) ⟨rfl, rfl, rfl, by simp [World.setCell], fun k hk hne => Below.heap_setCell _ _ _ _ (fun e => hne (by rw [e]))⟩ (.inr ha)
theorem Rd.step (h : Rd w0 S R deep st k v w) {r : List UInt8} {m : Nat} (hm : m ≤ S.size) (hr : S.data.toList.drop m = r) : Rd w0 S R deep ⟨r, st.ops, st.e⟩ m v (w.setCell ⟨R, 1, none⟩ (.int .i64 (m : Int))) :=
  ⟨hm, hr, by rw [heap_here h.obj]; rfl, ownsRow_set h.own h.ne _, h.bel.setCell h.ge _, h.ge⟩
theorem Rd.err (h : Rd w0 S R deep st k v w) (e : Nat) : Rd w0 S R deep ⟨st.r, st.ops, e⟩ k v (w.setCell ⟨R, 4, none⟩ (.int .i64 (e : Int))) :=
  ⟨h.k_le, h.rest, by rw [heap_here h.obj]; rfl, ownsRow_set h.own h.ne _, h.bel.setCell h.ge _, h.ge⟩
theorem Rd.dive (h : Rd w0 S R deep st k v w) (m : Nat) : Rd w0 S R m st k v (w.setCell ⟨R, 2, none⟩ (.int .i64 (m : Int))) :=
  ⟨h.k_le, h.rest, by rw [heap_here h.obj]; rfl, ownsRow_set h.own h.ne _, h.bel.setCell h.ge _, h.ge⟩
end
theorem drewN_two (w : World) (a b : Nat) : (w.drewN a).drewN b = w.drewN (a + b) := by simp [World.drewN, Nat.add_assoc]
/-- The next byte. -/
def hdI (r : List UInt8) : Int := ((hd r).toNat : Int)
def NextOut (c : Int) (w : World) (e : Ending) (w' : World) : Prop := ∃ n, e = .returned (.int .u8 c) ∧ w' = w.drewN n

set_option maxHeartbeats 800000 in
theorem next_c {w0 : World} {S : ByteArray} {R deep k : Nat} {st : St} {v : Value} (w : World) (h : Hid (Rd w0 S R deep st k v w)) (c : Int) (hc : Hid (hdI st.r = c)) :
    Calls Tryd.prog 33 #[.pointer (some ⟨R, 0, none⟩)] w (NextOut c w) := by
  obtain ⟨c0, c1, c2, c3, c4⟩ := h.out.cells
  have hk := h.out.k_le
  by_cases hlt : k < S.size
  · obtain ⟨X, hX⟩ : ∃ X, (S[k].toNat : Int) = X := ⟨_, rfl⟩
    have hcX : Hid (X = c) := by
      show X = c
      rw [← hc.out, ← hX]
      unfold hdI
      have hl : k < S.data.toList.length := by rw [len_list]; exact hlt
      have h1 := List.drop_eq_getElem_cons hl
      rw [h.out.rest] at h1
      rw [h1]
      rfl
    go_enter Tryd.func33, Tryd.ntmps33
    go_wp2_with fail
    go_quiet (fail)
    go_wp2_with fail
    go_quiet (fail)
    go_wp2_with fail
    go_ret
    exact ⟨_, ret_int hcX.out, drewN_two _ _ _⟩
  · have hcX : Hid ((0 : Int) = c) := by
      show 0 = c
      rw [← hc.out]
      have h1 := h.out.rest
      rw [List.drop_eq_nil_of_le (by rw [len_list]; omega)] at h1
      rw [← h1]; rfl
    go_enter Tryd.func33, Tryd.ntmps33
    go_wp2_with fail
    go_quiet (fail)
    go_wp2_with fail
    go_ret
    exact ⟨_, ret_int hcX.out, rfl⟩

/-- What a method of the reader leaves. -/
def Left (w0 : World) (S : ByteArray) (R deep : Nat) (st : St) (e : Ending) (w' : World) : Prop := e = .returned (.tuple #[]) ∧ RdA w0 S R deep st w'
theorem info_op : (Tryd.prog.info? 53).map (fun i => (i.zero, i.size, i.bytes)) = some (some (.agg #[.int .i64 0, .int .i64 0]), 2, 16) := by kernel_rfl
theorem ownsRow_ge {x : World} {base : Nat} {e : TypeId} {size n : Nat} {v : Value} {xs : List Value} (h : x.ownsRow base e size v n xs) : ∀ k, v.ownBlock = some k → base ≤ k := fun k hk => (World.ownsRowF.lt (World.ownsRowF_of h) k hk).1
theorem Rd.appended {w0 w w' : World} {S : ByteArray} {R deep k : Nat} {st : St} {v v' : Value} {q n : Int} {o : Obj} (h : Rd w0 S R deep st k v w) (hg : (w.alloc o).grownBy w' v.ownBlock) (ho : w'.ownsRow w0.heap.size 53 2 v' (st.ops.length + 1) (opVs st.ops ++ [.int .i64 q, .int .i64 n])) (hz : st.e = 0) :
    Rd w0 S R deep (put st q n) k v' (w'.setCell ⟨R, 3, none⟩ v') ∧ w'.cell? ⟨R, 3, none⟩ = some v ∧ w'.frozen? ⟨R, 3, none⟩ = false ∧ w'.heap[R]? = some (rdObj S (k : Int) (deep : Int) v (st.e : Int)) := by
  have hR : w'.heap[R]? = some (rdObj S (k : Int) (deep : Int) v (st.e : Int)) := by
    rw [hg.block R (by have := h.lt; simp; omega) (Ne.symm h.ne), Below.heap_alloc _ _ _ h.lt, h.obj]
  have hp : put st q n = ⟨st.r, st.ops ++ [(q, n)], 0⟩ := by unfold put; rw [if_pos hz]
  refine ⟨?_, by simp [World.cell?, hR], by simp [World.frozen?, hR], hR⟩
  rw [hp]
  refine ⟨h.k_le, h.rest, by rw [heap_here hR, hz]; rfl, ?_, ?_, h.ge⟩
  · have hne : v'.ownBlock ≠ some R := by
      rcases ho.2 with ⟨rfl, _⟩ | ⟨g, cap, cur, rfl, _, hh, _⟩
      · simp [Value.ownBlock]
      · intro he
        have : g = R := by simpa [Value.ownBlock] using he
        subst this
        rw [hR] at hh
        injection hh with hh
        injection hh with _ ht
        exact absurd ht (by decide)
    have hx := ownsRow_set ho (a := ⟨R, 3, none⟩) hne v'
    rw [show (st.ops ++ [(q, n)]).length = st.ops.length + 1 by simp, opVs_append]
    exact hx
  · exact ((h.bel.alloc h.bel.size o).grown hg (Nat.le_trans h.bel.size (by simp)) (ownsRow_ge h.own)).setCell h.ge _

set_option maxHeartbeats 800000 in
theorem put_c {w0 : World} {S : ByteArray} {R deep : Nat} {st : St} (w : World) (h : RdA w0 S R deep st w) (hl : st.ops.length ≤ 1000) (q n : Int) :
    Calls Tryd.prog 34 #[.pointer (some ⟨R, 0, none⟩), .int .i64 q, .int .i64 n] w (Left w0 S R deep (put st q n)) := by
  obtain ⟨k, v, h⟩ := h
  have H := Lib.hid h
  obtain ⟨c0, c1, c2, c3, c4⟩ := h.cells
  obtain ⟨i0, hi, hz0, hz1, hz2⟩ := info_parts info_op
  have HI := Lib.hid (And.intro hi (And.intro hz0 (And.intro hz1 hz2)))
  clear h hi hz0 hz1 hz2
  by_cases hz : st.e = 0
  · have hzi : ((st.e : Int) == 0) = true := by rw [hz]; rfl
    have HZ := Lib.hid hz
    clear hz
    go_enter Tryd.func34, Tryd.ntmps34
    go_wp2_with (at_builtin; refine wpList_append_own _ rfl _ _ _ rfl w0.heap.size 53 i0 (.agg #[.int .i64 0, .int .i64 0]) 2 16 Tryd.underlying22 HI.out.1 HI.out.2.1 HI.out.2.2.1 HI.out.2.2.2 rfl (by omega) v st.ops.length (opVs st.ops) (by rfl) (H.out.own.alloc _) ⟨w.heap.size, 0, none⟩ 1 1 [.int .i64 q, .int .i64 n] (by rfl) rfl (World.news_of_block (heap_alloc_new w _)) (by simp [Value.oneCell']) (by unfold maxLen; omega) (by omega) (by have := H.out.bel.size; simp; omega) ?_; intro v' w' hown' hgrow' hnn'; obtain ⟨g', cap', rfl, _, _⟩ := hown'.form (by omega); obtain ⟨hr', hc', hf', _⟩ := H.out.appended hgrow' hown' HZ.out; have HR' := Lib.hid hr'; clear hr' hown' hgrow' hnn')
    go_end0
    exact ⟨rfl, k, _, HR'.out⟩
  · have hzi : ((st.e : Int) == 0) = false := by simp; omega
    have hp : Hid (put st q n = st) := by show _ = _; unfold put; rw [if_neg hz]
    clear hz
    go_enter Tryd.func34, Tryd.ntmps34
    go_wp2_with fail
    go_end0
    exact ⟨rfl, by rw [hp.out]; exact ⟨k, v, H.out⟩⟩
end Go.Proofs.YtkfjmcdfamhiaaaDoor.RdW
