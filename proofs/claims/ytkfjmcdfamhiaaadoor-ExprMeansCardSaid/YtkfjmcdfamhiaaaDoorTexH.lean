/-
  The stack of pieces of expr.Text in memory; pair, in one contract.
-/
import Derived.Test.YtkfjmcdfamhiaaaDoorTxW
import Derived.Test.YtkfjmcdfamhiaaaDoorTv
import Derived.Test.YtkfjmcdfamhiaaaDoorEvalH
namespace Go.Proofs.YtkfjmcdfamhiaaaDoor.TxW
open Go.RowKit Go.Proofs.YtkfjmcdfamhiaaaDoor.Base Go.Proofs.YtkfjmcdfamhiaaaDoor.Dp Go.Proofs.YtkfjmcdfamhiaaaDoor.Tx Go.Proofs.YtkfjmcdfamhiaaaDoor.FrW Go.Proofs.YtkfjmcdfamhiaaaDoor.Fr

/-- Pieces as cells. -/
def pcVs (l : List P) : List Value := l.flatMap fun p => [.string ⟨p.1.toArray⟩, .int .i64 p.2.1, .int .i64 p.2.2]
theorem pcVs_append (a b : List P) : pcVs (a ++ b) = pcVs a ++ pcVs b := by simp [pcVs]
theorem pcVs_length (l : List P) : (pcVs l).length = l.length * 3 := by
  induction l with
  | nil => rfl
  | cons o l ih => unfold pcVs at ih ⊢; rw [List.flatMap_cons, List.length_append, ih]; simp; omega
theorem pcVs_get (l : List P) (i : Nat) (hi : i < l.length) : (pcVs l)[i * 3]? = some (.string ⟨l[i].1.toArray⟩) ∧ (pcVs l)[i * 3 + 1]? = some (.int .i64 l[i].2.1) ∧ (pcVs l)[i * 3 + 2]? = some (.int .i64 l[i].2.2) := by
  induction l generalizing i with
  | nil => simp at hi
  | cons x l ih =>
    cases i with
    | zero => exact ⟨rfl, rfl, rfl⟩
    | succ i =>
      have h := ih i (by simpa using hi)
      have e : (i + 1) * 3 = i * 3 + 1 + 1 + 1 := by omega
      rw [e]
      exact ⟨h.1, h.2.1, h.2.2⟩
theorem info_pc : (Tryd.prog.info? 59).map (fun i => (i.zero, i.size, i.bytes)) = some (some (.agg #[.string ⟨#[]⟩, .int .i64 0, .int .i64 0]), 3, 32) := by kernel_rfl
/-- The stack in memory. -/
structure StT (w0 : World) (v : Value) (st : List P) (w : World) : Prop where
  own : w.ownsRow w0.heap.size 59 3 v st.length (pcVs st)
  bel : Below w0.heap.size w0 w
theorem StT.below {w0 w w' : World} {v : Value} {st : List P} (h : StT w0 v st w) (hb : Below w.heap.size w w') : StT w0 v st w' :=
  ⟨h.own.kept (row := none) ⟨hb.os, hb.tape, hb.output, hb.size, fun k hk _ => hb.block k hk⟩ (by cases v.ownBlock <;> simp), h.bel.trans (hb.mono h.bel.size)⟩
theorem StT.form {w0 w : World} {v : Value} {st : List P} (h : StT w0 v st w) : ∃ p c, v = .slice p st.length c ∧ st.length ≤ c ∧ (0 < st.length → ∃ g, p = some ⟨g, 0, none⟩) := by
  rcases h.own.2 with ⟨rfl, h0⟩ | ⟨g, cap, cur, rfl, hb, hg, hnc, hcm, hcs, htake⟩
  · rw [h0]; exact ⟨none, 0, rfl, Nat.le_refl _, fun h => by omega⟩
  · exact ⟨some ⟨g, 0, none⟩, cap, rfl, hnc, fun _ => ⟨g, rfl⟩⟩
theorem pc_top {w : World} {g c : Nat} {B : Nat} {e : TypeId} {st : List P} (h : w.ownsRow B e 3 (.slice (some ⟨g, 0, none⟩) st.length c) st.length (pcVs st)) (i : Nat) (hi : i < st.length) :
    w.cell? ⟨g, i * 3, none⟩ = some (.string ⟨(st.getD i ([], 0, 0)).1.toArray⟩) ∧ w.cell? ⟨g, i * 3 + 1, none⟩ = some (.int .i64 (st.getD i ([], 0, 0)).2.1) ∧ w.cell? ⟨g, i * 3 + 2, none⟩ = some (.int .i64 (st.getD i ([], 0, 0)).2.2) := by
  have hp := pcVs_get st i hi
  have hd : st.getD i ([], 0, 0) = st[i] := by simp [List.getD, hi]
  rw [h.cellAt (i * 3) (by omega), h.cellAt (i * 3 + 1) (by omega), h.cellAt (i * 3 + 2) (by omega), hd]
  exact hp
theorem pc_take {w : World} {B : Nat} {e : TypeId} {p : Option Addr} {c : Nat} {l : List P} (h : w.ownsRow B e 3 (.slice p l.length c) l.length (pcVs l)) (k : Nat) (hk : k ≤ l.length) :
    w.ownsRow B e 3 (.slice p k c) k (pcVs (l.take k)) := by
  have hl : (pcVs (l.take k)).length = k * 3 := by rw [pcVs_length, List.length_take, Nat.min_eq_left hk]
  refine ⟨hl, ?_⟩
  rcases h.2 with ⟨h', h0⟩ | ⟨g', cap', cur, h', hb, hg, hnc, hcm, hcs, htake⟩
  · simp only [Value.slice.injEq] at h'
    obtain ⟨rfl, _, rfl⟩ := h'
    obtain rfl : k = 0 := by omega
    exact .inl ⟨rfl, rfl⟩
  · simp only [Value.slice.injEq] at h'
    obtain ⟨rfl, h2, rfl⟩ := h'
    refine .inr ⟨g', c, cur, rfl, hb, hg, by omega, hcm, hcs, ?_⟩
    have e1 : pcVs l = pcVs (l.take k) ++ pcVs (l.drop k) := by rw [← pcVs_append, List.take_append_drop]
    have e2 : cur.toList.take (k * 3) = (cur.toList.take (l.length * 3)).take (k * 3) := by rw [List.take_take, Nat.min_eq_left (by omega)]
    rw [e2, htake, e1, ← hl, List.take_left]
/-- A round of Text: the stack, the operation, the piece. -/
structure RnT (w0 : World) (B : Nat) (v : Value) (st : List P) (k n : Int) (g : Nat) (T : ByteArray) (r d : Int) (w : World) : Prop where
  stk : StT w0 v st w
  op : w.heap[B]? = some (opObj k n)
  val : w.heap[g]? = some (pcObj T r d)
  ne : v.ownBlock ≠ some g
  nb : B ≠ g
  ng : w0.heap.size ≤ g
section
variable {w0 w w' : World} {B : Nat} {v : Value} {st : List P} {k n : Int} {g : Nat} {T : ByteArray} {r d : Int}
theorem RnT.below (h : RnT w0 B v st k n g T r d w) (hb : Below w.heap.size w w') : RnT w0 B v st k n g T r d w' :=
  ⟨h.stk.below hb, one_below h.op hb, one_below h.val hb, h.ne, h.nb, h.ng⟩
theorem RnT.drew (h : RnT w0 B v st k n g T r d w) : RnT w0 B v st k n g T r d w.drew := h.below ⟨rfl, rfl, rfl, Nat.le_refl _, fun _ _ => rfl⟩
theorem RnT.alloc (h : RnT w0 B v st k n g T r d w) (o : Obj) : RnT w0 B v st k n g T r d (w.alloc o) := h.below ((Below.refl _ _).alloc (Nat.le_refl _) _)
theorem RnT.setAt (h : RnT w0 B v st k n g T r d w) (i : Nat) (u : Value) {T' : ByteArray} {r' d' : Int} (hc : (#[Value.string T, .int .i64 r, .int .i64 d] : Array Value).setIfInBounds i u = #[.string T', .int .i64 r', .int .i64 d']) : RnT w0 B v st k n g T' r' d' (w.setCell ⟨g, i, none⟩ u) := by
  refine ⟨⟨RdW.ownsRow_set h.stk.own h.ne _, h.stk.bel.setCell (by have := h.ng; show _ ≤ g; omega) _⟩, ?_, ?_, h.ne, h.nb, h.ng⟩
  · rw [Below.heap_setCell _ _ _ _ h.nb]; exact h.op
  · rw [RdW.heap_here h.val, hc]
theorem RnT.setT (h : RnT w0 B v st k n g T r d w) (T' : ByteArray) : RnT w0 B v st k n g T' r d (w.setCell ⟨g, 0, none⟩ (.string T')) := h.setAt 0 _ rfl
theorem RnT.setR (h : RnT w0 B v st k n g T r d w) (r' : Int) : RnT w0 B v st k n g T r' d (w.setCell ⟨g, 1, none⟩ (.int .i64 r')) := h.setAt 1 _ rfl
theorem RnT.setD (h : RnT w0 B v st k n g T r d w) (d' : Int) : RnT w0 B v st k n g T r d' (w.setCell ⟨g, 2, none⟩ (.int .i64 d')) := h.setAt 2 _ rfl
theorem RnT.new (h : StT w0 v st w) (ho : w.heap[B]? = some (opObj k n)) : RnT w0 B v st k n w.heap.size ⟨#[]⟩ 0 0 (w.alloc (pcObj ⟨#[]⟩ 0 0)) := by
  have hB := (Array.getElem?_eq_some_iff.1 ho).1
  refine ⟨h.below ((Below.refl _ _).alloc (Nat.le_refl _) _), ?_, ?_, ?_, by omega, h.bel.size⟩
  · rw [Below.heap_alloc _ _ _ hB]; exact ho
  · show (w.heap.push _)[w.heap.size]? = _; simp
  · intro he
    have := (h.own.lt _ he).2
    omega
end
theorem pc_eta (T : ByteArray) : (⟨T.data.toList.toArray⟩ : ByteArray) = T := str_eq rfl
theorem StT.push {w0 w w' : World} {v v2 v' : Value} {st : List P} {T : ByteArray} {r d : Int} {o : Obj} (h : StT w0 v st w) (hv : v2.ownBlock = v.ownBlock) (hg : ((w.alloc o).drew).grownBy w' v2.ownBlock) (m : Nat) (hm : m ≤ st.length) (ho : w'.ownsRow w0.heap.size 59 3 v' (m + 1) (pcVs (st.take m) ++ [.string T, .int .i64 r, .int .i64 d])) : StT w0 v' (st.take m ++ [(T.data.toList, r, d)]) w' := by
  rw [hv] at hg
  have hg : (w.alloc o).grownBy w' v.ownBlock := ⟨hg.os, hg.tape, hg.output, hg.size, hg.block⟩
  refine ⟨?_, ?_⟩
  · rw [show (st.take m ++ [(T.data.toList, r, d)]).length = m + 1 by simp; omega, pcVs_append]
    exact ho
  · exact (h.bel.alloc h.bel.size o).grown hg (Nat.le_trans h.bel.size (by simp)) (fun k hk => (h.own.lt _ hk).1)

theorem cell_f (w : World) {g b : Nat} (h : b ≠ g) (i : Nat) (u : Value) (a : Nat) : (w.setCell ⟨g, i, none⟩ u).cell? ⟨b, a, none⟩ = w.cell? ⟨b, a, none⟩ :=
  World.cell?_setCell_other _ _ _ _ (by intro e; simp only [Addr.mk.injEq] at e; exact h e.1.symm)
theorem cell_f1 (w : World) {g b : Nat} (h : b ≠ g) (u : Value) (a : Nat) : ((w.setCell ⟨g, 0, none⟩ u).drew).cell? ⟨b, a, none⟩ = w.cell? ⟨b, a, none⟩ := cell_f _ h 0 u a
theorem cell_f2 (w : World) {g b : Nat} (h : b ≠ g) (u v : Value) (a : Nat) : (((w.setCell ⟨g, 0, none⟩ u).setCell ⟨g, 2, none⟩ v).drew).cell? ⟨b, a, none⟩ = w.cell? ⟨b, a, none⟩ :=
  (cell_f _ h 2 v a).trans (cell_f _ h 0 u a)
theorem cell_f3 (w : World) {g b : Nat} (h : b ≠ g) (u v x : Value) (a : Nat) : (((w.setCell ⟨g, 0, none⟩ u).setCell ⟨g, 1, none⟩ v).setCell ⟨g, 2, none⟩ x).cell? ⟨b, a, none⟩ = w.cell? ⟨b, a, none⟩ :=
  (cell_f _ h 2 x a).trans ((cell_f _ h 1 v a).trans (cell_f _ h 0 u a))

/-- All of them small. -/
def Sm (st : List P) : Prop := ∀ p ∈ st, p.1.length ≤ 300 ∧ 0 ≤ p.2.2 ∧ p.2.2 ≤ 30
theorem Sm.take {st : List P} (h : Sm st) (k : Nat) : Sm (st.take k) := fun x hx => h x (List.mem_of_mem_take hx)
theorem Sm.getD {st : List P} (h : Sm st) (i : Nat) : (st.getD i ([], 0, 0)).1.length ≤ 300 ∧ 0 ≤ (st.getD i ([], 0, 0)).2.2 ∧ (st.getD i ([], 0, 0)).2.2 ≤ 30 := by
  by_cases hi : i < st.length
  · have : st.getD i ([], 0, 0) = st[i] := by simp [List.getD, hi]
    rw [this]; exact h _ (List.getElem_mem hi)
  · have : st.getD i ([], 0, 0) = ([], 0, 0) := by simp [List.getD, Nat.le_of_not_lt hi]
    rw [this]; decide
theorem inside_pos (p : P) (least : Int) (h : 0 ≤ p.2.2) : 0 ≤ (insideV p least).2.2 := by unfold insideV; split <;> (try dsimp only) <;> omega
theorem raw_small {st : List P} (h : Sm st) {k n : Int} (hk : kn k n = true) : (rawV st k n).1.length ≤ 700 ∧ 0 ≤ (rawV st k n).2 ∧ (rawV st k n).2 ≤ 40 := by
  have h1 := h.getD (st.length - 1)
  have h2 := h.getD (st.length - 2)
  have e1 : topP st 1 = st.getD (st.length - 1) ([], 0, 0) := rfl
  have e2 : topP st 2 = st.getD (st.length - 2) ([], 0, 0) := rfl
  rw [← e1] at h1
  rw [← e2] at h2
  unfold rawV
  rcases kn_kinds hk with ⟨rfl, hb⟩ | ⟨rfl, hb⟩ | ⟨hk3, hk6, _⟩ | ⟨rfl, _⟩
  · rw [if_pos rfl]
    have := text_length (n := n) ((okN_iff _).2 ⟨by omega, hb.2⟩)
    exact ⟨by dsimp only; omega, Int.le_refl 0, by show (0 : Int) ≤ 40; decide⟩
  · rw [if_neg (by decide), if_pos rfl]
    have : (36 :: Lib.decDigits n.toNat).length ≤ 3 := by
      have hn : n.toNat ≤ 99 := by omega
      rw [dec_two hn]
      unfold two; split <;> simp
    exact ⟨by dsimp only; omega, Int.le_refl 0, by show (0 : Int) ≤ 40; decide⟩
  · rw [if_neg (by omega), if_neg (by omega), if_neg (by omega)]
    unfold pairV
    obtain ⟨a1, a2⟩ := inside_len (topP st 2) (Tx.rk k)
    obtain ⟨b1, b2⟩ := inside_len (topP st 1) (Tx.rk k + 1)
    have a3 := inside_pos (topP st 2) (Tx.rk k) h2.2.1
    simp only [List.length_append, List.length_cons]
    exact ⟨by omega, by omega, by omega⟩
  · rw [if_neg (by decide), if_neg (by decide), if_pos rfl]
    obtain ⟨b1, b2⟩ := inside_len (topP st 1) 3
    have a3 := inside_pos (topP st 1) 3 h1.2.1
    simp only [List.length_cons]
    exact ⟨by omega, by omega, by omega⟩
/-- What Text returns. -/
def textOut : Option (List UInt8) → ByteArray × Bool
  | some x => (⟨x.toArray⟩, true)
  | none => (⟨#[]⟩, false)
theorem runT_step {l : List (Int × Int)} {st : List P} {j : Nat} {k n : Int} (hj : j < l.length) (hk : l[j].1 = k) (hn : l[j].2 = n) : Tx.runT (l.drop j) st = (if fits (rawV st k n) = true then Tx.runT (l.drop (j + 1)) (nextT st k n) else none) ∧ (Fit (l.drop j) st.length → kn k n = true ∧ tk k ≤ st.length ∧ Fit (l.drop (j + 1)) (st.length - tk k + 1)) := by
  rw [List.drop_eq_getElem_cons hj, Tx.runT, hk, hn]
  refine ⟨rfl, fun h => ?_⟩
  unfold Fit at h
  rw [hk, hn] at h
  exact h
theorem next_len (st : List P) (k n : Int) : (nextT st k n).length = st.length - tk k + 1 := by
  unfold nextT; simp
theorem next_sm {st : List P} (h : Sm st) {k n : Int} (hk : kn k n = true) (hf : fits (rawV st k n) = true) : Sm (nextT st k n) := by
  intro p hp
  unfold nextT at hp
  rcases List.mem_append.1 hp with hp | hp
  · exact h.take _ p hp
  · simp only [List.mem_singleton] at hp
    subst hp
    unfold fits at hf
    simp only [Bool.and_eq_true, decide_eq_true_eq] at hf
    exact ⟨hf.1, (raw_small h hk).2.1, hf.2⟩

/-- pair, whichever the operation. -/
theorem pair_c (k : Int) (hk : 3 ≤ k ∧ k ≤ 6) (S T : ByteArray) (r d q e : Int) (hS : S.size ≤ 100000) (hT : T.size ≤ 100000) (hd0 : 0 ≤ d) (hd1 : d ≤ 100000) (he0 : 0 ≤ e) (he1 : e ≤ 100000) (X : ByteArray) (x : Int) (h : Hid (((pairV k (S.data.toList, r, d) (T.data.toList, q, e)).1, (pairV k (S.data.toList, r, d) (T.data.toList, q, e)).2.2) = (X.data.toList, x))) (w : World) :
    Calls Tryd.prog 26 #[.int .i64 k, pcVal S r d, pcVal T q e] w (PcOut X 0 x w) := by
  have h' := h.out
  unfold pairV at h'
  obtain ⟨S1, hS1⟩ := str_ex (insideV (S.data.toList, r, d) (Tx.rk k)).1
  obtain ⟨T1, hT1⟩ := str_ex (insideV (T.data.toList, q, e) (Tx.rk k + 1)).1
  simp only [Prod.mk.injEq] at h'
  obtain ⟨h1, h2⟩ := h'
  subst h2
  have ha : Hid (insideV (S.data.toList, r, d) (Tx.rk k) = (S1.data.toList, (insideV (S.data.toList, r, d) (Tx.rk k)).2.1, (insideV (S.data.toList, r, d) (Tx.rk k)).2.2)) := by show _ = _; rw [hS1]
  have hb : Hid (insideV (T.data.toList, q, e) (Tx.rk k + 1) = (T1.data.toList, (insideV (T.data.toList, q, e) (Tx.rk k + 1)).2.1, (insideV (T.data.toList, q, e) (Tx.rk k + 1)).2.2)) := by show _ = _; rw [hT1]
  rw [← hS1, ← hT1] at h1
  have hk' : k = 3 ∨ k = 4 ∨ k = 5 ∨ k = 6 := by omega
  rcases hk' with rfl | rfl | rfl | rfl
  · obtain rfl : S1 ++ ⟨#[43]⟩ ++ T1 = X := str_eq (by rw [app_list, app_list, ← h1]; simp [sign])
    exact pair_add S T r d q e S1 T1 _ _ _ _ hS hT hd0 hd1 he0 he1 ha hb w
  · obtain rfl : S1 ++ ⟨#[45]⟩ ++ T1 = X := str_eq (by rw [app_list, app_list, ← h1]; simp [sign])
    exact pair_sub S T r d q e S1 T1 _ _ _ _ hS hT hd0 hd1 he0 he1 ha hb w
  · obtain rfl : S1 ++ ⟨#[120]⟩ ++ T1 = X := str_eq (by rw [app_list, app_list, ← h1]; simp [sign])
    exact pair_mul S T r d q e S1 T1 _ _ _ _ hS hT hd0 hd1 he0 he1 ha hb w
  · obtain rfl : S1 ++ ⟨#[47]⟩ ++ T1 = X := str_eq (by rw [app_list, app_list, ← h1]; simp [sign])
    exact pair_div S T r d q e S1 T1 _ _ _ _ hS hT hd0 hd1 he0 he1 ha hb w
end Go.Proofs.YtkfjmcdfamhiaaaDoor.TxW
