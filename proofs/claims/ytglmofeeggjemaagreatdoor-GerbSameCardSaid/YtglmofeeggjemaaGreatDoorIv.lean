/-
  A row of commands of the call's own: read, stored into.
-/
import Derived.Test.YtglmofeeggjemaaGreatDoorIr
import Derived.Test.YtglmofeeggjemaaGreatDoorIt
import Derived.Test.YtglmofeeggjemaaGreatDoorIu
set_option linter.unusedVariables false
namespace Go.Proofs.YtglmofeeggjemaaGreatDoor.GW
open Go.RowKit Go.Proofs.YtglmofeeggjemaaGreatDoor.Base Go.Proofs.YtglmofeeggjemaaGreatDoor.Dp Go.Proofs.YtglmofeeggjemaaGreatDoor.DeciW Go.Proofs.YtglmofeeggjemaaGreatDoor.Mem Go.Proofs.YtglmofeeggjemaaGreatDoor.RdW Go.Proofs.YtglmofeeggjemaaGreatDoor.Gp

def putL (cur : Array Value) (o : Nat) : List Value → Array Value
  | [] => cur
  | v :: vs => putL (cur.setIfInBounds o v) (o + 1) vs
theorem putL_get : ∀ (vs : List Value) (cur : Array Value) (o i : Nat), (putL cur o vs)[i]? = if o ≤ i ∧ i < o + vs.length ∧ i < cur.size then vs[i - o]? else cur[i]?
  | [], cur, o, i => by
    rw [if_neg (by simp only [List.length_nil]; omega)]
    rfl
  | v :: vs, cur, o, i => by
    show (putL (cur.setIfInBounds o v) (o + 1) vs)[i]? = _
    rw [putL_get vs]
    simp only [List.length_cons, Array.size_setIfInBounds]
    by_cases h : o + 1 ≤ i ∧ i < o + 1 + vs.length ∧ i < cur.size
    · rw [if_pos h, if_pos (by omega), show i - o = (i - (o + 1)) + 1 by omega]
      rfl
    · rw [if_neg h, Array.getElem?_setIfInBounds]
      by_cases ho : o = i
      · subst ho
        by_cases hs : o < cur.size
        · rw [if_pos rfl, if_pos hs, if_pos ⟨Nat.le_refl _, by omega, hs⟩, Nat.sub_self]; rfl
        · rw [if_pos rfl, if_neg hs, if_neg (by omega), Array.getElem?_eq_none (by omega)]
      · rw [if_neg ho, if_neg (by omega)]
/-- A command stored at a place of a row. -/
def put12 (w : World) (g o : Nat) (c : C) (a : Int) (nv bv : Value) : World :=
  (((((((((((w.setCell ⟨g, o, none⟩ (.int .i64 a)).setCell ⟨g, o + 1, none⟩ (.int .i64 c.k)).setCell ⟨g, o + 2, none⟩ (.int .i64 c.n)).setCell ⟨g, o + 3, none⟩ (.int .i64 c.m)).setCell ⟨g, o + 4, none⟩ (.bool c.on)).setCell ⟨g, o + 5, none⟩ (.string ⟨c.t.toArray⟩)).setCell ⟨g, o + 6, none⟩ (.string ⟨c.x.toArray⟩)).setCell ⟨g, o + 7, none⟩ (.string ⟨c.y.toArray⟩)).setCell ⟨g, o + 8, none⟩ (.string ⟨c.i.toArray⟩)).setCell ⟨g, o + 9, none⟩ (.string ⟨c.j.toArray⟩)).setCell ⟨g, o + 10, none⟩ nv).setCell ⟨g, o + 11, none⟩ bv
theorem put12_below {B : Nat} {w0 w : World} (h : Below B w0 w) {g : Nat} (hg : B ≤ g) (o : Nat) (c : C) (a : Int) (nv bv : Value) : Below B w0 (put12 w g o c a nv bv) := by
  unfold put12
  exact (((((((((((h.setCell hg _).setCell hg _).setCell hg _).setCell hg _).setCell hg _).setCell hg _).setCell hg _).setCell hg _).setCell hg _).setCell hg _).setCell hg _).setCell hg _
theorem put12_far (w : World) {g d : Nat} (h : d ≠ g) (o : Nat) (c : C) (a : Int) (nv bv : Value) : (put12 w g o c a nv bv).heap[d]? = w.heap[d]? := by
  have key : ∀ (w : World) (i : Nat) (u : Value), (w.setCell ⟨g, i, none⟩ u).heap[d]? = w.heap[d]? := fun w i u => Below.heap_setCell _ _ _ _ h
  unfold put12
  rw [key, key, key, key, key, key, key, key, key, key, key, key]
theorem put12_here {w : World} {g : Nat} {cs : Array Value} {t : TypeId} (h : w.heap[g]? = some (.cells cs t)) (o : Nat) (c : C) (a : Int) (nv bv : Value) :
    (put12 w g o c a nv bv).heap[g]? = some (.cells (putL cs o (cmCells c a nv bv).toList) t) := by
  have h1 := heap_here (heap_here (heap_here (heap_here (heap_here (heap_here (heap_here (heap_here (heap_here (heap_here (heap_here (heap_here h o (.int .i64 a)) (o + 1) (.int .i64 c.k)) (o + 2) (.int .i64 c.n)) (o + 3) (.int .i64 c.m)) (o + 4) (.bool c.on)) (o + 5) (.string ⟨c.t.toArray⟩)) (o + 6) (.string ⟨c.x.toArray⟩)) (o + 7) (.string ⟨c.y.toArray⟩)) (o + 8) (.string ⟨c.i.toArray⟩)) (o + 9) (.string ⟨c.j.toArray⟩)) (o + 10) nv) (o + 11) bv
  exact h1
theorem keep_far {T : TypeId} {w w' : World} {g : Nat} {cs : Array Value} (hg : w.heap[g]? = some (.cells cs T)) (hs : w'.heap.size = w.heap.size) (hf : ∀ d, d ≠ g → w'.heap[d]? = w.heap[d]?) : KeepT T w w' := by
  refine ⟨by omega, fun k ds t fz hk ht => ?_⟩
  rw [hf k ?_]
  · exact hk
  · intro e
    rw [e, hg] at hk
    injection hk with hk
    injection hk with _ e2 _
    exact ht e2.symm
/-- A row of commands in block g. -/
def CIn (w : World) (g : Nat) (l : List (Nat × C)) : Prop := ∃ cs, w.heap[g]? = some (.cells cs 32) ∧ ∀ i (hi : i < l.length), ∃ q r k m, (∀ j, j < 12 → cs[i * 12 + j]? = (cmCells l[i].2 (l[i].1 : Int) (.slice q l[i].2.nums.length k) (.slice r l[i].2.blocks.length m))[j]?) ∧ NumsIn 0 w q l[i].2.nums ∧ BlksIn 0 w r l[i].2.blocks
theorem CIn.reads {w : World} {g : Nat} {l : List (Nat × C)} (h : CIn w g l) : ReadC 0 w (some ⟨g, 0, none⟩) l := by
  intro _
  obtain ⟨cs, hg, hc⟩ := h
  refine ⟨g, 0, cs, rfl, Nat.zero_le _, hg, fun i hi => ?_⟩
  obtain ⟨q, r, k, m, h1, h2⟩ := hc i hi
  exact ⟨q, r, k, m, fun j hj => by rw [Nat.zero_add]; exact h1 j hj, h2⟩
theorem CIn.lt {w : World} {g : Nat} {l : List (Nat × C)} (h : CIn w g l) : g < w.heap.size := by
  obtain ⟨cs, hg, _⟩ := h
  exact (Array.getElem?_eq_some_iff.1 hg).1
theorem CIn.frozen {w : World} {g : Nat} {l : List (Nat × C)} (h : CIn w g l) (o : Nat) : w.frozen? ⟨g, o, none⟩ = false := by
  obtain ⟨cs, hg, _⟩ := h
  simp [World.frozen?, hg]
theorem CIn.below {w w' : World} {g : Nat} {l : List (Nat × C)} (h : CIn w g l) (hb : Below w.heap.size w w') : CIn w' g l := by
  obtain ⟨cs, hg, hc⟩ := h
  refine ⟨cs, one_below hg hb, fun i hi => ?_⟩
  obtain ⟨q, r, k, m, h1, h2, h3⟩ := hc i hi
  exact ⟨q, r, k, m, h1, h2.below hb, h3.below hb⟩
theorem CIn.keep {w w' : World} {g : Nat} {l : List (Nat × C)} (h : CIn w g l) (hg' : w'.heap[g]? = w.heap[g]?) (hn : ∀ p n, NumsIn 0 w p n → NumsIn 0 w' p n) (hb : ∀ p n, BlksIn 0 w p n → BlksIn 0 w' p n) : CIn w' g l := by
  obtain ⟨cs, hg, hc⟩ := h
  refine ⟨cs, hg'.trans hg, fun i hi => ?_⟩
  obtain ⟨q, r, k, m, h1, h2, h3⟩ := hc i hi
  exact ⟨q, r, k, m, h1, hn _ _ h2, hb _ _ h3⟩
theorem CIn.at {w : World} {g : Nat} {l : List (Nat × C)} (h : CIn w g l) (i : Nat) (hi : i < l.length) : ∃ q r k m, CmAt w g (i * 12) l[i].2 (l[i].1 : Int) (.slice q l[i].2.nums.length k) (.slice r l[i].2.blocks.length m) ∧ NumsIn 0 w q l[i].2.nums ∧ BlksIn 0 w r l[i].2.blocks := by
  obtain ⟨cs, hg, hc⟩ := h
  obtain ⟨q, r, k, m, h1, h2⟩ := hc i hi
  exact ⟨q, r, k, m, cmAt_of hg h1, h2⟩
theorem cin_of {w : World} {B D : Nat} {v : Value} {l : List (Nat × C)} {xs : List Value} (hx : w.ownsRow B 32 12 v l.length xs) (hr : RowsAt D w l xs) (hl : 0 < l.length) : ∃ g cap, v = .slice (some ⟨g, 0, none⟩) l.length cap ∧ B ≤ g ∧ CIn w g l := by
  rcases hx.2 with ⟨h1, h2⟩ | ⟨g, c, cur, h1, h2, h3, h4, h5, h6, h7⟩
  · omega
  · refine ⟨g, c, h1, h2, cur, h3, fun i hi => ?_⟩
    obtain ⟨p, q, k, m, g1, g2, g3⟩ := hr.get i hi
    refine ⟨p, q, k, m, fun j hj => ?_, g2.mono (Nat.zero_le _), g3.mono (Nat.zero_le _)⟩
    rw [← g1 j hj, ← h7, List.getElem?_take_of_lt (by omega), Array.getElem?_toList]
theorem CIn.put {w : World} {g : Nat} {l : List (Nat × C)} (h : CIn w g l) (K : Nat) (hK : K < l.length) (x : Nat × C) {q r : Option Addr} (k m : Nat) (hn : NumsIn 0 w q x.2.nums) (hb : BlksIn 0 w r x.2.blocks) :
    CIn (put12 w g (K * 12) x.2 (x.1 : Int) (.slice q x.2.nums.length k) (.slice r x.2.blocks.length m)) g (l.set K x) := by
  obtain ⟨cs, hg, hc⟩ := h
  have hk : KeepT 32 w (put12 w g (K * 12) x.2 (x.1 : Int) (.slice q x.2.nums.length k) (.slice r x.2.blocks.length m)) := keep_far hg (by simp [put12]) (fun d hd => put12_far w hd _ _ _ _ _)
  refine ⟨_, put12_here hg _ _ _ _ _, fun i hi => ?_⟩
  rw [List.length_set] at hi
  obtain ⟨q1, r1, k1, m1, h1, h2, h3⟩ := hc i hi
  have hsz : ∀ i (hi : i < l.length) j, j < 12 → i * 12 + j < cs.size := fun i hi j hj => by
    obtain ⟨q1, r1, k1, m1, h1, _⟩ := hc i hi
    have e := h1 j hj
    have h2 : ∃ v, (cmCells l[i].2 (l[i].1 : Int) (.slice q1 l[i].2.nums.length k1) (.slice r1 l[i].2.blocks.length m1))[j]? = some v := ⟨_, Array.getElem?_eq_getElem (by show j < 12; exact hj)⟩
    obtain ⟨v, hv⟩ := h2
    rw [hv] at e
    exact (Array.getElem?_eq_some_iff.1 e).1
  by_cases hik : K = i
  · subst hik
    simp only [List.getElem_set_self]
    refine ⟨q, r, k, m, fun j hj => ?_, hn.keep hk (by decide), hb.keep hk (by decide) (by decide) (by decide)⟩
    rw [putL_get, if_pos ⟨by omega, by show _ < _ + 12; omega, hsz K hi j hj⟩, show K * 12 + j - K * 12 = j by omega, Array.getElem?_toList]
  · simp only [List.getElem_set_ne hik]
    refine ⟨q1, r1, k1, m1, fun j hj => ?_, h2.keep hk (by decide), h3.keep hk (by decide) (by decide) (by decide)⟩
    rw [putL_get, if_neg (by
      show ¬ (K * 12 ≤ i * 12 + j ∧ i * 12 + j < K * 12 + 12 ∧ _)
      omega)]
    exact h1 j hj
/-- The place of a command alone. -/
theorem CIn.put0 {w : World} {g : Nat} {l : List (Nat × C)} (h : CIn w g l) (K : Nat) (hK : K < l.length) (a : Nat) : CIn (w.setCell ⟨g, K * 12, none⟩ (.int .i64 (a : Int))) g (l.set K (a, l[K].2)) := by
  obtain ⟨cs, hg, hc⟩ := h
  have hk : KeepT 32 w (w.setCell ⟨g, K * 12, none⟩ (.int .i64 (a : Int))) := keep_far hg (by simp) (fun d hd => Below.heap_setCell _ _ _ _ hd)
  refine ⟨_, heap_here hg _ _, fun i hi => ?_⟩
  rw [List.length_set] at hi
  obtain ⟨q1, r1, k1, m1, h1, h2, h3⟩ := hc i hi
  by_cases hik : K = i
  · subst hik
    simp only [List.getElem_set_self]
    refine ⟨q1, r1, k1, m1, fun j hj => ?_, h2.keep hk (by decide), h3.keep hk (by decide) (by decide) (by decide)⟩
    have e := h1 j hj
    rw [Array.getElem?_setIfInBounds]
    match j, hj with
    | 0, _ =>
      rw [Nat.add_zero] at e ⊢
      rw [if_pos rfl, if_pos (by
        have : cs[K * 12]? = some (.int .i64 (l[K].1 : Int)) := e
        exact (Array.getElem?_eq_some_iff.1 this).1)]
      rfl
    | j + 1, hj =>
      rw [if_neg (by omega), e]
      rfl
  · simp only [List.getElem_set_ne hik]
    refine ⟨q1, r1, k1, m1, fun j hj => ?_, h2.keep hk (by decide), h3.keep hk (by decide) (by decide) (by decide)⟩
    rw [Array.getElem?_setIfInBounds, if_neg (by omega)]
    exact h1 j hj
theorem cat_eq (l : List UInt8) (c : UInt8) : (⟨l.toArray⟩ : ByteArray) ++ ⟨#[c]⟩ = ⟨(l ++ [c]).toArray⟩ := str_eq (by rw [app_list])
end Go.Proofs.YtglmofeeggjemaaGreatDoor.GW
