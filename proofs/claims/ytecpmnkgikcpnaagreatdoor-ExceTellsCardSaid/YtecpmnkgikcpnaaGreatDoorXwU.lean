/-
  A row of drill commands of the law's own in memory, and what a store into it leaves.
-/
import Derived.Test.YtecpmnkgikcpnaaGreatDoorXwT
set_option linter.unusedVariables false
set_option linter.unusedSimpArgs false
namespace Go.Proofs.YtecpmnkgikcpnaaGreatDoor.XW
open Go.RowKit Go.Proofs.YtecpmnkgikcpnaaGreatDoor.Base Go.Proofs.YtecpmnkgikcpnaaGreatDoor.Dp Go.Proofs.YtecpmnkgikcpnaaGreatDoor.Xp

theorem ten_row {l : List (Nat × D)} {cur : Array Value} {x : Nat × D} {nv : Value} {o : Nat} (h : ∀ j, j < 10 → cur[o + j]? = (rowV x nv)[j]?) {w : World} {g : Nat} (hg : w.heap[g]? = some (.cells cur 32)) : Ten w g o x nv := by
  have key : ∀ j, j < 10 → w.cell? ⟨g, o + j, none⟩ = (rowV x nv)[j]? := by
    intro j hj
    rw [← h j hj]
    simp [World.cell?, hg]
  exact ⟨key 0 (by decide), key 1 (by decide), key 2 (by decide), key 3 (by decide), key 4 (by decide), key 5 (by decide), key 6 (by decide), key 7 (by decide), key 8 (by decide), key 9 (by decide)⟩
/-- Block g is a row of commands that reads as l. -/
def CIn (B : Nat) (w : World) (g : Nat) (l : List (Nat × D)) : Prop :=
  ∃ cur : Array Value, w.heap[g]? = some (.cells cur 32) ∧ ∀ i (hi : i < l.length), ∃ np nc, (∀ j, j < 10 → cur[i * 10 + j]? = (rowV l[i] (.slice np l[i].2.nums.length nc))[j]?) ∧ NumsIn B w np l[i].2.nums
theorem CIn.lt {B : Nat} {w : World} {g : Nat} {l : List (Nat × D)} (h : CIn B w g l) : g < w.heap.size := by
  obtain ⟨cur, hh, _⟩ := h
  exact (Array.getElem?_eq_some_iff.1 hh).1
theorem CIn.reads {B : Nat} {w : World} {g : Nat} {l : List (Nat × D)} (h : CIn B w g l) : DrIn B w (some ⟨g, 0, none⟩) l := by
  intro _
  have hlt := h.lt
  obtain ⟨cur, hh, hc⟩ := h
  refine ⟨g, 0, rfl, hlt, fun i hi => ?_⟩
  obtain ⟨np, nc, h1, h2⟩ := hc i hi
  refine ⟨np, nc, ?_, h2⟩
  rw [Nat.zero_add]
  exact ten_row (l := l) h1 hh
theorem CIn.below {B : Nat} {w w' : World} {g : Nat} {l : List (Nat × D)} (h : CIn B w g l) (hb : Below w.heap.size w w') : CIn B w' g l := by
  obtain ⟨cur, hh, hc⟩ := h
  refine ⟨cur, one_below hh hb, fun i hi => ?_⟩
  obtain ⟨np, nc, h1, h2⟩ := hc i hi
  exact ⟨np, nc, h1, h2.below hb⟩
theorem CIn.frozen {B : Nat} {w : World} {g : Nat} {l : List (Nat × D)} (h : CIn B w g l) (o : Nat) : w.frozen? ⟨g, o, none⟩ = false := by
  obtain ⟨cur, hh, hc⟩ := h
  simp [World.frozen?, hh]
theorem CIn.at {B : Nat} {w : World} {g : Nat} {l : List (Nat × D)} (h : CIn B w g l) (i : Nat) (hi : i < l.length) : ∃ np nc, Ten w g (i * 10) l[i] (.slice np l[i].2.nums.length nc) ∧ NumsIn B w np l[i].2.nums := by
  obtain ⟨cur, hh, hc⟩ := h
  obtain ⟨np, nc, h1, h2⟩ := hc i hi
  exact ⟨np, nc, ten_row (l := l) h1 hh, h2⟩
/-- A command stored at a place of a row, cell by cell. -/
def put10 (w : World) (g o : Nat) (x : Nat × D) (nv : Value) : World :=
  (((((((((w.setCell ⟨g, o, none⟩ (.int .i64 (x.1 : Int))).setCell ⟨g, o + 1, none⟩ (.int .i64 x.2.k)).setCell ⟨g, o + 2, none⟩ (.int .i64 x.2.n)).setCell ⟨g, o + 3, none⟩ (.bool x.2.on)).setCell ⟨g, o + 4, none⟩ (.string ⟨x.2.t.toArray⟩)).setCell ⟨g, o + 5, none⟩ (.string ⟨x.2.x.toArray⟩)).setCell ⟨g, o + 6, none⟩ (.string ⟨x.2.y.toArray⟩)).setCell ⟨g, o + 7, none⟩ (.string ⟨x.2.u.toArray⟩)).setCell ⟨g, o + 8, none⟩ (.string ⟨x.2.v.toArray⟩)).setCell ⟨g, o + 9, none⟩ nv
theorem put10_below {B : Nat} {w0 w : World} (h : Below B w0 w) {g : Nat} (hg : B ≤ g) (o : Nat) (x : Nat × D) (nv : Value) : Below B w0 (put10 w g o x nv) := by
  unfold put10
  exact (((((((((h.setCell hg _).setCell hg _).setCell hg _).setCell hg _).setCell hg _).setCell hg _).setCell hg _).setCell hg _).setCell hg _).setCell hg _
theorem put10_heap (w : World) {g c : Nat} (h : c ≠ g) (o : Nat) (x : Nat × D) (nv : Value) : (put10 w g o x nv).heap[c]? = w.heap[c]? := by
  have key : ∀ (w : World) (i : Nat) (u : Value), (w.setCell ⟨g, i, none⟩ u).heap[c]? = w.heap[c]? := fun w i u => Below.heap_setCell _ _ _ _ h
  unfold put10
  rw [key, key, key, key, key, key, key, key, key, key]
theorem nums_apart {B : Nat} {w w' : World} {g : Nat} {cur : Array Value} {p : Option Addr} {l : List Int} (hg : w.heap[g]? = some (.cells cur 32)) (hw : ∀ c, c ≠ g → w'.heap[c]? = w.heap[c]?) (h : NumsIn B w p l) : NumsIn B w' p l := by
  intro hl
  obtain ⟨b, o, cs, rfl, hB, hh, hc⟩ := h hl
  refine ⟨b, o, cs, rfl, hB, ?_, hc⟩
  rw [hw b ?_]
  · exact hh
  · rintro rfl
    rw [hg] at hh
    injection hh with hh
    injection hh with _ ht
    exact absurd ht (by decide)
/-- The row's place k holds another command. -/
theorem CIn.put {B : Nat} {w : World} {g : Nat} {l : List (Nat × D)} (h : CIn B w g l) (k : Nat) (hk : k < l.length) (x : Nat × D) (np : Option Addr) (nc : Nat) (hn : NumsIn B w np x.2.nums) : CIn B (put10 w g (k * 10) x (.slice np x.2.nums.length nc)) g (l.set k x) := by
  obtain ⟨cur, hh, hc⟩ := h
  have hsz : k * 10 + 9 < cur.size := by
    obtain ⟨np', nc', h1, _⟩ := hc k hk
    have := h1 9 (by decide)
    rcases Nat.lt_or_ge (k * 10 + 9) cur.size with h' | h'
    · exact h'
    · rw [Array.getElem?_eq_none h'] at this
      cases this
  refine ⟨_, here (here (here (here (here (here (here (here (here (here hh _ _) _ _) _ _) _ _) _ _) _ _) _ _) _ _) _ _) _ _, fun i hi => ?_⟩
  rw [List.length_set] at hi
  have hnn : ∀ p n, NumsIn B w p n → NumsIn B (put10 w g (k * 10) x (.slice np x.2.nums.length nc)) p n := fun p n hp => nums_apart hh (fun c hc => put10_heap w hc _ _ _) hp
  by_cases hik : i = k
  · subst hik
    refine ⟨np, nc, fun j hj => ?_, ?_⟩
    · rw [List.getElem_set_self]
      have hj2 : j = 0 ∨ j = 1 ∨ j = 2 ∨ j = 3 ∨ j = 4 ∨ j = 5 ∨ j = 6 ∨ j = 7 ∨ j = 8 ∨ j = 9 := by omega
      rcases hj2 with rfl | rfl | rfl | rfl | rfl | rfl | rfl | rfl | rfl | rfl <;> simp [Array.getElem?_setIfInBounds, rowV, drCells] <;> first | omega | skip
    · rw [List.getElem_set_self]; exact hnn _ _ hn
  · obtain ⟨np', nc', h1, h2⟩ := hc i hi
    refine ⟨np', nc', fun j hj => ?_, ?_⟩
    · rw [List.getElem_set_ne (by omega), ← h1 j hj]
      have q : ∀ m, m < 10 → ¬ k * 10 + m = i * 10 + j := fun m hm => by omega
      have q0 := q 0 (by decide)
      simp only [Nat.add_zero] at q0
      simp [Array.getElem?_setIfInBounds, q0, q 1 (by decide), q 2 (by decide), q 3 (by decide), q 4 (by decide), q 5 (by decide), q 6 (by decide), q 7 (by decide), q 8 (by decide), q 9 (by decide)]
    · rw [List.getElem_set_ne (by omega)]; exact hnn _ _ h2
/-- The row's place k stands elsewhere. -/
theorem CIn.put0 {B : Nat} {w : World} {g : Nat} {l : List (Nat × D)} (h : CIn B w g l) (k : Nat) (hk : k < l.length) (a : Nat) : CIn B (w.setCell ⟨g, k * 10, none⟩ (.int .i64 (a : Int))) g (l.set k (a, l[k].2)) := by
  obtain ⟨cur, hh, hc⟩ := h
  have hsz : k * 10 < cur.size := by
    obtain ⟨np', nc', h1, _⟩ := hc k hk
    have := h1 0 (by decide)
    rcases Nat.lt_or_ge (k * 10) cur.size with h' | h'
    · exact h'
    · rw [Array.getElem?_eq_none (by omega)] at this
      cases this
  refine ⟨_, here hh _ _, fun i hi => ?_⟩
  rw [List.length_set] at hi
  have hnn : ∀ p n, NumsIn B w p n → NumsIn B (w.setCell ⟨g, k * 10, none⟩ (.int .i64 (a : Int))) p n := fun p n hp => nums_apart hh (fun c hc => Below.heap_setCell _ _ _ _ hc) hp
  obtain ⟨np', nc', h1, h2⟩ := hc i hi
  by_cases hik : i = k
  · subst hik
    refine ⟨np', nc', fun j hj => ?_, ?_⟩
    · rw [List.getElem_set_self]
      by_cases hj0 : j = 0
      · subst hj0
        simp [Array.getElem?_setIfInBounds, rowV, drCells, hsz]
      · have := h1 j hj
        rw [Array.getElem?_setIfInBounds, if_neg (by omega), this]
        have hj2 : j = 1 ∨ j = 2 ∨ j = 3 ∨ j = 4 ∨ j = 5 ∨ j = 6 ∨ j = 7 ∨ j = 8 ∨ j = 9 := by omega
        rcases hj2 with rfl | rfl | rfl | rfl | rfl | rfl | rfl | rfl | rfl <;> rfl
    · rw [List.getElem_set_self]; exact hnn _ _ h2
  · refine ⟨np', nc', fun j hj => ?_, ?_⟩
    · rw [List.getElem_set_ne (by omega), ← h1 j hj, Array.getElem?_setIfInBounds, if_neg (by omega)]
    · rw [List.getElem_set_ne (by omega)]; exact hnn _ _ h2
/-- What append leaves is such a row. -/
theorem CIn.of_own {B : Nat} {w : World} {v : Value} {l : List (Nat × D)} {xs : List Value} (hl : 0 < l.length) (ho : w.ownsRow B 32 10 v l.length xs) {C : Nat} (hr : RowsAt C w l xs) : ∃ g cap, v = .slice (some ⟨g, 0, none⟩) l.length cap ∧ B ≤ g ∧ CIn C w g l := by
  obtain ⟨ns, hn1, rfl, hn3⟩ := hr
  rcases ho.2 with ⟨_, h0⟩ | ⟨g, cap, cur, rfl, hb, hg, hnc, hcm, hcs, htake⟩
  · omega
  · refine ⟨g, cap, rfl, hb, cur, hg, fun i hi => ?_⟩
    obtain ⟨p, c, e, hp⟩ := hn3 i hi (by omega)
    refine ⟨p, c, fun j hj => ?_, hp⟩
    rw [← e, ← rowsV_get l ns hn1 i hi j hj, ← htake, List.getElem?_take_of_lt (by omega)]
    simp
theorem CIn.mono {B C : Nat} {w : World} {g : Nat} {l : List (Nat × D)} (h : CIn B w g l) (hC : C ≤ B) : CIn C w g l := by
  obtain ⟨cur, hh, hc⟩ := h
  refine ⟨cur, hh, fun i hi => ?_⟩
  obtain ⟨np, nc, h1, h2⟩ := hc i hi
  exact ⟨np, nc, h1, h2.mono hC⟩
/-- A store into another command's block leaves the row. -/
theorem CIn.far {B : Nat} {w w' : World} {g gx : Nat} {l : List (Nat × D)} {cur : Array Value} (h : CIn B w g l) (hg : g ≠ gx) (hX : w.heap[gx]? = some (.cells cur 32)) (hw : ∀ c, c ≠ gx → w'.heap[c]? = w.heap[c]?) : CIn B w' g l := by
  obtain ⟨cu, hh, hc⟩ := h
  refine ⟨cu, (hw g hg).trans hh, fun i hi => ?_⟩
  obtain ⟨np, nc, h1, h2⟩ := hc i hi
  exact ⟨np, nc, h1, nums_apart hX hw h2⟩
/-- A list of one command in memory. -/
theorem one_in {w : World} {b : Nat} {p : Option Addr} {c B : Nat} {a : Nat} {d : D} (h : w.heap[b]? = some (.cells #[.int .i64 (a : Int), .int .i64 d.k, .int .i64 d.n, .bool d.on, .string ⟨d.t.toArray⟩, .string ⟨d.x.toArray⟩, .string ⟨d.y.toArray⟩, .string ⟨d.u.toArray⟩, .string ⟨d.v.toArray⟩, .slice p d.nums.length c] 32)) (hn : NumsIn B w p d.nums) :
    DrIn B w (some ⟨b, 0, none⟩) [(a, d)] := by
  intro _
  refine ⟨b, 0, rfl, (Array.getElem?_eq_some_iff.1 h).1, fun i hi => ?_⟩
  obtain rfl : i = 0 := by simp at hi; omega
  obtain ⟨⟨d0, d1, d2, d3, d4, d5, d6, d7, d8, d9⟩, _⟩ := dr_at h
  exact ⟨p, c, ⟨d0, d1, d2, d3, d4, d5, d6, d7, d8, d9⟩, hn⟩
end Go.Proofs.YtecpmnkgikcpnaaGreatDoor.XW
