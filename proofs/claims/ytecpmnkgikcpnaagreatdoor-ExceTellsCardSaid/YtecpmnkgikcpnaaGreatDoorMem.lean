/-
  Plain: slices of bytes in memory: what they read as, kept over new memory; a row of bytes of the call's own, with a mark behind it; append onto it. No program in sight.
-/
import Derived.Below
import Derived.Laws.OwnMore
import Derived.Deep.Draws
import Derived.Shelf.Bytes.SlSmallAll
import Derived.Laws.BytesArg
import Derived.Laws.IdiomStrings
import Derived.Laws.CopyRow
import Derived.OwnWalk
namespace Go.Proofs.YtecpmnkgikcpnaaGreatDoor.Mem
open Go.RowKit

def num (l : List UInt8) : List Int := l.map fun c => (c.toNat : Int)
def byteVs (l : List UInt8) : List Value := l.map fun c => Value.int .u8 (c.toNat : Int)
theorem num_length (l : List UInt8) : (num l).length = l.length := by simp [num]
theorem byteVs_length (l : List UInt8) : (byteVs l).length = l.length := by simp [byteVs]
theorem num_append (a b : List UInt8) : num (a ++ b) = num a ++ num b := by simp [num]
theorem byteVs_append (a b : List UInt8) : byteVs (a ++ b) = byteVs a ++ byteVs b := by simp [byteVs]
theorem bytesOf_num (l : List UInt8) : Lib.bytesOf (num l) = l := by
  unfold Lib.bytesOf num
  rw [List.map_map]
  conv => rhs; rw [← List.map_id l]
  apply List.map_congr_left
  intro c _
  simp
theorem strOfNums_num (l : List UInt8) : strOfNums (num l) = ⟨l.toArray⟩ := by
  unfold strOfNums
  have h := bytesOf_num l
  unfold Lib.bytesOf at h
  rw [h]
theorem num_getD (l : List UInt8) (i : Nat) (h : i < l.length) : (num l).getD i 0 = (l[i].toNat : Int) := by
  simp [num, List.getD, h]
theorem byteVs_get (l : List UInt8) (i : Nat) (h : i < l.length) : (byteVs l)[i]? = some (.int .u8 (l[i].toNat : Int)) := by
  simp [byteVs, h]
theorem byteVs_map (l : List UInt8) : (num l).map (Value.int .u8) = byteVs l := by simp [byteVs, num]
theorem byteVs_one (l : List UInt8) : ∀ u ∈ byteVs l, u.oneCell' = true := by
  intro u hu
  unfold byteVs at hu
  obtain ⟨c, _, rfl⟩ := List.mem_map.1 hu
  rfl
/-- Numbers that are bytes are bytes' numbers. -/
theorem num_of (xs : List Int) (h : ∀ x ∈ xs, 0 ≤ x ∧ x ≤ 255) : num (Lib.bytesOf xs) = xs := by
  unfold num Lib.bytesOf
  rw [List.map_map]
  conv => rhs; rw [← List.map_id xs]
  apply List.map_congr_left
  intro x hx
  obtain ⟨h0, h1⟩ := h x hx
  simp only [Function.comp, id]
  rw [UInt8.toNat_ofNat', Nat.mod_eq_of_lt (by omega)]
  omega

/-- The slice at p reads as the bytes l. -/
def RB (w : World) (p : Option Addr) (l : List UInt8) : Prop := Lib.BytesIn w p l.length (num l)
theorem RB.nil (w : World) (p : Option Addr) : RB w p [] := Lib.BytesIn.nil w p _
theorem lt_of_cell {w : World} {a : Addr} {u : Value} (h : w.cell? a = some u) : a.block < w.heap.size := by
  rcases Nat.lt_or_ge a.block w.heap.size with h' | h'
  · exact h'
  · simp [World.cell?, Array.getElem?_eq_none h'] at h
theorem RB.cell {w : World} {b o : Nat} {l : List UInt8} (h : RB w (some ⟨b, o, none⟩) l) (i : Nat) (hi : i < l.length) : w.cell? ⟨b, o + i, none⟩ = some (.int .u8 (l[i].toNat : Int)) := by
  obtain ⟨b', o', e, hc⟩ := h.at (by omega)
  injection e with e
  injection e with e1 e2 _
  subst e1; subst e2
  rw [hc i hi, num_getD l i hi]
theorem RB.addr {w : World} {p : Option Addr} {l : List UInt8} (h : RB w p l) (hl : 0 < l.length) : ∃ b o, p = some ⟨b, o, none⟩ := by
  obtain ⟨b, o, e, _⟩ := h.at hl
  exact ⟨b, o, e⟩
theorem RB.of {w : World} {b o : Nat} {l : List UInt8} (h : ∀ i (hi : i < l.length), w.cell? ⟨b, o + i, none⟩ = some (.int .u8 (l[i].toNat : Int))) : RB w (some ⟨b, o, none⟩) l :=
  fun _ => ⟨b, o, rfl, fun i hi => by rw [h i hi, num_getD l i hi]⟩
theorem RB.lt {w : World} {b o : Nat} {l : List UInt8} (h : RB w (some ⟨b, o, none⟩) l) (hl : 0 < l.length) : b < w.heap.size := lt_of_cell (h.cell 0 hl)
theorem RB.keep {w w' : World} {p : Option Addr} {l : List UInt8} (h : RB w p l) (hk : ∀ a : Addr, (∃ u, w.cell? a = some u) → w'.cell? a = w.cell? a) : RB w' p l := by
  intro hl
  obtain ⟨b, o, rfl, hc⟩ := h.at hl
  exact ⟨b, o, rfl, fun i hi => by rw [hk _ ⟨_, hc i hi⟩]; exact hc i hi⟩
theorem RB.below {w w' : World} {p : Option Addr} {l : List UInt8} (h : RB w p l) (hb : Below w.heap.size w w') : RB w' p l :=
  h.keep fun a ⟨_, ha⟩ => hb.cell (p := a) (lt_of_cell ha)
/-- Below a number that bounds the slice's own block. -/
theorem RB.belowB {w w' : World} {B b o : Nat} {l : List UInt8} (h : RB w (some ⟨b, o, none⟩) l) (hb : Below B w w') (hlt : b < B) : RB w' (some ⟨b, o, none⟩) l :=
  RB.of fun i hi => (hb.cell (p := ⟨b, o + i, none⟩) hlt).trans (h.cell i hi)
theorem RB.take {w : World} {p : Option Addr} {l : List UInt8} (h : RB w p l) (k : Nat) : RB w p (l.take k) := by
  intro hl
  have hl' : 0 < l.length := by simp at hl; omega
  obtain ⟨b, o, rfl⟩ := h.addr hl'
  refine ⟨b, o, rfl, fun i hi => ?_⟩
  rw [num_getD _ i hi]
  have hi' : i < l.length := by simp at hi; omega
  rw [h.cell i hi']
  simp
theorem RB.drop {w : World} {b o : Nat} {l : List UInt8} (h : RB w (some ⟨b, o, none⟩) l) (k : Nat) : RB w (some ⟨b, o + k, none⟩) (l.drop k) := by
  refine RB.of fun i hi => ?_
  have hi' : k + i < l.length := by simp at hi; omega
  rw [Nat.add_assoc, h.cell (k + i) hi']
  simp
theorem RB.str {P : Program} {w : World} {p : Option Addr} {l : List UInt8} (h : RB w p l) (src e dst : TypeId) (hs : P.underlying src = some (.slice e)) (he : P.underlying e = some (.int .u8)) (hd : P.underlying dst = some .string) (n c : Nat) (hn : n = l.length) :
    (convert src dst (.slice p n c)).run P w = .ok (.string ⟨l.toArray⟩) w := by
  subst hn
  rcases Nat.eq_zero_or_pos l.length with h0 | h0
  · obtain rfl : l = [] := List.eq_nil_of_length_eq_zero h0
    exact Go.Proofs.run_convert_bytes_zero w src e hs he p c dst hd
  · obtain ⟨b, o, rfl, hc⟩ := h.at h0
    rw [run_convert_bytes_arg w src e hs he b o l.length c (num l) (num_length l) hc dst hd, strOfNums_num]
/-- What open_ints gives of a slice of bytes. -/
theorem RB.of_ints {w : World} {a : Addr} {n : Nat} {xs : List Int} (hn : xs.length = n) (hc : ∀ i, i < n → w.cell? (a.add i) = some (.int .u8 (xs.getD i 0))) (h : ∀ x ∈ xs, 0 ≤ x ∧ x ≤ 255) : RB w (some a) (Lib.bytesOf xs) := by
  unfold RB
  have hl : (Lib.bytesOf xs).length = n := by simp [Lib.bytesOf, hn]
  rw [hl, num_of xs h]
  exact Lib.BytesIn.of_cells hc

/-- A row of bytes of the call's own from block B on: cap bytes, of which the first are l; what is marked lies behind it. -/
def Own (w : World) (B : Nat) (e : TypeId) (g cap : Nat) (l : List UInt8) : Prop :=
  ∃ cur fz, B ≤ g ∧ w.heap[g]? = some (.cells cur e fz) ∧ (fz.2 = 0 ∨ cap ≤ fz.1) ∧ l.length ≤ cap ∧ cap ≤ maxLen ∧ cur.size = cap ∧ cur.toList.take l.length = byteVs l
theorem Own.lt {w : World} {B g cap : Nat} {e : TypeId} {l : List UInt8} (h : Own w B e g cap l) : g < w.heap.size := by
  obtain ⟨_, _, _, hg, _⟩ := h
  exact (Array.getElem?_eq_some_iff.1 hg).1
theorem Own.ge {w : World} {B g cap : Nat} {e : TypeId} {l : List UInt8} (h : Own w B e g cap l) : B ≤ g := by
  obtain ⟨_, _, hb, _⟩ := h
  exact hb
theorem Own.cap_le {w : World} {B g cap : Nat} {e : TypeId} {l : List UInt8} (h : Own w B e g cap l) : l.length ≤ cap ∧ cap ≤ maxLen := by
  obtain ⟨_, _, _, _, _, h1, h2, _⟩ := h
  exact ⟨h1, h2⟩
theorem Own.reads {w : World} {B g cap : Nat} {e : TypeId} {l : List UInt8} (h : Own w B e g cap l) : RB w (some ⟨g, 0, none⟩) l := by
  obtain ⟨cur, fz, _, hg, _, _, _, _, ht⟩ := h
  refine RB.of fun i hi => ?_
  rw [Nat.zero_add, cell_of_row w g i cur e fz hg]
  have := byteVs_get l i hi
  rw [← ht, List.getElem?_take, if_pos hi] at this
  simpa using this
theorem Own.below {w w' : World} {B g cap : Nat} {e : TypeId} {l : List UInt8} (h : Own w B e g cap l) (hb : Below w.heap.size w w') : Own w' B e g cap l := by
  have hl := h.lt
  obtain ⟨cur, fz, h1, hg, h2⟩ := h
  exact ⟨cur, fz, h1, (hb.block g hl).trans hg, h2⟩
theorem Own.unfrozen {w : World} {B g cap : Nat} {e : TypeId} {l : List UInt8} (h : Own w B e g cap l) (i : Nat) (hi : i < cap) : w.frozen? ⟨g, i, none⟩ = false := by
  obtain ⟨cur, fz, _, hg, hfz, _⟩ := h
  obtain ⟨lo, hi'⟩ := fz
  simp only [World.frozen?, hg, Bool.and_eq_false_iff, decide_eq_false_iff_not]
  simp only at hfz
  omega
theorem Own.set {w : World} {B g cap : Nat} {e : TypeId} {l : List UInt8} (h : Own w B e g cap l) (i : Nat) (x : UInt8) : Own (w.setCell ⟨g, i, none⟩ (.int .u8 (x.toNat : Int))) B e g cap (l.set i x) := by
  obtain ⟨cur, fz, hb, hg, hfz, hnc, hcm, hcs, ht⟩ := h
  refine ⟨cur.setIfInBounds i (.int .u8 (x.toNat : Int)), fz, hb, ?_, hfz, by simpa using hnc, hcm, by simpa using hcs, ?_⟩
  · show (Array.modify _ _ _)[g]? = _
    rw [Array.getElem?_modify, if_pos rfl, hg]; rfl
  · rw [Array.toList_setIfInBounds, List.length_set, List.take_set, ht]
    unfold byteVs
    rw [List.map_set]
theorem Own.mono {w : World} {B B' g cap : Nat} {e : TypeId} {l : List UInt8} (h : Own w B e g cap l) (hB : B' ≤ B) : Own w B' e g cap l := by
  obtain ⟨cur, fz, h1, h2⟩ := h
  exact ⟨cur, fz, by omega, h2⟩
/-- []byte(s): the row. -/
theorem own_conv (w : World) (B : Nat) (e : TypeId) (s : ByteArray) (cap : Nat) (hB : B ≤ w.heap.size) (hc : s.size ≤ cap) (hm : cap ≤ maxLen) :
    Own (w.alloc (.cells (bytesRow s cap) e ((bytesRow s cap).size, (bytesRow s cap).size + 1))) B e w.heap.size cap s.data.toList := by
  have hz : (bytesRow s cap).size = cap := by
    unfold bytesRow
    simp
    have : s.data.size = s.size := rfl
    omega
  refine ⟨_, _, hB, heap_alloc_new w _, .inr (by rw [hz]; exact Nat.le_refl _), by simpa using hc, hm, hz, ?_⟩
  unfold bytesRow byteVs
  simp
/-- []byte{}: no byte. -/
theorem own_ownsRow {w : World} {B g n cap : Nat} {e : TypeId} {l : List UInt8} (h : w.ownsRow B e 1 (.slice (some ⟨g, 0, none⟩) n cap) n (byteVs l)) : n = l.length ∧ Own w B e g cap l := by
  obtain ⟨hl, h⟩ := h
  rw [byteVs_length, Nat.mul_one] at hl
  subst hl
  refine ⟨rfl, ?_⟩
  rcases h with ⟨h, _⟩ | ⟨g', cap', cur, hv, hb, hg, h1, h2, h3, h4⟩
  · cases h
  · injection hv with hv _ hc
    injection hv with hv
    injection hv with hv _ _
    subst hv; subst hc
    rw [Nat.mul_one] at h3 h4
    exact ⟨cur, (0, 0), hb, hg, .inl rfl, h1, h2, h3, h4⟩

section
variable {P : Program}
/-- Stores into cells of which none is marked. -/
theorem run_storeCells_apart (g o : Nat) (t : TypeId) (fz : Nat × Nat) : ∀ (vs : List Value) (i : Nat) (cur : Array Value) (w : World), w.heap[g]? = some (.cells cur t fz) → (fz.2 ≤ o + i ∨ o + i + vs.length ≤ fz.1) → o + i + vs.length ≤ cur.size → (∀ v ∈ vs, v.oneCell' = true) →
    (storeCells ⟨g, o, none⟩ vs i).run P w = .ok () (w.setRow g (cur.toList.take (o + i) ++ vs ++ cur.toList.drop (o + i + vs.length)).toArray)
  | [], i, cur, w, hg, _, _, _ => by
    simp only [storeCells, List.append_nil, List.length_nil, Nat.add_zero, List.take_append_drop, Array.toArray_toList]
    rw [setRow_self w g cur t fz hg]
    rfl
  | v :: rest, i, cur, w, hg, hfz, hl, h1 => by
    have hi : o + i < cur.size := by simp at hl; omega
    have hadd : (⟨g, o, none⟩ : Addr).add i = ⟨g, o + i, none⟩ := by unfold Addr.add; split <;> simp_all
    have hcell : w.cell? ⟨g, o + i, none⟩ = some cur[o + i] := by simp [World.cell?, hg, hi]
    have hfro : w.frozen? ⟨g, o + i, none⟩ = false := by
      obtain ⟨lo, hi'⟩ := fz
      simp only [World.frozen?, hg, Bool.and_eq_false_iff, decide_eq_false_iff_not]
      simp only [List.length_cons] at hfz
      rcases hfz with hfz | hfz
      · right; omega
      · left; omega
    have hst : (store ((⟨g, o, none⟩ : Addr).add i) v).run P w = .ok () (w.setRow g (cur.setIfInBounds (o + i) v)) := by
      rw [hadd, run_store P w _ v _ (h1 v (by simp)), hcell]
      simp [hfro, setCell_eq_setRow w g (o + i) cur t fz v hg]
    have ih := run_storeCells_apart g o t fz rest (i + 1) (cur.setIfInBounds (o + i) v) (w.setRow g (cur.setIfInBounds (o + i) v)) (setRow_heap w g cur _ t _ hg) (by simp only [List.length_cons] at hfz; omega) (by simp at hl ⊢; omega) (fun x hx => h1 x (by simp [hx]))
    simp only [storeCells, Sem.run_bind, hst, Result.andThen_ok, ih, setRow_setRow]
    congr 3
    have e := list_seg_step cur.toList (o + i) v rest (by simp at hl ⊢; omega)
    simpa [Array.toList_setIfInBounds, Nat.add_assoc] using e

/-- append(b, x...) onto a row of bytes of the call's own. -/
theorem run_append_bytes (w : World) (B : Nat) (t ty e : TypeId) (i : TypeInfo) (ht : P.underlying t = some (.slice e)) (hi : P.info? e = some i) (hz : i.zero = some (.int .u8 0)) (hsize : i.size = 1) (hby : i.bytes = 1)
    (g cap : Nat) (l : List UInt8) (hown : Own w B e g cap l) (p : Option Addr) (m c : Nat) (x : List UInt8) (hm : m = x.length) (hr : RB w p x)
    (hbytes : l.length + x.length ≤ 140737488355328) (hB : B ≤ w.heap.size) :
    ∃ g' cap' w', (Builtin.append_ #[t, t] ty #[.slice (some ⟨g, 0, none⟩) l.length cap, .slice p m c]).run P w = .ok (.slice (some ⟨g', 0, none⟩) (l.length + m) cap') w' ∧ Own w' B e g' cap' (l ++ x) ∧ w.grownBy w' (some g) ∧ (g' = g ∨ g' = w.heap.size) := by
  subst hm
  obtain ⟨cur, fz, hb, hg, hfz, hnc, hcm, hcs, htake⟩ := hown
  rcases Nat.eq_zero_or_pos x.length with h0 | h0
  · obtain rfl : x = [] := List.eq_nil_of_length_eq_zero h0
    refine ⟨g, cap, w, ?_, by rw [List.append_nil]; exact ⟨cur, fz, hb, hg, hfz, hnc, hcm, hcs, htake⟩, World.grownBy.refl w _, .inl rfl⟩
    cases p <;> simp [Builtin.append_, run_underlying ht, sizeOf, typeInfo, hi, Builtin.lenOf, Builtin.firstCells, loadCells, loadCellsFrom, storeCells, hnc]
  · obtain ⟨b, o, rfl⟩ := hr.addr h0
    have hnews : ∀ j u, (byteVs x)[j]? = some u → w.cell? ((⟨b, o, none⟩ : Addr).add j) = some u := by
      intro j u hu
      have hj : j < x.length := by
        have := (List.getElem?_eq_some_iff.1 hu).1
        rwa [byteVs_length] at this
      rw [byteVs_get x j hj] at hu
      injection hu with hu
      rw [Go.WideShapes.add_plain, hr.cell j hj, hu]
    have hl1 : (byteVs x).length = x.length * i.size := by rw [byteVs_length, hsize, Nat.mul_one]
    by_cases hroom : l.length + x.length ≤ cap
    · have hf := run_firstCells_some (P := P) w i.size x.length ⟨b, o, none⟩ x.length c (byteVs x) hl1 hnews
      have hst := run_storeCells_apart (P := P) g l.length e fz (byteVs x) 0 cur w hg (by rw [byteVs_length]; omega) (by rw [byteVs_length]; omega) (byteVs_one x)
      simp only [Nat.add_zero] at hst
      rw [hsize] at hf
      have hrun : (Builtin.append_ #[t, t] ty #[.slice (some ⟨g, 0, none⟩) l.length cap, .slice (some ⟨b, o, none⟩) x.length c]).run P w = .ok (.slice (some ⟨g, 0, none⟩) (l.length + x.length) cap) (w.setRow g (cur.toList.take l.length ++ byteVs x ++ cur.toList.drop (l.length + (byteVs x).length)).toArray) := by
        simp [Builtin.append_, run_underlying ht, sizeOf, typeInfo, hi, Builtin.lenOf, hroom, hf, Addr.add_lit, hsize, hst]
      refine ⟨g, cap, _, hrun, ?_, ⟨rfl, rfl, rfl, by simp, fun k _ hk => setRow_other w g k _ (fun e => hk (by simp [e]))⟩, .inl rfl⟩
      refine ⟨_, fz, hb, setRow_heap w g cur _ e _ hg, ?_, by simpa using hroom, hcm, ?_, ?_⟩
      · exact hfz
      · rw [byteVs_length]
        simp only [List.size_toArray, List.length_append, List.length_take, List.length_drop, Array.length_toList, byteVs_length]
        omega
      · rw [htake, ← byteVs_append, ← byteVs_length (l ++ x)]
        exact List.take_left
    · have holds : ∀ j u, (byteVs l)[j]? = some u → w.cell? ((⟨g, 0, none⟩ : Addr).add j) = some u := by
        intro j u hu
        rw [Go.WideShapes.add_plain, Nat.zero_add, cell_of_row w g j cur e fz hg]
        rw [← htake, List.getElem?_take] at hu
        split at hu
        · simpa using hu
        · cases hu
      have hr' := run_append_grow (P := P) w t ty e i (.int .u8 0) ht hi hz ⟨g, 0, none⟩ l.length cap (byteVs l) (by rw [byteVs_length, hsize, Nat.mul_one]) holds ⟨b, o, none⟩ x.length c (byteVs x) hl1 hnews (by omega) (by omega) (growslice_fits (by omega) (by rw [hby, Nat.mul_one]; exact hbytes))
      have hge := grownCap_ge w (l.length + x.length) cap e
      have hcm2 : grownCap w (l.length + x.length) cap e ≤ maxLen := grownCap_le_maxLen w (l.length + x.length) cap e (by unfold maxLen; omega)
      refine ⟨w.heap.size, _, _, hr', ⟨_, (0, 0), hB, heap_alloc_new w.drew _, .inl rfl, by simpa using hge, hcm2, ?_, ?_⟩, ⟨rfl, rfl, rfl, by simp, fun k hk _ => Below.heap_alloc w.drew _ k hk⟩, .inr rfl⟩
      · simp only [Array.size_append, List.size_toArray, size_zeroCells, byteVs_length]
        simp [Value.cells]
        omega
      · simp only [Array.toList_append, List.append_assoc]
        rw [← List.append_assoc, ← byteVs_append, ← byteVs_length (l ++ x)]
        exact List.take_left
/-- '[]byte(s)': a row of the call's own. -/
theorem conv_bytes (w : World) (src dst e : TypeId) (s : ByteArray) (hs : P.underlying src = some .string) (hd : P.underlying dst = some (.slice e)) (he : P.underlying e = some (.int .u8)) (hz : s.size ≤ maxLen) :
    ∃ cap w1, (convert src dst (.string s)).run P w = .ok (.slice (some ⟨w.heap.size, 0, none⟩) s.size cap) w1 ∧ Own w1 w.heap.size e w.heap.size cap s.data.toList ∧ Below w.heap.size w w1 ∧ w1.heap.size = w.heap.size + 1 := by
  have hc : s.size ≤ grownCap w s.size 0 e := grownCap_ge w s.size 0 e
  have hm : grownCap w s.size 0 e ≤ maxLen := grownCap_le_maxLen w s.size 0 e hz
  refine ⟨_, _, run_bytes_of_string w src dst e s hs hd he, ?_, ((Below.refl _ _).drew).alloc (Nat.le_refl _) _, by simp⟩
  exact own_conv w.drew w.heap.size e s _ (Nat.le_refl _) hc hm

theorem wpList_append_bytes (w : World) {ops : Array Oper} {rest : List Oper} {o : Oper} {a : Act} {Q : Exit → Act → World → Prop} (hgd : o.guard = none) (s y : Operand) (t : TypeId)
    (ho : o.op = .call { callee := .builtin .append, args := #[s, y], argTypes := #[t, t] }) (B : Nat) (e : TypeId) (i : TypeInfo) (ht : P.underlying t = some (.slice e)) (hi : P.info? e = some i) (hz : i.zero = some (.int .u8 0)) (hsize : i.size = 1) (hby : i.bytes = 1)
    (g n cap : Nat) (l : List UInt8) (hs : a.eval s = .slice (some ⟨g, 0, none⟩) n cap) (hn : n = l.length) (hown : Own w B e g cap l) (p : Option Addr) (m c : Nat) (x : List UInt8) (hx : a.eval y = .slice p m c) (hm : m = x.length) (hr : RB w p x)
    (hbytes : l.length + x.length ≤ 140737488355328) (hB : B ≤ w.heap.size)
    (h : ∀ g' cap' w', Own w' B e g' cap' (l ++ x) → w.grownBy w' (some g) → (g' = g ∨ g' = w.heap.size) → wpList P ops Q rest (a.put o.dst (.slice (some ⟨g', 0, none⟩) (n + m) cap')) w') : wpList P ops Q (o :: rest) a w := by
  subst hn
  obtain ⟨g', cap', w', hrun, h1, h2, h3⟩ := run_append_bytes (P := P) w B t o.type e i ht hi hz hsize hby g cap l hown p m c x hm hr hbytes hB
  refine wpList_plain hgd fun _ hK => ?_
  unfold Oper.wp execOp
  simp only [ho, resolve, invoke, builtin, Sem.run_bind, Sem.run_pure, Result.andThen_ok, List.map_toArray, List.map_cons, List.map_nil, hs, hx, hrun]
  exact hK _ _ (h g' cap' w' h1 h2 h3)
end
end Go.Proofs.YtecpmnkgikcpnaaGreatDoor.Mem
