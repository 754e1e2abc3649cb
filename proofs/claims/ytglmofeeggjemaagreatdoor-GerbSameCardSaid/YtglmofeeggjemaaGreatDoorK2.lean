/-
  Several texts in one: Mem, RdW, DeciW, DeciV, RefN, RefK, RefE, Bits.
-/
import Derived.Below
import Derived.Laws.OwnMore
import Derived.Deep.Draws
import Derived.Shelf.Bytes.SlSmallAll
import Derived.Laws.BytesArg
import Derived.Laws.IdiomStrings
import Derived.Laws.CopyRow
import Derived.OwnWalk
import Derived.Test.YtglmofeeggjemaaGreatDoorK1
import Derived.Test.YtglmofeeggjemaaGreatDoorBase
import Derived.Deep.AppendLies
import Derived.Lib.FrozenHead
import Derived.Test.YtglmofeeggjemaaGreatDoorProg
import Derived.WalkKit
import Derived.WalkSpells
import Derived.WalkLawsBesides
import Derived.Lib.Hide
import Derived.Deep.DeepCutAuto
import Derived.Deep.CutRange
import Derived.Lib.Strings
import Derived.Outline
import Derived.Laws.BitsLemmas
set_option linter.unusedVariables false
namespace Go.Proofs.YtglmofeeggjemaaGreatDoor.Mem
open Go.RowKit

def num (l : List UInt8) : List Int := l.map fun c => (c.toNat : Int)
def byteVs (l : List UInt8) : List Value := l.map fun c => Value.int .u8 (c.toNat : Int)
theorem num_length (l : List UInt8) : (num l).length = l.length := by simp [num]
theorem byteVs_length (l : List UInt8) : (byteVs l).length = l.length := by simp [byteVs]
theorem num_append (a b : List UInt8) : num (a ++ b) = num a ++ num b := by simp [num]
theorem byteVs_append (a b : List UInt8) : byteVs (a ++ b) = byteVs a ++ byteVs b := by simp [byteVs]
theorem bytesOf_num (l : List UInt8) : Lib.bytesOf (num l) = l := by
  unfold Lib.bytesOf num
  rw [List.map_map]
  conv => rhs; rw [← List.map_id l]
  apply List.map_congr_left
  intro c _
  simp
theorem strOfNums_num (l : List UInt8) : strOfNums (num l) = ⟨l.toArray⟩ := by
  unfold strOfNums
  have h := bytesOf_num l
  unfold Lib.bytesOf at h
  rw [h]
theorem num_getD (l : List UInt8) (i : Nat) (h : i < l.length) : (num l).getD i 0 = (l[i].toNat : Int) := by
  simp [num, List.getD, h]
theorem byteVs_get (l : List UInt8) (i : Nat) (h : i < l.length) : (byteVs l)[i]? = some (.int .u8 (l[i].toNat : Int)) := by
  simp [byteVs, h]
theorem byteVs_map (l : List UInt8) : (num l).map (Value.int .u8) = byteVs l := by simp [byteVs, num]
theorem byteVs_one (l : List UInt8) : ∀ u ∈ byteVs l, u.oneCell' = true := by
  intro u hu
  unfold byteVs at hu
  obtain ⟨c, _, rfl⟩ := List.mem_map.1 hu
  rfl
/-- Numbers that are bytes are bytes' numbers. -/
theorem num_of (xs : List Int) (h : ∀ x ∈ xs, 0 ≤ x ∧ x ≤ 255) : num (Lib.bytesOf xs) = xs := by
  unfold num Lib.bytesOf
  rw [List.map_map]
  conv => rhs; rw [← List.map_id xs]
  apply List.map_congr_left
  intro x hx
  obtain ⟨h0, h1⟩ := h x hx
  simp only [Function.comp, id]
  rw [UInt8.toNat_ofNat', Nat.mod_eq_of_lt (by omega)]
  omega

/-- The slice at p reads as the bytes l. -/
def RB (w : World) (p : Option Addr) (l : List UInt8) : Prop := Lib.BytesIn w p l.length (num l)
theorem RB.nil (w : World) (p : Option Addr) : RB w p [] := Lib.BytesIn.nil w p _
theorem lt_of_cell {w : World} {a : Addr} {u : Value} (h : w.cell? a = some u) : a.block < w.heap.size := by
  rcases Nat.lt_or_ge a.block w.heap.size with h' | h'
  · exact h'
  · simp [World.cell?, Array.getElem?_eq_none h'] at h
theorem RB.cell {w : World} {b o : Nat} {l : List UInt8} (h : RB w (some ⟨b, o, none⟩) l) (i : Nat) (hi : i < l.length) : w.cell? ⟨b, o + i, none⟩ = some (.int .u8 (l[i].toNat : Int)) := by
  obtain ⟨b', o', e, hc⟩ := h.at (by omega)
  injection e with e
  injection e with e1 e2 _
  subst e1; subst e2
  rw [hc i hi, num_getD l i hi]
theorem RB.addr {w : World} {p : Option Addr} {l : List UInt8} (h : RB w p l) (hl : 0 < l.length) : ∃ b o, p = some ⟨b, o, none⟩ := by
  obtain ⟨b, o, e, _⟩ := h.at hl
  exact ⟨b, o, e⟩
theorem RB.of {w : World} {b o : Nat} {l : List UInt8} (h : ∀ i (hi : i < l.length), w.cell? ⟨b, o + i, none⟩ = some (.int .u8 (l[i].toNat : Int))) : RB w (some ⟨b, o, none⟩) l :=
  fun _ => ⟨b, o, rfl, fun i hi => by rw [h i hi, num_getD l i hi]⟩
theorem RB.lt {w : World} {b o : Nat} {l : List UInt8} (h : RB w (some ⟨b, o, none⟩) l) (hl : 0 < l.length) : b < w.heap.size := lt_of_cell (h.cell 0 hl)
theorem RB.keep {w w' : World} {p : Option Addr} {l : List UInt8} (h : RB w p l) (hk : ∀ a : Addr, (∃ u, w.cell? a = some u) → w'.cell? a = w.cell? a) : RB w' p l := by
  intro hl
  obtain ⟨b, o, rfl, hc⟩ := h.at hl
  exact ⟨b, o, rfl, fun i hi => by rw [hk _ ⟨_, hc i hi⟩]; exact hc i hi⟩
theorem RB.below {w w' : World} {p : Option Addr} {l : List UInt8} (h : RB w p l) (hb : Below w.heap.size w w') : RB w' p l :=
  h.keep fun a ⟨_, ha⟩ => hb.cell (p := a) (lt_of_cell ha)
/-- Below a number that bounds the slice's own block. -/
theorem RB.belowB {w w' : World} {B b o : Nat} {l : List UInt8} (h : RB w (some ⟨b, o, none⟩) l) (hb : Below B w w') (hlt : b < B) : RB w' (some ⟨b, o, none⟩) l :=
  RB.of fun i hi => (hb.cell (p := ⟨b, o + i, none⟩) hlt).trans (h.cell i hi)
theorem RB.take {w : World} {p : Option Addr} {l : List UInt8} (h : RB w p l) (k : Nat) : RB w p (l.take k) := by
  intro hl
  have hl' : 0 < l.length := by simp at hl; omega
  obtain ⟨b, o, rfl⟩ := h.addr hl'
  refine ⟨b, o, rfl, fun i hi => ?_⟩
  rw [num_getD _ i hi]
  have hi' : i < l.length := by simp at hi; omega
  rw [h.cell i hi']
  simp
theorem RB.drop {w : World} {b o : Nat} {l : List UInt8} (h : RB w (some ⟨b, o, none⟩) l) (k : Nat) : RB w (some ⟨b, o + k, none⟩) (l.drop k) := by
  refine RB.of fun i hi => ?_
  have hi' : k + i < l.length := by simp at hi; omega
  rw [Nat.add_assoc, h.cell (k + i) hi']
  simp
theorem RB.str {P : Program} {w : World} {p : Option Addr} {l : List UInt8} (h : RB w p l) (src e dst : TypeId) (hs : P.underlying src = some (.slice e)) (he : P.underlying e = some (.int .u8)) (hd : P.underlying dst = some .string) (n c : Nat) (hn : n = l.length) :
    (convert src dst (.slice p n c)).run P w = .ok (.string ⟨l.toArray⟩) w := by
  subst hn
  rcases Nat.eq_zero_or_pos l.length with h0 | h0
  · obtain rfl : l = [] := List.eq_nil_of_length_eq_zero h0
    exact Go.Proofs.run_convert_bytes_zero w src e hs he p c dst hd
  · obtain ⟨b, o, rfl, hc⟩ := h.at h0
    rw [run_convert_bytes_arg w src e hs he b o l.length c (num l) (num_length l) hc dst hd, strOfNums_num]
/-- What open_ints gives of a slice of bytes. -/
theorem RB.of_ints {w : World} {a : Addr} {n : Nat} {xs : List Int} (hn : xs.length = n) (hc : ∀ i, i < n → w.cell? (a.add i) = some (.int .u8 (xs.getD i 0))) (h : ∀ x ∈ xs, 0 ≤ x ∧ x ≤ 255) : RB w (some a) (Lib.bytesOf xs) := by
  unfold RB
  have hl : (Lib.bytesOf xs).length = n := by simp [Lib.bytesOf, hn]
  rw [hl, num_of xs h]
  exact Lib.BytesIn.of_cells hc

/-- A row of bytes of the call's own from block B on: cap bytes, of which the first are l; what is marked lies behind it. -/
def Own (w : World) (B : Nat) (e : TypeId) (g cap : Nat) (l : List UInt8) : Prop :=
  ∃ cur fz, B ≤ g ∧ w.heap[g]? = some (.cells cur e fz) ∧ (fz.2 = 0 ∨ cap ≤ fz.1) ∧ l.length ≤ cap ∧ cap ≤ maxLen ∧ cur.size = cap ∧ cur.toList.take l.length = byteVs l
theorem Own.lt {w : World} {B g cap : Nat} {e : TypeId} {l : List UInt8} (h : Own w B e g cap l) : g < w.heap.size := by
  obtain ⟨_, _, _, hg, _⟩ := h
  exact (Array.getElem?_eq_some_iff.1 hg).1
theorem Own.ge {w : World} {B g cap : Nat} {e : TypeId} {l : List UInt8} (h : Own w B e g cap l) : B ≤ g := by
  obtain ⟨_, _, hb, _⟩ := h
  exact hb
theorem Own.cap_le {w : World} {B g cap : Nat} {e : TypeId} {l : List UInt8} (h : Own w B e g cap l) : l.length ≤ cap ∧ cap ≤ maxLen := by
  obtain ⟨_, _, _, _, _, h1, h2, _⟩ := h
  exact ⟨h1, h2⟩
theorem Own.reads {w : World} {B g cap : Nat} {e : TypeId} {l : List UInt8} (h : Own w B e g cap l) : RB w (some ⟨g, 0, none⟩) l := by
  obtain ⟨cur, fz, _, hg, _, _, _, _, ht⟩ := h
  refine RB.of fun i hi => ?_
  rw [Nat.zero_add, cell_of_row w g i cur e fz hg]
  have := byteVs_get l i hi
  rw [← ht, List.getElem?_take, if_pos hi] at this
  simpa using this
theorem Own.below {w w' : World} {B g cap : Nat} {e : TypeId} {l : List UInt8} (h : Own w B e g cap l) (hb : Below w.heap.size w w') : Own w' B e g cap l := by
  have hl := h.lt
  obtain ⟨cur, fz, h1, hg, h2⟩ := h
  exact ⟨cur, fz, h1, (hb.block g hl).trans hg, h2⟩
theorem Own.unfrozen {w : World} {B g cap : Nat} {e : TypeId} {l : List UInt8} (h : Own w B e g cap l) (i : Nat) (hi : i < cap) : w.frozen? ⟨g, i, none⟩ = false := by
  obtain ⟨cur, fz, _, hg, hfz, _⟩ := h
  obtain ⟨lo, hi'⟩ := fz
  simp only [World.frozen?, hg, Bool.and_eq_false_iff, decide_eq_false_iff_not]
  simp only at hfz
  omega
theorem Own.set {w : World} {B g cap : Nat} {e : TypeId} {l : List UInt8} (h : Own w B e g cap l) (i : Nat) (x : UInt8) : Own (w.setCell ⟨g, i, none⟩ (.int .u8 (x.toNat : Int))) B e g cap (l.set i x) := by
  obtain ⟨cur, fz, hb, hg, hfz, hnc, hcm, hcs, ht⟩ := h
  refine ⟨cur.setIfInBounds i (.int .u8 (x.toNat : Int)), fz, hb, ?_, hfz, by simpa using hnc, hcm, by simpa using hcs, ?_⟩
  · show (Array.modify _ _ _)[g]? = _
    rw [Array.getElem?_modify, if_pos rfl, hg]; rfl
  · rw [Array.toList_setIfInBounds, List.length_set, List.take_set, ht]
    unfold byteVs
    rw [List.map_set]
theorem Own.mono {w : World} {B B' g cap : Nat} {e : TypeId} {l : List UInt8} (h : Own w B e g cap l) (hB : B' ≤ B) : Own w B' e g cap l := by
  obtain ⟨cur, fz, h1, h2⟩ := h
  exact ⟨cur, fz, by omega, h2⟩
/-- []byte(s): the row. -/
theorem own_conv (w : World) (B : Nat) (e : TypeId) (s : ByteArray) (cap : Nat) (hB : B ≤ w.heap.size) (hc : s.size ≤ cap) (hm : cap ≤ maxLen) :
    Own (w.alloc (.cells (bytesRow s cap) e ((bytesRow s cap).size, (bytesRow s cap).size + 1))) B e w.heap.size cap s.data.toList := by
  have hz : (bytesRow s cap).size = cap := by
    unfold bytesRow
    simp
    have : s.data.size = s.size := rfl
    omega
  refine ⟨_, _, hB, heap_alloc_new w _, .inr (by rw [hz]; exact Nat.le_refl _), by simpa using hc, hm, hz, ?_⟩
  unfold bytesRow byteVs
  simp
/-- []byte{}: no byte. -/
theorem own_ownsRow {w : World} {B g n cap : Nat} {e : TypeId} {l : List UInt8} (h : w.ownsRow B e 1 (.slice (some ⟨g, 0, none⟩) n cap) n (byteVs l)) : n = l.length ∧ Own w B e g cap l := by
  obtain ⟨hl, h⟩ := h
  rw [byteVs_length, Nat.mul_one] at hl
  subst hl
  refine ⟨rfl, ?_⟩
  rcases h with ⟨h, _⟩ | ⟨g', cap', cur, hv, hb, hg, h1, h2, h3, h4⟩
  · cases h
  · injection hv with hv _ hc
    injection hv with hv
    injection hv with hv _ _
    subst hv; subst hc
    rw [Nat.mul_one] at h3 h4
    exact ⟨cur, (0, 0), hb, hg, .inl rfl, h1, h2, h3, h4⟩

section
variable {P : Program}
/-- Stores into cells of which none is marked. -/
theorem run_storeCells_apart (g o : Nat) (t : TypeId) (fz : Nat × Nat) : ∀ (vs : List Value) (i : Nat) (cur : Array Value) (w : World), w.heap[g]? = some (.cells cur t fz) → (fz.2 ≤ o + i ∨ o + i + vs.length ≤ fz.1) → o + i + vs.length ≤ cur.size → (∀ v ∈ vs, v.oneCell' = true) →
    (storeCells ⟨g, o, none⟩ vs i).run P w = .ok () (w.setRow g (cur.toList.take (o + i) ++ vs ++ cur.toList.drop (o + i + vs.length)).toArray)
  | [], i, cur, w, hg, _, _, _ => by
    simp only [storeCells, List.append_nil, List.length_nil, Nat.add_zero, List.take_append_drop, Array.toArray_toList]
    rw [setRow_self w g cur t fz hg]
    rfl
  | v :: rest, i, cur, w, hg, hfz, hl, h1 => by
    have hi : o + i < cur.size := by simp at hl; omega
    have hadd : (⟨g, o, none⟩ : Addr).add i = ⟨g, o + i, none⟩ := by unfold Addr.add; split <;> simp_all
    have hcell : w.cell? ⟨g, o + i, none⟩ = some cur[o + i] := by simp [World.cell?, hg, hi]
    have hfro : w.frozen? ⟨g, o + i, none⟩ = false := by
      obtain ⟨lo, hi'⟩ := fz
      simp only [World.frozen?, hg, Bool.and_eq_false_iff, decide_eq_false_iff_not]
      simp only [List.length_cons] at hfz
      rcases hfz with hfz | hfz
      · right; omega
      · left; omega
    have hst : (store ((⟨g, o, none⟩ : Addr).add i) v).run P w = .ok () (w.setRow g (cur.setIfInBounds (o + i) v)) := by
      rw [hadd, run_store P w _ v _ (h1 v (by simp)), hcell]
      simp [hfro, setCell_eq_setRow w g (o + i) cur t fz v hg]
    have ih := run_storeCells_apart g o t fz rest (i + 1) (cur.setIfInBounds (o + i) v) (w.setRow g (cur.setIfInBounds (o + i) v)) (setRow_heap w g cur _ t _ hg) (by simp only [List.length_cons] at hfz; omega) (by simp at hl ⊢; omega) (fun x hx => h1 x (by simp [hx]))
    simp only [storeCells, Sem.run_bind, hst, Result.andThen_ok, ih, setRow_setRow]
    congr 3
    have e := list_seg_step cur.toList (o + i) v rest (by simp at hl ⊢; omega)
    simpa [Array.toList_setIfInBounds, Nat.add_assoc] using e

/-- append(b, x...) onto a row of bytes of the call's own. -/
theorem run_append_bytes (w : World) (B : Nat) (t ty e : TypeId) (i : TypeInfo) (ht : P.underlying t = some (.slice e)) (hi : P.info? e = some i) (hz : i.zero = some (.int .u8 0)) (hsize : i.size = 1) (hby : i.bytes = 1)
    (g cap : Nat) (l : List UInt8) (hown : Own w B e g cap l) (p : Option Addr) (m c : Nat) (x : List UInt8) (hm : m = x.length) (hr : RB w p x)
    (hbytes : l.length + x.length ≤ 140737488355328) (hB : B ≤ w.heap.size) :
    ∃ g' cap' w', (Builtin.append_ #[t, t] ty #[.slice (some ⟨g, 0, none⟩) l.length cap, .slice p m c]).run P w = .ok (.slice (some ⟨g', 0, none⟩) (l.length + m) cap') w' ∧ Own w' B e g' cap' (l ++ x) ∧ w.grownBy w' (some g) ∧ (g' = g ∨ g' = w.heap.size) := by
  subst hm
  obtain ⟨cur, fz, hb, hg, hfz, hnc, hcm, hcs, htake⟩ := hown
  rcases Nat.eq_zero_or_pos x.length with h0 | h0
  · obtain rfl : x = [] := List.eq_nil_of_length_eq_zero h0
    refine ⟨g, cap, w, ?_, by rw [List.append_nil]; exact ⟨cur, fz, hb, hg, hfz, hnc, hcm, hcs, htake⟩, World.grownBy.refl w _, .inl rfl⟩
    cases p <;> simp [Builtin.append_, run_underlying ht, sizeOf, typeInfo, hi, Builtin.lenOf, Builtin.firstCells, loadCells, loadCellsFrom, storeCells, hnc]
  · obtain ⟨b, o, rfl⟩ := hr.addr h0
    have hnews : ∀ j u, (byteVs x)[j]? = some u → w.cell? ((⟨b, o, none⟩ : Addr).add j) = some u := by
      intro j u hu
      have hj : j < x.length := by
        have := (List.getElem?_eq_some_iff.1 hu).1
        rwa [byteVs_length] at this
      rw [byteVs_get x j hj] at hu
      injection hu with hu
      rw [Go.WideShapes.add_plain, hr.cell j hj, hu]
    have hl1 : (byteVs x).length = x.length * i.size := by rw [byteVs_length, hsize, Nat.mul_one]
    by_cases hroom : l.length + x.length ≤ cap
    · have hf := run_firstCells_some (P := P) w i.size x.length ⟨b, o, none⟩ x.length c (byteVs x) hl1 hnews
      have hst := run_storeCells_apart (P := P) g l.length e fz (byteVs x) 0 cur w hg (by rw [byteVs_length]; omega) (by rw [byteVs_length]; omega) (byteVs_one x)
      simp only [Nat.add_zero] at hst
      rw [hsize] at hf
      have hrun : (Builtin.append_ #[t, t] ty #[.slice (some ⟨g, 0, none⟩) l.length cap, .slice (some ⟨b, o, none⟩) x.length c]).run P w = .ok (.slice (some ⟨g, 0, none⟩) (l.length + x.length) cap) (w.setRow g (cur.toList.take l.length ++ byteVs x ++ cur.toList.drop (l.length + (byteVs x).length)).toArray) := by
        simp [Builtin.append_, run_underlying ht, sizeOf, typeInfo, hi, Builtin.lenOf, hroom, hf, Addr.add_lit, hsize, hst]
      refine ⟨g, cap, _, hrun, ?_, ⟨rfl, rfl, rfl, by simp, fun k _ hk => setRow_other w g k _ (fun e => hk (by simp [e]))⟩, .inl rfl⟩
      refine ⟨_, fz, hb, setRow_heap w g cur _ e _ hg, ?_, by simpa using hroom, hcm, ?_, ?_⟩
      · exact hfz
      · rw [byteVs_length]
        simp only [List.size_toArray, List.length_append, List.length_take, List.length_drop, Array.length_toList, byteVs_length]
        omega
      · rw [htake, ← byteVs_append, ← byteVs_length (l ++ x)]
        exact List.take_left
    · have holds : ∀ j u, (byteVs l)[j]? = some u → w.cell? ((⟨g, 0, none⟩ : Addr).add j) = some u := by
        intro j u hu
        rw [Go.WideShapes.add_plain, Nat.zero_add, cell_of_row w g j cur e fz hg]
        rw [← htake, List.getElem?_take] at hu
        split at hu
        · simpa using hu
        · cases hu
      have hr' := run_append_grow (P := P) w t ty e i (.int .u8 0) ht hi hz ⟨g, 0, none⟩ l.length cap (byteVs l) (by rw [byteVs_length, hsize, Nat.mul_one]) holds ⟨b, o, none⟩ x.length c (byteVs x) hl1 hnews (by omega) (by omega) (growslice_fits (by omega) (by rw [hby, Nat.mul_one]; exact hbytes))
      have hge := grownCap_ge w (l.length + x.length) cap e
      have hcm2 : grownCap w (l.length + x.length) cap e ≤ maxLen := grownCap_le_maxLen w (l.length + x.length) cap e (by unfold maxLen; omega)
      refine ⟨w.heap.size, _, _, hr', ⟨_, (0, 0), hB, heap_alloc_new w.drew _, .inl rfl, by simpa using hge, hcm2, ?_, ?_⟩, ⟨rfl, rfl, rfl, by simp, fun k hk _ => Below.heap_alloc w.drew _ k hk⟩, .inr rfl⟩
      · simp only [Array.size_append, List.size_toArray, size_zeroCells, byteVs_length]
        simp [Value.cells]
        omega
      · simp only [Array.toList_append, List.append_assoc]
        rw [← List.append_assoc, ← byteVs_append, ← byteVs_length (l ++ x)]
        exact List.take_left
/-- '[]byte(s)': a row of the call's own. -/
theorem conv_bytes (w : World) (src dst e : TypeId) (s : ByteArray) (hs : P.underlying src = some .string) (hd : P.underlying dst = some (.slice e)) (he : P.underlying e = some (.int .u8)) (hz : s.size ≤ maxLen) :
    ∃ cap w1, (convert src dst (.string s)).run P w = .ok (.slice (some ⟨w.heap.size, 0, none⟩) s.size cap) w1 ∧ Own w1 w.heap.size e w.heap.size cap s.data.toList ∧ Below w.heap.size w w1 ∧ w1.heap.size = w.heap.size + 1 := by
  have hc : s.size ≤ grownCap w s.size 0 e := grownCap_ge w s.size 0 e
  have hm : grownCap w s.size 0 e ≤ maxLen := grownCap_le_maxLen w s.size 0 e hz
  refine ⟨_, _, run_bytes_of_string w src dst e s hs hd he, ?_, ((Below.refl _ _).drew).alloc (Nat.le_refl _) _, by simp⟩
  exact own_conv w.drew w.heap.size e s _ (Nat.le_refl _) hc hm

theorem wpList_append_bytes (w : World) {ops : Array Oper} {rest : List Oper} {o : Oper} {a : Act} {Q : Exit → Act → World → Prop} (hgd : o.guard = none) (s y : Operand) (t : TypeId)
    (ho : o.op = .call { callee := .builtin .append, args := #[s, y], argTypes := #[t, t] }) (B : Nat) (e : TypeId) (i : TypeInfo) (ht : P.underlying t = some (.slice e)) (hi : P.info? e = some i) (hz : i.zero = some (.int .u8 0)) (hsize : i.size = 1) (hby : i.bytes = 1)
    (g n cap : Nat) (l : List UInt8) (hs : a.eval s = .slice (some ⟨g, 0, none⟩) n cap) (hn : n = l.length) (hown : Own w B e g cap l) (p : Option Addr) (m c : Nat) (x : List UInt8) (hx : a.eval y = .slice p m c) (hm : m = x.length) (hr : RB w p x)
    (hbytes : l.length + x.length ≤ 140737488355328) (hB : B ≤ w.heap.size)
    (h : ∀ g' cap' w', Own w' B e g' cap' (l ++ x) → w.grownBy w' (some g) → (g' = g ∨ g' = w.heap.size) → wpList P ops Q rest (a.put o.dst (.slice (some ⟨g', 0, none⟩) (n + m) cap')) w') : wpList P ops Q (o :: rest) a w := by
  subst hn
  obtain ⟨g', cap', w', hrun, h1, h2, h3⟩ := run_append_bytes (P := P) w B t o.type e i ht hi hz hsize hby g cap l hown p m c x hm hr hbytes hB
  refine wpList_plain hgd fun _ hK => ?_
  unfold Oper.wp execOp
  simp only [ho, resolve, invoke, builtin, Sem.run_bind, Sem.run_pure, Result.andThen_ok, List.map_toArray, List.map_cons, List.map_nil, hs, hx, hrun]
  exact hK _ _ (h g' cap' w' h1 h2 h3)
end
end Go.Proofs.YtglmofeeggjemaaGreatDoor.Mem
namespace Go.Proofs.YtglmofeeggjemaaGreatDoor.RdW
open Go.RowKit Go.Proofs.YtglmofeeggjemaaGreatDoor.Dp Go.Proofs.YtglmofeeggjemaaGreatDoor.Base Go.Proofs.YtglmofeeggjemaaGreatDoor.Ep Go.Proofs.YtglmofeeggjemaaGreatDoor.Mem

theorem ret_int {k : IntKind} {a b : Int} (h : a = b) : Ending.returned (.int k a) = .returned (.int k b) := by rw [h]
/-- Operations as cells. -/
def opVs (l : List (Int × Int)) : List Value := l.flatMap fun o => [.int .i64 o.1, .int .i64 o.2]
theorem opVs_append (a b : List (Int × Int)) : opVs (a ++ b) = opVs a ++ opVs b := by simp [opVs]
theorem opVs_length (l : List (Int × Int)) : (opVs l).length = l.length * 2 := by
  induction l with
  | nil => rfl
  | cons o l ih => unfold opVs at ih ⊢; rw [List.flatMap_cons, List.length_append, ih]; simp; omega
abbrev rdObj (S : ByteArray) (at_ deep : Int) (v : Value) (e : Int) : Obj := .cells #[.string S, .int .i64 at_, .int .i64 deep, v, .int .i64 e] 111
/-- The reader lies there. -/
structure Rd (w0 : World) (S : ByteArray) (R : Nat) (deep : Nat) (st : St) (k : Nat) (v : Value) (w : World) : Prop where
  k_le : k ≤ S.size
  rest : S.data.toList.drop k = st.r
  obj : w.heap[R]? = some (rdObj S (k : Int) (deep : Int) v (st.e : Int))
  own : w.ownsRow w0.heap.size 92 2 v st.ops.length (opVs st.ops)
  bel : Below w0.heap.size w0 w
  ge : w0.heap.size ≤ R
/-- The same, the place and the slice unnamed. -/
def RdA (w0 : World) (S : ByteArray) (R : Nat) (deep : Nat) (st : St) (w : World) : Prop := ∃ k v, Rd w0 S R deep st k v w
section
variable {w0 w w' : World} {S : ByteArray} {R deep k : Nat} {st : St} {v : Value}
theorem Rd.cells (h : Rd w0 S R deep st k v w) : w.cell? ⟨R, 0, none⟩ = some (.string S) ∧ w.cell? ⟨R, 1, none⟩ = some (.int .i64 (k : Int)) ∧ w.cell? ⟨R, 2, none⟩ = some (.int .i64 (deep : Int)) ∧ w.cell? ⟨R, 3, none⟩ = some v ∧ w.cell? ⟨R, 4, none⟩ = some (.int .i64 (st.e : Int)) := by
  have h1 := h.obj
  refine ⟨?_, ?_, ?_, ?_, ?_⟩ <;> simp [World.cell?, h1]
theorem Rd.any (h : Rd w0 S R deep st k v w) : RdA w0 S R deep st w := ⟨k, v, h⟩
theorem Rd.frozen (h : Rd w0 S R deep st k v w) (o : Nat) : w.frozen? ⟨R, o, none⟩ = false := by
  have h1 := h.obj
  simp [World.frozen?, h1]
theorem Rd.len (h : Rd w0 S R deep st k v w) : k + st.r.length = S.size := by
  have h1 := congrArg List.length h.rest
  rw [List.length_drop, len_list] at h1
  have := h.k_le
  omega
theorem Rd.lt (h : Rd w0 S R deep st k v w) : R < w.heap.size := (Array.getElem?_eq_some_iff.1 h.obj).1
theorem Rd.ne (h : Rd w0 S R deep st k v w) : v.ownBlock ≠ some R := by
  rcases h.own.2 with ⟨rfl, _⟩ | ⟨g, cap, cur, rfl, _, hh, _⟩
  · simp [Value.ownBlock]
  · intro he
    have : g = R := by simpa [Value.ownBlock] using he
    subst this
    rw [h.obj] at hh
    injection hh with hh
    injection hh with _ ht
    exact absurd ht (by decide)
theorem Rd.drewN (h : Rd w0 S R deep st k v w) (n : Nat) : Rd w0 S R deep st k v (w.drewN n) :=
  ⟨h.k_le, h.rest, h.obj, ⟨h.own.1, h.own.2⟩, below_drewN h.bel n, h.ge⟩
theorem Rd.below (h : Rd w0 S R deep st k v w) (hb : Below w.heap.size w w') : Rd w0 S R deep st k v w' :=
  ⟨h.k_le, h.rest, (hb.block R h.lt).trans h.obj, h.own.kept (row := none) ⟨hb.os, hb.tape, hb.output, hb.size, fun k hk _ => hb.block k hk⟩ (by cases v.ownBlock <;> simp), h.bel.trans (hb.mono h.bel.size), h.ge⟩
theorem heap_here {x : World} {b : Nat} {c : Array Value} {t : TypeId} (h : x.heap[b]? = some (.cells c t)) (o : Nat) (u : Value) : (x.setCell ⟨b, o, none⟩ u).heap[b]? = some (.cells (c.setIfInBounds o u) t) := by
  show (Array.modify _ _ _)[b]? = _
  rw [Array.getElem?_modify, if_pos rfl, h]; rfl
theorem ownsRow_set {x : World} {base : Nat} {e : TypeId} {size n : Nat} {v : Value} {xs : List Value} (h : x.ownsRow base e size v n xs) {a : Addr} (ha : v.ownBlock ≠ some a.block) (u : Value) : (x.setCell a u).ownsRow base e size v n xs :=
  h.kept (w' := x.setCell a u) (row := some a.block) ⟨rfl, rfl, rfl, by simp [World.setCell], fun k hk hne => Below.heap_setCell _ _ _ _ (fun e => hne (by rw [e]))⟩ (.inr ha)
theorem Rd.step (h : Rd w0 S R deep st k v w) {r : List UInt8} {m : Nat} (hm : m ≤ S.size) (hr : S.data.toList.drop m = r) : Rd w0 S R deep ⟨r, st.ops, st.e⟩ m v (w.setCell ⟨R, 1, none⟩ (.int .i64 (m : Int))) :=
  ⟨hm, hr, by rw [heap_here h.obj]; rfl, ownsRow_set h.own h.ne _, h.bel.setCell h.ge _, h.ge⟩
theorem Rd.err (h : Rd w0 S R deep st k v w) (e : Nat) : Rd w0 S R deep ⟨st.r, st.ops, e⟩ k v (w.setCell ⟨R, 4, none⟩ (.int .i64 (e : Int))) :=
  ⟨h.k_le, h.rest, by rw [heap_here h.obj]; rfl, ownsRow_set h.own h.ne _, h.bel.setCell h.ge _, h.ge⟩
theorem Rd.dive (h : Rd w0 S R deep st k v w) (m : Nat) : Rd w0 S R m st k v (w.setCell ⟨R, 2, none⟩ (.int .i64 (m : Int))) :=
  ⟨h.k_le, h.rest, by rw [heap_here h.obj]; rfl, ownsRow_set h.own h.ne _, h.bel.setCell h.ge _, h.ge⟩
end
theorem drewN_two (w : World) (a b : Nat) : (w.drewN a).drewN b = w.drewN (a + b) := by simp [World.drewN, Nat.add_assoc]
/-- The next byte. -/
def hdI (r : List UInt8) : Int := ((hd r).toNat : Int)
def NextOut (c : Int) (w : World) (e : Ending) (w' : World) : Prop := ∃ n, e = .returned (.int .u8 c) ∧ w' = w.drewN n

set_option maxHeartbeats 800000 in
theorem next_c {w0 : World} {S : ByteArray} {R deep k : Nat} {st : St} {v : Value} (w : World) (h : Hid (Rd w0 S R deep st k v w)) (c : Int) (hc : Hid (hdI st.r = c)) :
    Calls Tryz.prog 84 #[.pointer (some ⟨R, 0, none⟩)] w (NextOut c w) := by
  obtain ⟨c0, c1, c2, c3, c4⟩ := h.out.cells
  have hk := h.out.k_le
  by_cases hlt : k < S.size
  · obtain ⟨X, hX⟩ : ∃ X, (S[k].toNat : Int) = X := ⟨_, rfl⟩
    have hcX : Hid (X = c) := by
      show X = c
      rw [← hc.out, ← hX]
      unfold hdI
      have hl : k < S.data.toList.length := by rw [len_list]; exact hlt
      have h1 := List.drop_eq_getElem_cons hl
      rw [h.out.rest] at h1
      rw [h1]
      rfl
    go_enter Tryz.func84, Tryz.ntmps84
    go_wp2_with fail
    go_quiet (fail)
    go_wp2_with fail
    go_quiet (fail)
    go_wp2_with fail
    go_ret
    exact ⟨_, ret_int hcX.out, drewN_two _ _ _⟩
  · have hcX : Hid ((0 : Int) = c) := by
      show 0 = c
      rw [← hc.out]
      have h1 := h.out.rest
      rw [List.drop_eq_nil_of_le (by rw [len_list]; omega)] at h1
      rw [← h1]; rfl
    go_enter Tryz.func84, Tryz.ntmps84
    go_wp2_with fail
    go_quiet (fail)
    go_wp2_with fail
    go_ret
    exact ⟨_, ret_int hcX.out, rfl⟩

/-- What a method of the reader leaves. -/
def Left (w0 : World) (S : ByteArray) (R deep : Nat) (st : St) (e : Ending) (w' : World) : Prop := e = .returned (.tuple #[]) ∧ RdA w0 S R deep st w'
theorem info_op : (Tryz.prog.info? 92).map (fun i => (i.zero, i.size, i.bytes)) = some (some (.agg #[.int .i64 0, .int .i64 0]), 2, 16) := by kernel_rfl
theorem ownsRow_ge {x : World} {base : Nat} {e : TypeId} {size n : Nat} {v : Value} {xs : List Value} (h : x.ownsRow base e size v n xs) : ∀ k, v.ownBlock = some k → base ≤ k := fun k hk => (World.ownsRowF.lt (World.ownsRowF_of h) k hk).1
theorem Rd.appended {w0 w w' : World} {S : ByteArray} {R deep k : Nat} {st : St} {v v' : Value} {q n : Int} {o : Obj} (h : Rd w0 S R deep st k v w) (hg : (w.alloc o).grownBy w' v.ownBlock) (ho : w'.ownsRow w0.heap.size 92 2 v' (st.ops.length + 1) (opVs st.ops ++ [.int .i64 q, .int .i64 n])) (hz : st.e = 0) :
    Rd w0 S R deep (put st q n) k v' (w'.setCell ⟨R, 3, none⟩ v') ∧ w'.cell? ⟨R, 3, none⟩ = some v ∧ w'.frozen? ⟨R, 3, none⟩ = false ∧ w'.heap[R]? = some (rdObj S (k : Int) (deep : Int) v (st.e : Int)) := by
  have hR : w'.heap[R]? = some (rdObj S (k : Int) (deep : Int) v (st.e : Int)) := by
    rw [hg.block R (by have := h.lt; simp; omega) (Ne.symm h.ne), Below.heap_alloc _ _ _ h.lt, h.obj]
  have hp : put st q n = ⟨st.r, st.ops ++ [(q, n)], 0⟩ := by unfold put; rw [if_pos hz]
  refine ⟨?_, by simp [World.cell?, hR], by simp [World.frozen?, hR], hR⟩
  rw [hp]
  refine ⟨h.k_le, h.rest, by rw [heap_here hR, hz]; rfl, ?_, ?_, h.ge⟩
  · have hne : v'.ownBlock ≠ some R := by
      rcases ho.2 with ⟨rfl, _⟩ | ⟨g, cap, cur, rfl, _, hh, _⟩
      · simp [Value.ownBlock]
      · intro he
        have : g = R := by simpa [Value.ownBlock] using he
        subst this
        rw [hR] at hh
        injection hh with hh
        injection hh with _ ht
        exact absurd ht (by decide)
    have hx := ownsRow_set ho (a := ⟨R, 3, none⟩) hne v'
    rw [show (st.ops ++ [(q, n)]).length = st.ops.length + 1 by simp, opVs_append]
    exact hx
  · exact ((h.bel.alloc h.bel.size o).grown hg (Nat.le_trans h.bel.size (by simp)) (ownsRow_ge h.own)).setCell h.ge _

set_option maxHeartbeats 800000 in
theorem put_c {w0 : World} {S : ByteArray} {R deep : Nat} {st : St} (w : World) (h : RdA w0 S R deep st w) (hl : st.ops.length ≤ 1000) (q n : Int) :
    Calls Tryz.prog 85 #[.pointer (some ⟨R, 0, none⟩), .int .i64 q, .int .i64 n] w (Left w0 S R deep (put st q n)) := by
  obtain ⟨k, v, h⟩ := h
  have H := Lib.hid h
  obtain ⟨c0, c1, c2, c3, c4⟩ := h.cells
  obtain ⟨i0, hi, hz0, hz1, hz2⟩ := info_parts info_op
  have HI := Lib.hid (And.intro hi (And.intro hz0 (And.intro hz1 hz2)))
  clear h hi hz0 hz1 hz2
  by_cases hz : st.e = 0
  · have hzi : ((st.e : Int) == 0) = true := by rw [hz]; rfl
    have HZ := Lib.hid hz
    clear hz
    go_enter Tryz.func85, Tryz.ntmps85
    go_wp2_with (at_builtin; refine wpList_append_own _ rfl _ _ _ rfl w0.heap.size 92 i0 (.agg #[.int .i64 0, .int .i64 0]) 2 16 Tryz.underlying77 HI.out.1 HI.out.2.1 HI.out.2.2.1 HI.out.2.2.2 rfl (by omega) v st.ops.length (opVs st.ops) (by rfl) (H.out.own.alloc _) ⟨w.heap.size, 0, none⟩ 1 1 [.int .i64 q, .int .i64 n] (by rfl) rfl (World.news_of_block (heap_alloc_new w _)) (by simp [Value.oneCell']) (by unfold maxLen; omega) (by omega) (by have := H.out.bel.size; simp; omega) ?_; intro v' w' hown' hgrow' hnn'; obtain ⟨g', cap', rfl, _, _⟩ := hown'.form (by omega); obtain ⟨hr', hc', hf', _⟩ := H.out.appended hgrow' hown' HZ.out; have HR' := Lib.hid hr'; clear hr' hown' hgrow' hnn')
    go_end0
    exact ⟨rfl, k, _, HR'.out⟩
  · have hzi : ((st.e : Int) == 0) = false := by simp; omega
    have hp : Hid (put st q n = st) := by show _ = _; unfold put; rw [if_neg hz]
    clear hz
    go_enter Tryz.func85, Tryz.ntmps85
    go_wp2_with fail
    go_end0
    exact ⟨rfl, by rw [hp.out]; exact ⟨k, v, H.out⟩⟩
end Go.Proofs.YtglmofeeggjemaaGreatDoor.RdW
namespace Go.Proofs.YtglmofeeggjemaaGreatDoor.DeciW
open Go.RowKit Go.Proofs.YtglmofeeggjemaaGreatDoor.Dp

theorem ret_tup {k k' : IntKind} {a b c d : Int} (h : a = b) (h' : c = d) : Ending.returned (.tuple #[.int k a, .int k' c]) = .returned (.tuple #[.int k b, .int k' d]) := by rw [h, h']

theorem getl (s : ByteArray) (k : Nat) (h : k < s.size) : s.data.toList[k]'(by simpa using h) = s[k] := by rw [Array.getElem_toList]; rfl
theorem take_snoc (s : ByteArray) (k : Nat) (h : k < s.size) : s.data.toList.take (k + 1) = s.data.toList.take k ++ [s[k]] := by
  rw [List.take_succ_eq_append_getElem (by simpa using h)]; rfl

set_option maxHeartbeats 400000 in
theorem digits_any (s : ByteArray) (w : World) (hs : s.size ≤ maxLen) :
    Calls Tryz.prog 57 #[.string s] w fun e w' => e = .returned (.tuple #[.int .i64 (val (s.data.toList.take (min 6 (nd s.data.toList)))), .int .i64 (min 6 (nd s.data.toList) : Nat)]) ∧ w = w' := by
  unfold maxLen at hs
  go_enter Tryz.func57, Tryz.ntmps57
  go_wp2
  go_loop [4, 5] (fun v i => ∃ k : Nat, k ≤ min 6 (nd s.data.toList) ∧ i = .int .i64 k ∧ v = .int .i64 (val (s.data.toList.take k))) (fun _ i => s.size - (intOf i).toNat)
  case atStart => exact ⟨0, Nat.zero_le _, rfl, rfl⟩
  case round =>
    obtain ⟨k, hk, rfl, rfl⟩ := hrel
    have hl := nd_le s.data.toList
    have hsz : s.data.toList.length = s.size := by simp
    have hk6 : k ≤ 6 := by omega
    have hkn : k ≤ nd s.data.toList := by omega
    have hv0 := val_take_lt s.data.toList k hkn
    have hv : val (s.data.toList.take k) < 1000000 := Nat.lt_of_lt_of_le hv0 (by have := Nat.pow_le_pow_right (n := 10) (by decide) hk6; simpa using this)
    by_cases hlt : k < s.size
    · by_cases h6 : k < 6
      · by_cases hd : 48 ≤ s[k].toNat ∧ s[k].toNat ≤ 57
        · have HS : Hid (val (s.data.toList.take (k + 1)) = val (s.data.toList.take k) * 10 + (s[k].toNat - 48)) := by rw [take_snoc s k hlt]; exact val_snoc _ _
          have hn : k < nd s.data.toList := nd_lt hkn (by omega) (by rw [getl s k hlt]; exact (isD_iff _).2 hd)
          obtain ⟨hd1, hd2⟩ := hd
          clear hv0 hsz
          go_wp2
          go_round
          case rel => exact ⟨k + 1, by omega, by go_num, by rw [HS.out]; go_num⟩
          case measure => simp [intOf]; omega
        · have hn : nd s.data.toList = k := nd_stop hkn (by omega) (by rw [getl s k hlt]; exact (isD_false _).2 (by omega))
          have HN : Hid (min 6 (nd s.data.toList) = k) := by show _ = _; omega
          clear hv0 hsz hn hl hk hkn
          go_wp2
          all_goals (go_ret2; rw [HN.out]; exact ⟨rfl, rfl⟩)
      · have HN : Hid (min 6 (nd s.data.toList) = k) := by show _ = _; omega
        clear hv0 hsz hl hk hkn
        go_wp2
        go_ret2
        rw [HN.out]; exact ⟨rfl, rfl⟩
    · have HN : Hid (min 6 (nd s.data.toList) = k) := by show _ = _; omega
      clear hv0 hsz hl hk hkn
      go_wp2
      go_ret2
      rw [HN.out]; exact ⟨rfl, rfl⟩
#print axioms digits_any
end Go.Proofs.YtglmofeeggjemaaGreatDoor.DeciW
namespace Go.Proofs.YtglmofeeggjemaaGreatDoor.DeciW
open Go.RowKit Go.Proofs.YtglmofeeggjemaaGreatDoor.Dp


theorem bool_tt {b : Bool} (h : b = true) : Value.bool b = .bool true := by rw [h]

theorem byteq45 (n : Nat) : ((n : Int) == 45) = decide (n = 45) := by rw [Bool.eq_iff_iff]; simp; omega
theorem digits_at (s : ByteArray) (l : List UInt8) (hl : Hid (s.data.toList = l)) (w : World) (hs : s.size ≤ 9223372036854775807) (k : Nat) (hk : Hid (k = min 6 (nd l))) (v : Nat) (hv : Hid (v = val (l.take k))) :
    Calls Tryz.prog 57 #[.string s] w fun e w' => e = .returned (.tuple #[.int .i64 v, .int .i64 k]) ∧ w = w' := by
  have h0 := hl.out
  have h1 := hk.out
  have h2 := hv.out
  subst h0; subst h1; subst h2
  exact digits_any s w hs
/-- Does a sign stand ahead. -/
def sgn (l : List UInt8) : Bool := match l with | [] => false | c :: _ => decide (c.toNat = 43) || decide (c.toNat = 45)
theorem head_of (s : ByteArray) (h : 0 < s.size) : s.data.toList = s[0] :: s.data.toList.drop 1 := by
  have := getl s 0 h
  rw [← this]
  exact (List.drop_eq_getElem_cons (i := 0) (l := s.data.toList) (show 0 < s.data.toList.length by simpa using h))
theorem list_nil (s : ByteArray) (h : ¬ 0 < s.size) : s.data.toList = [] := by
  apply List.eq_nil_of_length_eq_zero
  have : s.data.toList.length = s.size := by simp
  omega
theorem sgn_of (s : ByteArray) (h : 0 < s.size) : sgn s.data.toList = (decide (s[0].toNat = 43) || decide (s[0].toNat = 45)) := by rw [head_of s h]; rfl
theorem sgn_no (s : ByteArray) (h : ¬ 0 < s.size) : sgn s.data.toList = false := by rw [list_nil s h]; rfl
/-- What stands behind a sign. -/
theorem drop1 (s : ByteArray) : (s.extract 1 s.size).data.toList = s.data.toList.drop 1 := by
  rw [Lib.extract_data]
  exact List.take_of_length_le (by simp)
theorem dropk (s : ByteArray) (k : Nat) : (s.extract k s.size).data.toList = s.data.toList.drop k := by
  rw [Lib.extract_data]
  exact List.take_of_length_le (by simp)
theorem strip_no {l : List UInt8} (h : sgn l = false) : strip l = (false, l) := by
  cases l with
  | nil => rfl
  | cons c r =>
    simp [sgn] at h
    simp [strip, h]
theorem strip_yes (s : ByteArray) (h : 0 < s.size) (hs : sgn s.data.toList = true) : strip s.data.toList = (decide (s[0].toNat = 45), s.data.toList.drop 1) := by
  rw [sgn_of s h] at hs
  rw [head_of s h]
  simp only [strip]
  split
  · rename_i h1; simp [h1]
  · rename_i h1
    simp [h1] at hs
    simp [hs]
theorem sgn_pos {s : ByteArray} (h : sgn s.data.toList = true) : 0 < s.size := by
  apply Classical.byContradiction; intro hn
  rw [sgn_no s hn] at h; cases h

set_option maxRecDepth 100000 in
set_option maxHeartbeats 400000 in
theorem parse_any (s : ByteArray) (w : World) (hs : s.size ≤ maxLen) :
    Calls Tryz.prog 44 #[.string s] w fun e w' => e = .returned (.tuple #[.int .i64 ((dec s.data.toList).getD 0), .bool (dec s.data.toList).isSome]) ∧ w = w' := by
  unfold maxLen at hs
  go_enter Tryz.func44, Tryz.ntmps44
  go_upto_region 2 with fail
  go_cut [21] (fun c wx => c = .bool (sgn s.data.toList) ∧ w = wx)
  case first =>
    by_cases h0 : 0 < s.size
    · have HB := Lib.hid (sgn_of s h0)
      have hne : s.toList.isEmpty = false := by rw [Lib.toList_data, head_of s h0]; rfl
      have hne2 : ¬ s.toList = [] := by intro h; rw [h] at hne; cases hne
      by_cases h43 : s[0].toNat = 43
      all_goals
        go_wp2
        go_meet
        refine ⟨congrArg Value.bool ?_, rfl⟩
        rw [HB.out]
        simp [h43, byteq45]
        try omega
    · have HB := Lib.hid (sgn_no s h0)
      have hne : s.toList = [] := by rw [Lib.toList_data]; exact list_nil s h0
      go_wp2
      go_meet
      exact ⟨congrArg Value.bool HB.out.symm, rfl⟩
  case rest =>
    obtain ⟨rfl, rfl⟩ := hcut
    go_upto_if 21 with fail
    go_cut [0, 4] (fun a b wx => ∃ t : ByteArray, a = .string t ∧ t.size ≤ 9223372036854775807 ∧ t.data.toList = (strip s.data.toList).2 ∧ b = .bool (strip s.data.toList).1 ∧ w = wx)
    case first =>
      cases hg : sgn s.data.toList with
      | true =>
        have h0 := sgn_pos hg
        have HS := Lib.hid (strip_yes s h0 hg)
        clear hg
        go_wp2
        go_meet
        rw [HS.out]
        exact ⟨_, rfl, by simp; omega, drop1 s, congrArg Value.bool (byteq45 _), rfl⟩
      | false =>
        have HS := Lib.hid (strip_no hg)
        clear hg
        go_wp2
        go_meet
        rw [HS.out]
        exact ⟨_, rfl, hs, rfl, rfl, rfl⟩
    case rest =>
      obtain ⟨t, rfl, ht, hl, rfl, rfl⟩ := hcut
      obtain ⟨l, hl'⟩ : ∃ l, t.data.toList = l := ⟨_, rfl⟩
      obtain ⟨k, hk⟩ : ∃ k, k = min 6 (nd l) := ⟨_, rfl⟩
      obtain ⟨v, hv⟩ : ∃ v, v = val (l.take k) := ⟨_, rfl⟩
      have hvl : v < 1000000 := by
        rw [hv]
        exact Nat.lt_of_lt_of_le (val_take_lt l k (by omega)) (by have := Nat.pow_le_pow_right (n := 10) (by decide) (show k ≤ 6 by omega); simpa using this)
      have hlen : l.length = t.size := by rw [← hl']; simp
      have hkt : k ≤ t.size := by have := nd_le l; omega
      have hdrop : (t.extract k t.size).data.toList = l.drop k := by rw [dropk, hl']
      have hdec : dec s.data.toList = (decU l).map fun n => if (strip s.data.toList).1 then -(n : Int) else n := by unfold dec; rw [← hl, hl']
      have HL := Lib.hid hl'
      have HK := Lib.hid hk
      have HV := Lib.hid hv
      generalize (strip s.data.toList).1 = b at hdec ⊢
      have HD := Lib.hid hdec
      clear hl hl' hv hdec hlen
      rcases hr : l.drop k with _ | ⟨c, r⟩
      · have he : (t.extract k t.size).toList = [] := by rw [Lib.toList_data, hdrop, hr]
        have hA := decU_A hk hr
        by_cases h0 : k = 0
        · rw [if_pos h0] at hA
          have HA := Lib.hid hA
          have hk0 : ((k : Int) == 0) = true := by simp [h0]
          clear hA h0 hdrop hr hk
          go_wp2_with fail
          refine (digits_at t l HL _ ht k HK v HV).mono ?_
          rintro e w' ⟨rfl, rfl⟩
          go_wp2_with fail
          go_ret2
          rw [HD.out, HA.out]
          exact ⟨rfl, rfl⟩
        · rw [if_neg h0] at hA
          have HA := Lib.hid hA
          have hk0 : ((k : Int) == 0) = false := by simp [h0]
          clear hA h0 hdrop hr hk
          cases b
          all_goals
            go_wp2_with fail
            refine (digits_at t l HL _ ht k HK v HV).mono ?_
            rintro e w' ⟨rfl, rfl⟩
            go_wp2_with fail
            go_ret2
            rw [HD.out, HA.out, ← HV.out]
            exact ⟨rfl, rfl⟩
      · have hpos : 0 < t.size - k := by
          have : (t.extract k t.size).data.toList.length = t.size - k := by simp
          rw [hdrop, hr] at this
          simp at this; omega
        have hne : (t.extract k t.size).toList.isEmpty = false := by rw [Lib.toList_data, hdrop, hr]; rfl
        have hne2 : ¬ (t.extract k t.size).toList = [] := by intro h; rw [h] at hne; cases hne
        have hsz : 0 < (t.extract k t.size).size := by simpa using hpos
        have hc : (t.extract k t.size)[0] = c := by
          have := head_of _ hsz
          rw [hdrop, hr] at this
          injection this with a b
          exact a.symm
        by_cases h46 : c.toNat = 46
        · obtain ⟨m, hm⟩ : ∃ m, m = min 6 (nd r) := ⟨_, rfl⟩
          obtain ⟨d, hd⟩ : ∃ d, d = val (r.take m) := ⟨_, rfl⟩
          have hD := decU_D hk hr h46 hm
          have hd0 : d < 10 ^ m := by rw [hd]; exact val_take_lt r m (by omega)
          have hc46 : (((t.extract k t.size)[0].toNat : Int) == 46) = true := by rw [hc]; simp; omega
          have hm6 : m ≤ 6 := by omega
          have hk6 : k ≤ 6 := by omega
          have hrl : r.length + 1 = t.size - k := by
            have : (t.extract k t.size).data.toList.length = t.size - k := by simp
            rw [hdrop, hr] at this
            simpa using this
          have hml : m ≤ r.length := by have := nd_le r; omega
          have hR : ((t.extract k t.size).extract 1 (t.size - k)).data.toList = r := by
            rw [Lib.extract_data, hdrop, hr]
            exact List.take_of_length_le (by simp; omega)
          have hR2 : ((t.extract k t.size).extract (1 + m) (t.size - k)).data.toList = r.drop m := by
            rw [Lib.extract_data, hdrop, hr, Nat.add_comm 1 m, List.drop_succ_cons]
            exact List.take_of_length_le (by simp; omega)
          have hmk : m + 1 ≤ t.size - k := by omega
          have HM := Lib.hid hm
          have HDv := Lib.hid hd
          have HDD := Lib.hid hD
          have HR := Lib.hid hR
          have HR2 := Lib.hid hR2
          clear hm hd hD hk hc h46 hR hR2 hrl hdrop hr
          go_wp2_with fail
          refine (digits_at t l HL _ ht k HK v HV).mono ?_
          rintro e w' ⟨rfl, rfl⟩
          go_wp2_with fail
          refine (digits_at _ r HR _ (by simp; omega) m HM d HDv).mono ?_
          rintro e w' ⟨rfl, rfl⟩
          go_wp2_with fail
          go_loop [7, 9] (fun y i => ∃ j x : Nat, m ≤ j ∧ j ≤ 6 ∧ x = d * 10 ^ (j - m) ∧ i = .int .i64 j ∧ y = .int .i64 x) (fun _ i => (6 - intOf i).toNat)
          case atStart => exact ⟨m, d, Nat.le_refl _, hm6, by simp, rfl, rfl⟩
          case round =>
            obtain ⟨j, x, hj1, hj2, hx, rfl, rfl⟩ := hrel
            have hxl : x < 1000000 := by
              rw [hx]
              have h1 : d * 10 ^ (j - m) < 10 ^ m * 10 ^ (j - m) := Nat.mul_lt_mul_of_pos_right hd0 (Nat.pow_pos (by decide))
              rw [← Nat.pow_add, show m + (j - m) = j by omega] at h1
              exact Nat.lt_of_lt_of_le h1 (by have := Nat.pow_le_pow_right (n := 10) (by decide) hj2; simpa using this)
            have HX := Lib.hid hx
            clear hx
            by_cases hj : j < 6
            · go_wp2_with fail
              go_round
              case rel => exact ⟨j + 1, x * 10, by omega, by omega, by rw [HX.out, show j + 1 - m = j - m + 1 by omega, Nat.pow_succ, Nat.mul_assoc], by go_num, by go_num⟩
              case measure => simp [intOf]; omega
            · have hj6 : Hid (j = 6) := by show _ = _; omega
              by_cases hz : r.drop m = []
              · have he2 : ((t.extract k t.size).extract (1 + m) (t.size - k)).toList = [] := by rw [Lib.toList_data, HR2.out, hz]
                by_cases h0 : k + m = 0
                · have hN : decU l = none := by rw [HDD.out, if_neg (fun h => h.2 h0)]
                  have HN := Lib.hid hN
                  have hk0 : ((k : Int) + (m : Int) == 0) = true := by simp; omega
                  clear hN hz h0
                  go_wp2_with fail
                  go_ret2
                  rw [HD.out, HN.out]
                  exact ⟨rfl, rfl⟩
                · have hN : decU l = some (v * 1000000 + x) := by rw [HDD.out, if_pos ⟨hz, h0⟩, HX.out, HDv.out, HV.out, hj6.out]
                  have HN := Lib.hid hN
                  have hk0 : ((k : Int) + (m : Int) == 0) = false := by simp; omega
                  clear hN hz h0
                  cases b
                  all_goals
                    go_wp2_with fail
                    go_ret2
                    rw [HD.out, HN.out]
                    exact ⟨by simp, rfl⟩
              · have he2 : ((t.extract k t.size).extract (1 + m) (t.size - k)).toList.isEmpty = false := by
                  rw [Lib.toList_data, HR2.out]
                  cases h : r.drop m with
                  | nil => exact absurd h hz
                  | cons _ _ => rfl
                have hN : decU l = none := by rw [HDD.out, if_neg (fun h => hz h.1)]
                have HN := Lib.hid hN
                clear hN hz
                go_wp2_with fail
                go_ret2
                rw [HD.out, HN.out]
                exact ⟨rfl, rfl⟩
        · have hB := decU_B hk hr h46
          have HB := Lib.hid hB
          have hc46 : (((t.extract k t.size)[0].toNat : Int) == 46) = false := by rw [hc]; simp; omega
          clear hB hdrop hr hk hc h46
          go_wp2_with fail
          refine (digits_at t l HL _ ht k HK v HV).mono ?_
          rintro e w' ⟨rfl, rfl⟩
          go_wp2_with fail
          go_ret2
          rw [HD.out, HB.out]
          exact ⟨rfl, rfl⟩
#print axioms parse_any
end Go.Proofs.YtglmofeeggjemaaGreatDoor.DeciW
namespace Go.Proofs.YtglmofeeggjemaaGreatDoor.DeciW
open Go.RowKit Go.Proofs.YtglmofeeggjemaaGreatDoor.Dp Go.Proofs.YtglmofeeggjemaaGreatDoor.Base

theorem digit_piece : ∀ i : Fin 10, ((⟨#[48, 49, 50, 51, 52, 53, 54, 55, 56, 57]⟩ : ByteArray).extract i.val (i.val + 1)).data.toList = [UInt8.ofNat (48 + i.val)] := by decide +kernel

set_option maxHeartbeats 400000 in
theorem num_any (n least : Nat) (hl : least ≤ 20) (x : Int) (hx : Hid (x = n)) (hx0 : 0 ≤ x) (hx1 : x ≤ 9223372036854775807) (S : ByteArray) (hS : Hid (S.data.toList = numL n least)) (w : World) :
    Calls Tryz.prog 29 #[.int .i64 x, .int .i64 least] w fun e w' => e = .returned (.string S) ∧ w = w' := by
  go_enter Tryz.func29, Tryz.ntmps29
  go_wp2
  go_loop [0, 5] (fun v i => ∃ (k : Nat) (c : Int) (T : ByteArray), k ≤ max least (ndz n) ∧ 0 ≤ c ∧ c ≤ 9223372036854775807 ∧ c = (n / 10 ^ k : Nat) ∧ T.data.toList = pad n k ∧ v = .int .i64 c ∧ i = .string T) (fun v i => (intOf v).toNat + (20 - (Lib.strSize i)))
  case atStart => exact ⟨0, x, ⟨#[]⟩, Nat.zero_le _, hx0, hx1, by rw [hx.out]; simp, rfl, rfl, rfl⟩
  case round =>
    obtain ⟨k, c, T, hk, hc0, hc1, hc, hT, rfl, rfl⟩ := hrel
    have hs := len_list T
    rw [hT, pad_length] at hs
    have hT' := Lib.hid hT
    clear hT
    by_cases hgo : 0 < c ∨ k < least
    · have hk2 : k < max least (ndz n) := by
        rcases hgo with h | h
        · have := ndz_gt (n := n) (k := k) (by omega)
          omega
        · omega
      have hnd : ndz n ≤ 20 := by
        unfold ndz
        split
        · omega
        · exact Lib.nDigits_le20 n (by have := hx.out; omega)
      have hT20 : T.size ≤ 20 := by omega
      obtain ⟨q, hq⟩ : ∃ q : Nat, q = n / 10 ^ k % 10 := ⟨_, rfl⟩
      have hq9 : q < 10 := by omega
      have hcq : c % 10 = (q : Int) := by omega
      have hp := digit_piece ⟨q, hq9⟩
      have HP : Hid ((((⟨#[48, 49, 50, 51, 52, 53, 54, 55, 56, 57]⟩ : ByteArray).extract q (q + 1)) ++ T).data.toList = pad n (k + 1)) := by
        show _ = _
        rw [app_list, hp, hT'.out, pad_succ, dg_mod, ← hq]; rfl
      have hsz : ((⟨#[48, 49, 50, 51, 52, 53, 54, 55, 56, 57]⟩ : ByteArray).extract q (q + 1)).size = 1 := by rw [← len_list, hp]; rfl
      have HC : Hid (c / 10 = ((n / 10 ^ (k + 1) : Nat) : Int)) := by
        show _ = _
        rw [Nat.pow_succ, ← Nat.div_div_eq_div_mul]; omega
      have hm' : Hid (((c / 10).toNat + (20 - (T.size + 1)) : Nat) < c.toNat + (20 - T.size)) := by
        show _ < _
        clear hc hp hcq hq HP HC
        rcases hgo with h | h <;> omega
      have HLT : Hid (¬ 0 < c → T.size < least) := by show _ → _; omega
      clear hp hc hk hq hs hnd
      by_cases hc0' : 0 < c
      · clear hgo
        go_wp2
        go_round
        case rel => exact ⟨k + 1, c / 10, _, hk2, by omega, by omega, HC.out, HP.out, rfl, rfl⟩
        case measure => simp only [intOf, Lib.strSize, ByteArray.size_append, hsz]; have := hm'.out; rw [Nat.add_comm 1]; exact this
      · have hsz2 : T.size < least := HLT.out hc0'
        clear hgo
        go_wp2
        go_round
        case rel => exact ⟨k + 1, c / 10, _, hk2, by omega, by omega, HC.out, HP.out, rfl, rfl⟩
        case measure => simp only [intOf, Lib.strSize, ByteArray.size_append, hsz]; have := hm'.out; rw [Nat.add_comm 1]; exact this
    · have h1 : c = 0 := by omega
      have h2 : ¬ k < least := by omega
      have hj : Hid (max least (ndz n) = k) := by
        show _ = _
        have := ndz_le (n := n) (k := k) (by omega)
        omega
      have hsz : ¬ T.size < least := by omega
      subst h1
      clear hc hk hgo h2 hs
      go_wp2_with fail
      go_ret
      exact ⟨ret_str (by rw [hS.out, hT'.out]; unfold numL; rw [hj.out]), rfl⟩
theorem num_at (n least : Nat) (L : Int) (hL : L = (least : Int)) (hl : least ≤ 20) (x : Int) (hx : Hid (x = n)) (hx0 : 0 ≤ x) (hx1 : x ≤ 9223372036854775807) (S : ByteArray) (hS : Hid (S.data.toList = numL n least)) (w : World) :
    Calls Tryz.prog 29 #[.int .i64 x, .int .i64 L] w fun e w' => e = .returned (.string S) ∧ w = w' := by
  subst hL; exact num_any n least hl x hx hx0 hx1 S hS w
end Go.Proofs.YtglmofeeggjemaaGreatDoor.DeciW
namespace Go.Proofs.YtglmofeeggjemaaGreatDoor.DeciW
open Go.RowKit Go.Proofs.YtglmofeeggjemaaGreatDoor.Dp Go.Proofs.YtglmofeeggjemaaGreatDoor.Base

set_option maxHeartbeats 400000 in
theorem rok_any (n : Int) (w : World) : Calls Tryz.prog 48 #[.int .i64 n] w fun e w' => e = .returned (.bool (okN n)) ∧ w = w' := by
  go_enter Tryz.func48, Tryz.ntmps48
  by_cases h1 : -1000000000000 < n
  · by_cases h2 : n < 1000000000000
    · have hb : okN n = true := by simp [okN, h1, h2]
      have HB := Lib.hid hb
      clear hb
      go_wp2
      go_ret
      rw [HB.out]; exact ⟨rfl, rfl⟩
    · have hb : okN n = false := by simp [okN, h2]
      have HB := Lib.hid hb
      clear hb
      go_wp2
      go_ret
      rw [HB.out]; exact ⟨rfl, rfl⟩
  · have hb : okN n = false := by simp [okN, h1]
    have HB := Lib.hid hb
    clear hb
    go_wp2
    go_ret
    rw [HB.out]; exact ⟨rfl, rfl⟩

end Go.Proofs.YtglmofeeggjemaaGreatDoor.DeciW
namespace Go.Proofs.YtglmofeeggjemaaGreatDoor.DeciW
open Go.RowKit Go.Proofs.YtglmofeeggjemaaGreatDoor.Dp Go.Proofs.YtglmofeeggjemaaGreatDoor.Base
theorem textL_pos (a : Nat) (ha : a < 1000000000000) : textL (a : Int) = Lib.decDigits (a / 1000000) ++ (if a % 1000000 = 0 then [] else 46 :: Lib.trimRightB (pad (a % 1000000) 6) 48) := by
  unfold textL
  rw [if_pos ((okN_iff _).2 ⟨by omega, by omega⟩), if_neg (by omega)]
  simp
theorem textL_neg (a : Nat) (h0 : 0 < a) (ha : a < 1000000000000) : textL (-(a : Int)) = 45 :: (Lib.decDigits (a / 1000000) ++ (if a % 1000000 = 0 then [] else 46 :: Lib.trimRightB (pad (a % 1000000) 6) 48)) := by
  unfold textL
  rw [if_pos ((okN_iff _).2 ⟨by omega, by omega⟩), if_pos (by omega)]
  simp


theorem trimR_snoc_yes (l : List UInt8) (c : UInt8) : Lib.trimRightB (l ++ [c]) c = Lib.trimRightB l c := by
  unfold Lib.trimRightB; simp
theorem trimR_snoc_no (l : List UInt8) (c d : UInt8) (h : d ≠ c) : Lib.trimRightB (l ++ [d]) c = l ++ [d] := by
  unfold Lib.trimRightB; simp [h]
theorem trimR_nil (c : UInt8) : Lib.trimRightB [] c = [] := rfl
theorem last_of (T : ByteArray) (h : 0 < T.size) : T.data.toList = (T.extract 0 (T.size - 1)).data.toList ++ [T[T.size - 1]] := by
  rw [Lib.extract_data]
  have := take_snoc T (T.size - 1) (by omega)
  rw [show T.size - 1 + 1 = T.size by omega, List.take_of_length_le (by simp)] at this
  simpa using this

set_option maxHeartbeats 400000 in
theorem bare_any (s S : ByteArray) (l : List UInt8) (hl : Hid (s.data.toList = l)) (hz : s.size ≤ 9223372036854775807) (hS : Hid (S.data.toList = Lib.trimRightB l 48)) (w : World) :
    Calls Tryz.prog 49 #[.string s] w fun e w' => e = .returned (.string S) ∧ w = w' := by
  go_enter Tryz.func49, Tryz.ntmps49
  go_wp2
  go_loop [0] (fun i => ∃ (T : ByteArray), T.size ≤ 9223372036854775807 ∧ Lib.trimRightB T.data.toList 48 = Lib.trimRightB l 48 ∧ i = .string T) (fun i => Lib.strSize i)
  case atStart => exact ⟨s, hz, by rw [hl.out], rfl⟩
  case round =>
    obtain ⟨T, hT, hTr, rfl⟩ := hrel
    have HT := Lib.hid hTr
    clear hTr
    by_cases h0 : 0 < T.size
    · have hlast := last_of T h0
      by_cases h48 : T[T.size - 1].toNat = 48
      · have h48' : T[T.size - 1] = 48 := UInt8.toNat_inj.1 h48
        have HN : Hid (Lib.trimRightB (T.extract 0 (T.size - 1)).data.toList 48 = Lib.trimRightB l 48) := by
          show _ = _
          rw [← HT.out, hlast, h48', trimR_snoc_yes]
        have hb : ((T[T.size - 1].toNat : Int) == 48) = true := by simp; omega
        clear hlast h48 h48'
        go_wp2
        go_round
        case rel => exact ⟨_, by simp; omega, HN.out, rfl⟩
        case measure => simp [Lib.strSize]; omega
      · have HN : Hid (T.data.toList = Lib.trimRightB l 48) := by
          show _ = _
          rw [← HT.out, hlast, trimR_snoc_no _ _ _ (fun h => h48 (by rw [h]; rfl))]
        have hb : ((T[T.size - 1].toNat : Int) == 48) = false := by simp; omega
        clear hlast h48
        go_wp2
        go_ret
        exact ⟨ret_str (by rw [hS.out, HN.out]), rfl⟩
    · have HN : Hid (T.data.toList = Lib.trimRightB l 48) := by
        show _ = _
        have := list_nil T h0
        rw [← HT.out, this]; rfl
      go_wp2
      go_ret
      exact ⟨ret_str (by rw [hS.out, HN.out]), rfl⟩

set_option maxRecDepth 100000 in
set_option maxHeartbeats 800000 in
theorem rtext_any (n : Int) (hn0 : -9223372036854775808 ≤ n) (hn1 : n ≤ 9223372036854775807) (S : ByteArray) (hS : Hid (S.data.toList = textL n)) (w : World) :
    Calls Tryz.prog 28 #[.int .i64 n] w fun e w' => e = .returned (.string S) ∧ w = w' := by
  cases hok : okN n with
  | false =>
    have hE : S = ⟨#[]⟩ := str_eq (by rw [hS.out]; unfold textL; rw [hok]; rfl)
    subst hE
    have HOK := Lib.hid hok
    clear hok hS
    go_enter Tryz.func28, Tryz.ntmps28
    go_wp2_with fail
    refine (rok_any n _).mono ?_
    rintro e w' ⟨rfl, rfl⟩
    rw [HOK.out]
    go_wp2_with fail
    go_ret
    exact ⟨rfl, rfl⟩
  | true =>
    have hb := (okN_iff n).1 hok
    have hs : ∃ a : Nat, a < 1000000000000 ∧ ((n = (a : Int)) ∨ (n = -(a : Int) ∧ 0 < a)) := ⟨n.natAbs, by omega, by omega⟩
    obtain ⟨a, ha, hs⟩ := hs
    clear hn0 hn1
    obtain ⟨x, hxa⟩ : ∃ x : Int, x = (a : Int) := ⟨_, rfl⟩
    have hx0 : 0 ≤ x := by omega
    have hx1 : x < 1000000000000 := by omega
    rw [← hxa] at hs
    obtain ⟨S1, hS1⟩ := str_ex (numL (a / 1000000) 1)
    obtain ⟨S2, hS2⟩ := str_ex (numL (a % 1000000) 6)
    obtain ⟨S3, hS3⟩ := str_ex (Lib.trimRightB (numL (a % 1000000) 6) 48)
    have hd1 : S1.data.toList = Lib.decDigits (a / 1000000) := by rw [hS1, numL_one]
    have hp6 : numL (a % 1000000) 6 = pad (a % 1000000) 6 := numL_of_lt (Nat.mod_lt _ (by decide))
    have hd3 : S3.data.toList = Lib.trimRightB (pad (a % 1000000) 6) 48 := by rw [hS3, hp6]
    have hz1 : S1.size ≤ 20 := by
      rw [← len_list, hd1, Lib.decDigits_length]
      exact Lib.nDigits_le20 _ (by omega)
    have hz2 : S2.size ≤ 9223372036854775807 := by rw [← len_list, hS2, hp6, pad_length]; decide
    have hz3 : S3.size ≤ 6 := by
      rw [← len_list, hd3]
      have := trimRightB_length (pad (a % 1000000) 6) 48
      rw [pad_length] at this; exact this
    have hq1 : x / 1000000 = ((a / 1000000 : Nat) : Int) := by omega
    have hq2 : x % 1000000 = ((a % 1000000 : Nat) : Int) := by omega
    have HQ1 := Lib.hid hq1
    have HQ2 := Lib.hid hq2
    have HS1 := Lib.hid hS1
    have HS2 := Lib.hid hS2
    have HS3 := Lib.hid hS3
    have HD3 := Lib.hid hd3
    have HD1 := Lib.hid hd1
    have HOK := Lib.hid hok
    clear hS1 hS2 hS3 hd1 hd3 hp6 hok hb hq1 hq2
    by_cases hf : a % 1000000 = 0
    · have hm : ((x % 1000000) != 0) = false := by simp; omega
      have hm2 : ((x % 1000000) == 0) = true := by simp; omega
      rcases hs with rfl | ⟨rfl, h0⟩
      · have hfin := textL_pos a ha
        rw [← hxa] at hfin
        rw [if_pos hf] at hfin
        have HF := Lib.hid hfin
        clear hfin hf ha hxa
        go_enter Tryz.func28, Tryz.ntmps28
        go_wp2_with fail
        refine (rok_any _ _).mono ?_
        rintro e w' ⟨rfl, rfl⟩
        rw [HOK.out]
        go_wp2_with fail
        refine (num_any _ 1 (by decide) _ HQ1 (by omega) (by omega) S1 HS1 _).mono ?_
        rintro e w1 ⟨rfl, rfl⟩
        go_wp2_with fail
        go_ret
        exact ⟨ret_str (by rw [hS.out, HF.out, ← HD1.out]; simp), rfl⟩
      · have hx2 : 0 < x := by omega
        have hfin := textL_neg a (by omega) ha
        clear h0
        rw [← hxa] at hfin
        rw [if_pos hf] at hfin
        have HF := Lib.hid hfin
        clear hfin hf ha hxa
        go_enter Tryz.func28, Tryz.ntmps28
        go_wp2_with fail
        refine (rok_any _ _).mono ?_
        rintro e w' ⟨rfl, rfl⟩
        rw [HOK.out]
        go_wp2_with fail
        refine (num_any _ 1 (by decide) _ HQ1 (by omega) (by omega) S1 HS1 _).mono ?_
        rintro e w1 ⟨rfl, rfl⟩
        go_wp2_with fail
        go_ret
        exact ⟨ret_str (by rw [hS.out, HF.out, ← HD1.out]; simp), rfl⟩
    · have hm : ((x % 1000000) != 0) = true := by simp; omega
      have hm2 : ((x % 1000000) == 0) = false := by simp; omega
      rcases hs with rfl | ⟨rfl, h0⟩
      · have hfin := textL_pos a ha
        rw [← hxa] at hfin
        rw [if_neg hf] at hfin
        have HF := Lib.hid hfin
        clear hfin hf ha hxa
        go_enter Tryz.func28, Tryz.ntmps28
        go_wp2_with fail
        refine (rok_any _ _).mono ?_
        rintro e w' ⟨rfl, rfl⟩
        rw [HOK.out]
        go_wp2_with fail
        refine (num_any _ 1 (by decide) _ HQ1 (by omega) (by omega) S1 HS1 _).mono ?_
        rintro e w1 ⟨rfl, rfl⟩
        go_wp2_with fail
        refine (num_any _ 6 (by decide) _ HQ2 (by omega) (by omega) S2 HS2 _).mono ?_
        rintro e w2 ⟨rfl, rfl⟩
        go_wp2_with fail
        refine (bare_any _ S3 _ HS2 hz2 HS3 _).mono ?_
        rintro e w3 ⟨rfl, rfl⟩
        go_wp2_with fail
        go_ret
        exact ⟨ret_str (by rw [hS.out, HF.out, ← HD1.out, ← HD3.out]; simp), rfl⟩
      · have hx2 : 0 < x := by omega
        have hfin := textL_neg a (by omega) ha
        clear h0
        rw [← hxa] at hfin
        rw [if_neg hf] at hfin
        have HF := Lib.hid hfin
        clear hfin hf ha hxa
        go_enter Tryz.func28, Tryz.ntmps28
        go_wp2_with fail
        refine (rok_any _ _).mono ?_
        rintro e w' ⟨rfl, rfl⟩
        rw [HOK.out]
        go_wp2_with fail
        refine (num_any _ 1 (by decide) _ HQ1 (by omega) (by omega) S1 HS1 _).mono ?_
        rintro e w1 ⟨rfl, rfl⟩
        go_wp2_with fail
        refine (num_any _ 6 (by decide) _ HQ2 (by omega) (by omega) S2 HS2 _).mono ?_
        rintro e w2 ⟨rfl, rfl⟩
        go_wp2_with fail
        refine (bare_any _ S3 _ HS2 hz2 HS3 _).mono ?_
        rintro e w3 ⟨rfl, rfl⟩
        go_wp2_with fail
        go_ret
        exact ⟨ret_str (by rw [hS.out, HF.out, ← HD1.out, ← HD3.out]; simp), rfl⟩
#print axioms rtext_any
end Go.Proofs.YtglmofeeggjemaaGreatDoor.DeciW
namespace Go.Proofs.YtglmofeeggjemaaGreatDoor.Bits
open Go

theorem and1 (n : Int) : bits .and .i64 n 1 = n % 2 := by
  have hm : (BitVec.ofInt 64 1).toNat = 2 ^ 1 - 1 := by decide
  have key : (BitVec.ofInt 64 n &&& BitVec.ofInt 64 1).toNat = (n % ((2 ^ 64 : Nat) : Int)).toNat % 2 ^ 1 := by
    rw [BitVec.toNat_and, BitVec.toNat_ofInt, hm, Nat.and_two_pow_sub_one_eq_mod]
  show IntKind.i64.wrap ((BitVec.ofInt 64 n &&& BitVec.ofInt 64 1).toNat : Nat) = n % 2
  rw [key, IntKind.wrap_i64]
  omega
theorem and3 (n : Int) : bits .and .i64 n 3 = n % 4 := by
  have hm : (BitVec.ofInt 64 3).toNat = 2 ^ 2 - 1 := by decide
  have key : (BitVec.ofInt 64 n &&& BitVec.ofInt 64 3).toNat = (n % ((2 ^ 64 : Nat) : Int)).toNat % 2 ^ 2 := by
    rw [BitVec.toNat_and, BitVec.toNat_ofInt, hm, Nat.and_two_pow_sub_one_eq_mod]
  show IntKind.i64.wrap ((BitVec.ofInt 64 n &&& BitVec.ofInt 64 3).toNat : Nat) = n % 4
  rw [key, IntKind.wrap_i64]
  omega
theorem and7 (n : Int) : bits .and .i64 n 7 = n % 8 := by
  have hm : (BitVec.ofInt 64 7).toNat = 2 ^ 3 - 1 := by decide
  have key : (BitVec.ofInt 64 n &&& BitVec.ofInt 64 7).toNat = (n % ((2 ^ 64 : Nat) : Int)).toNat % 2 ^ 3 := by
    rw [BitVec.toNat_and, BitVec.toNat_ofInt, hm, Nat.and_two_pow_sub_one_eq_mod]
  show IntKind.i64.wrap ((BitVec.ofInt 64 n &&& BitVec.ofInt 64 7).toNat : Nat) = n % 8
  rw [key, IntKind.wrap_i64]
  omega
theorem and15 (n : Int) : bits .and .i64 n 15 = n % 16 := by
  have hm : (BitVec.ofInt 64 15).toNat = 2 ^ 4 - 1 := by decide
  have key : (BitVec.ofInt 64 n &&& BitVec.ofInt 64 15).toNat = (n % ((2 ^ 64 : Nat) : Int)).toNat % 2 ^ 4 := by
    rw [BitVec.toNat_and, BitVec.toNat_ofInt, hm, Nat.and_two_pow_sub_one_eq_mod]
  show IntKind.i64.wrap ((BitVec.ofInt 64 n &&& BitVec.ofInt 64 15).toNat : Nat) = n % 16
  rw [key, IntKind.wrap_i64]
  omega
theorem and31 (n : Int) : bits .and .i64 n 31 = n % 32 := by
  have hm : (BitVec.ofInt 64 31).toNat = 2 ^ 5 - 1 := by decide
  have key : (BitVec.ofInt 64 n &&& BitVec.ofInt 64 31).toNat = (n % ((2 ^ 64 : Nat) : Int)).toNat % 2 ^ 5 := by
    rw [BitVec.toNat_and, BitVec.toNat_ofInt, hm, Nat.and_two_pow_sub_one_eq_mod]
  show IntKind.i64.wrap ((BitVec.ofInt 64 n &&& BitVec.ofInt 64 31).toNat : Nat) = n % 32
  rw [key, IntKind.wrap_i64]
  omega
theorem and63 (n : Int) : bits .and .i64 n 63 = n % 64 := by
  have hm : (BitVec.ofInt 64 63).toNat = 2 ^ 6 - 1 := by decide
  have key : (BitVec.ofInt 64 n &&& BitVec.ofInt 64 63).toNat = (n % ((2 ^ 64 : Nat) : Int)).toNat % 2 ^ 6 := by
    rw [BitVec.toNat_and, BitVec.toNat_ofInt, hm, Nat.and_two_pow_sub_one_eq_mod]
  show IntKind.i64.wrap ((BitVec.ofInt 64 n &&& BitVec.ofInt 64 63).toNat : Nat) = n % 64
  rw [key, IntKind.wrap_i64]
  omega
theorem and255 (n : Int) : bits .and .i64 n 255 = n % 256 := by
  have hm : (BitVec.ofInt 64 255).toNat = 2 ^ 8 - 1 := by decide
  have key : (BitVec.ofInt 64 n &&& BitVec.ofInt 64 255).toNat = (n % ((2 ^ 64 : Nat) : Int)).toNat % 2 ^ 8 := by
    rw [BitVec.toNat_and, BitVec.toNat_ofInt, hm, Nat.and_two_pow_sub_one_eq_mod]
  show IntKind.i64.wrap ((BitVec.ofInt 64 n &&& BitVec.ofInt 64 255).toNat : Nat) = n % 256
  rw [key, IntKind.wrap_i64]
  omega
theorem and4095 (n : Int) : bits .and .i64 n 4095 = n % 4096 := by
  have hm : (BitVec.ofInt 64 4095).toNat = 2 ^ 12 - 1 := by decide
  have key : (BitVec.ofInt 64 n &&& BitVec.ofInt 64 4095).toNat = (n % ((2 ^ 64 : Nat) : Int)).toNat % 2 ^ 12 := by
    rw [BitVec.toNat_and, BitVec.toNat_ofInt, hm, Nat.and_two_pow_sub_one_eq_mod]
  show IntKind.i64.wrap ((BitVec.ofInt 64 n &&& BitVec.ofInt 64 4095).toNat : Nat) = n % 4096
  rw [key, IntKind.wrap_i64]
  omega
theorem and8191 (n : Int) : bits .and .i64 n 8191 = n % 8192 := by
  have hm : (BitVec.ofInt 64 8191).toNat = 2 ^ 13 - 1 := by decide
  have key : (BitVec.ofInt 64 n &&& BitVec.ofInt 64 8191).toNat = (n % ((2 ^ 64 : Nat) : Int)).toNat % 2 ^ 13 := by
    rw [BitVec.toNat_and, BitVec.toNat_ofInt, hm, Nat.and_two_pow_sub_one_eq_mod]
  show IntKind.i64.wrap ((BitVec.ofInt 64 n &&& BitVec.ofInt 64 8191).toNat : Nat) = n % 8192
  rw [key, IntKind.wrap_i64]
  omega
theorem and16383 (n : Int) : bits .and .i64 n 16383 = n % 16384 := by
  have hm : (BitVec.ofInt 64 16383).toNat = 2 ^ 14 - 1 := by decide
  have key : (BitVec.ofInt 64 n &&& BitVec.ofInt 64 16383).toNat = (n % ((2 ^ 64 : Nat) : Int)).toNat % 2 ^ 14 := by
    rw [BitVec.toNat_and, BitVec.toNat_ofInt, hm, Nat.and_two_pow_sub_one_eq_mod]
  show IntKind.i64.wrap ((BitVec.ofInt 64 n &&& BitVec.ofInt 64 16383).toNat : Nat) = n % 16384
  rw [key, IntKind.wrap_i64]
  omega
theorem and32767 (n : Int) : bits .and .i64 n 32767 = n % 32768 := by
  have hm : (BitVec.ofInt 64 32767).toNat = 2 ^ 15 - 1 := by decide
  have key : (BitVec.ofInt 64 n &&& BitVec.ofInt 64 32767).toNat = (n % ((2 ^ 64 : Nat) : Int)).toNat % 2 ^ 15 := by
    rw [BitVec.toNat_and, BitVec.toNat_ofInt, hm, Nat.and_two_pow_sub_one_eq_mod]
  show IntKind.i64.wrap ((BitVec.ofInt 64 n &&& BitVec.ofInt 64 32767).toNat : Nat) = n % 32768
  rw [key, IntKind.wrap_i64]
  omega
theorem and65535 (n : Int) : bits .and .i64 n 65535 = n % 65536 := by
  have hm : (BitVec.ofInt 64 65535).toNat = 2 ^ 16 - 1 := by decide
  have key : (BitVec.ofInt 64 n &&& BitVec.ofInt 64 65535).toNat = (n % ((2 ^ 64 : Nat) : Int)).toNat % 2 ^ 16 := by
    rw [BitVec.toNat_and, BitVec.toNat_ofInt, hm, Nat.and_two_pow_sub_one_eq_mod]
  show IntKind.i64.wrap ((BitVec.ofInt 64 n &&& BitVec.ofInt 64 65535).toNat : Nat) = n % 65536
  rw [key, IntKind.wrap_i64]
  omega
theorem and1048575 (n : Int) : bits .and .i64 n 1048575 = n % 1048576 := by
  have hm : (BitVec.ofInt 64 1048575).toNat = 2 ^ 20 - 1 := by decide
  have key : (BitVec.ofInt 64 n &&& BitVec.ofInt 64 1048575).toNat = (n % ((2 ^ 64 : Nat) : Int)).toNat % 2 ^ 20 := by
    rw [BitVec.toNat_and, BitVec.toNat_ofInt, hm, Nat.and_two_pow_sub_one_eq_mod]
  show IntKind.i64.wrap ((BitVec.ofInt 64 n &&& BitVec.ofInt 64 1048575).toNat : Nat) = n % 1048576
  rw [key, IntKind.wrap_i64]
  omega
end Go.Proofs.YtglmofeeggjemaaGreatDoor.Bits
