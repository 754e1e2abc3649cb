/-
  The walk of pnm.Decode.
-/
import Derived.Test.YtmclabehdjdpnaaDoorSideW
import Derived.Test.YtmclabehdjdpnaaDoorEncY
import Derived.Lib.SmallJoins
namespace Go.Proofs.YtmclabehdjdpnaaDoor.PnmW
open Go.RowKit Go.Proofs.YtmclabehdjdpnaaDoor.Dp Go.Proofs.YtmclabehdjdpnaaDoor.Base Go.Proofs.YtmclabehdjdpnaaDoor.Mem Go.Proofs.YtmclabehdjdpnaaDoor.Pp

theorem RB.setCell {w : World} {p : Option Addr} {l : List UInt8} (h : RB w p l) {a : Addr} {u : Value} (hu : w.cell? a = some u) (hk : ∀ n, u ≠ .int .u8 n) (x : Value) : RB (w.setCell a x) p l := by
  intro hl
  obtain ⟨b, o, rfl, hc⟩ := h.at hl
  refine ⟨b, o, rfl, fun i hi => ?_⟩
  rw [World.cell?_setCell_other w a _ x (fun e => by subst e; rw [hc i hi] at hu; injection hu with hu; exact hk _ hu.symm)]
  exact hc i hi
theorem RB.of_block {w : World} {g : Nat} {C : Array Value} {e : TypeId} {fz : Nat × Nat} {l : List UInt8} (h : w.heap[g]? = some (.cells C e fz)) (hC : C = (byteVs l).toArray) : RB w (some ⟨g, 0, none⟩) l := by
  refine RB.of fun i hi => ?_
  rw [Nat.zero_add, cell_of_row w g i C e fz h, hC]
  simpa using byteVs_get l i hi
/-- Bytes are kept where an image's block alone turns. -/
theorem RB.other {w v : World} {q : Option Addr} {l : List UInt8} (h : RB w q l) {R : Nat} {a b : Int} {c : Bool} {y : Value} (hR : w.heap[R]? = some (imgObj a b c y)) (hy : ∀ n, y ≠ .int .u8 n) (hv : ∀ k, k ≠ R → v.heap[k]? = w.heap[k]?) : RB v q l := by
  intro hl
  obtain ⟨g, o, rfl, hc⟩ := h.at hl
  have hne : g ≠ R := by
    rintro rfl
    have h0 := hc 0 hl
    rw [cell_of_row w g (o + 0) _ _ _ hR] at h0
    rw [Nat.add_zero] at h0
    match o, h0 with
    | 0, h0 => simp at h0
    | 1, h0 => simp at h0
    | 2, h0 => simp at h0
    | 3, h0 => simp at h0; exact hy _ h0
    | o + 4, h0 => simp at h0
  refine ⟨g, o, rfl, fun i hi => ?_⟩
  rw [World.cell?_of_block (w := w) (w' := v) (a := ⟨g, o + i, none⟩) (hv g hne)]
  exact hc i hi
theorem RB.lit (w : World) (C : Array Value) (e : TypeId) (fz : Nat × Nat) (g : Nat) (hg : g = w.heap.size) (l : List UInt8) (hC : C = (byteVs l).toArray) : RB (w.alloc (.cells C e fz)) (some ⟨g, 0, none⟩) l := by
  subst hg
  exact RB.of_block (heap_alloc_new w _) hC

def DecOut (l : List UInt8) (w : World) (e : Ending) (w' : World) : Prop :=
  Below w.heap.size w w' ∧
  match decV l with
  | none => e = .returned (.tuple #[imgVal 0 0 false (.slice none 0 0), .bool false])
  | some (W, H, c, pix) => ∃ q d, e = .returned (.tuple #[imgVal W H c (.slice q pix.length d), .bool true]) ∧ RB w' q pix ∧ pix.length ≤ d
/-- The image that is read, and the result, lie there. -/
structure DecAt (w0 : World) (c : Bool) (W H : Int) (w : World) : Prop where
  R : w.heap[w0.heap.size]? = some (imgObj 0 0 false (.slice none 0 0))
  M : w.heap[w0.heap.size + 1]? = some (imgObj W H c (.slice none 0 0))
  b : Below w0.heap.size w0 w
theorem DecAt.below {w0 w v : World} {c : Bool} {W H : Int} (h : DecAt w0 c W H w) (hb : Below w.heap.size w v) : DecAt w0 c W H v :=
  ⟨(hb.block _ (Array.getElem?_eq_some_iff.1 h.R).1).trans h.R, (hb.block _ (Array.getElem?_eq_some_iff.1 h.M).1).trans h.M, h.b.trans (hb.mono h.b.size)⟩

def DecMid (l : List UInt8) (w0 : World) (a b : Value) (w : World) : Prop :=
  ∃ (c : Bool) (q : Option Addr) (k d : Nat) (l' : List UInt8), a = .slice q k d ∧ b = .bool true ∧ Hid (k = l'.length) ∧ k ≤ d ∧ d ≤ maxLen ∧ RB w q l' ∧ DecAt w0 c 0 0 w ∧ Hid (decV l = bodyV c l')

theorem decAt_five (w : World) (C : Obj) : DecAt w false 0 0 (((w.alloc (imgObj 0 0 false (.slice none 0 0))).alloc (imgObj 0 0 false (.slice none 0 0))).alloc C) := by
  refine ⟨?_, ?_, (((Below.refl _ _).alloc (Nat.le_refl _) _).alloc (by simp) _).alloc (by simp; omega) _⟩
  · show (((w.heap.push _).push _).push _)[w.heap.size]? = _
    rw [Array.getElem?_push, if_neg (by simp; omega), Array.getElem?_push, if_neg (by simp), Array.getElem?_push, if_pos rfl]
  · show (((w.heap.push _).push _).push _)[w.heap.size + 1]? = _
    rw [Array.getElem?_push, if_neg (by simp), Array.getElem?_push, if_pos (by simp)]
theorem heap_here {v : World} {b : Nat} {c : Array Value} {k : TypeId} (h : v.heap[b]? = some (.cells c k)) (o : Nat) (x : Value) : (v.setCell ⟨b, o, none⟩ x).heap[b]? = some (.cells (c.setIfInBounds o x) k) := by
  show (Array.modify _ _ _)[b]? = _
  rw [Array.getElem?_modify, if_pos rfl, h]; rfl
theorem DecAt.set {w0 w : World} {c : Bool} {W H : Int} (h : DecAt w0 c W H w) (o : Nat) (x : Value) {c' : Bool} {W' H' : Int} (hx : (#[.int .i64 W, .int .i64 H, .bool c, .slice none 0 0] : Array Value).setIfInBounds o x = #[.int .i64 W', .int .i64 H', .bool c', .slice none 0 0]) :
    DecAt w0 c' W' H' (w.setCell ⟨w0.heap.size + 1, o, none⟩ x) :=
  ⟨(Below.heap_setCell w _ x _ (show w0.heap.size ≠ w0.heap.size + 1 by omega)).trans h.R, by rw [heap_here h.M, hx], h.b.setCell (by simp) _⟩
/-- The result is stored. -/
theorem res_set {w0 w : World} (h : Below w0.heap.size w0 w) (a b a' b' : Int) (d d' : Bool) (y y' : Value) (hy : y = .slice none 0 0) (hw : w.heap[w0.heap.size]? = some (imgObj a b d y)) :
    ((((w.setCell ⟨w0.heap.size, 0, none⟩ (.int .i64 a')).setCell ⟨w0.heap.size, 1, none⟩ (.int .i64 b')).setCell ⟨w0.heap.size, 2, none⟩ (.bool d')).setCell ⟨w0.heap.size, 3, none⟩ y').heap[w0.heap.size]? = some (imgObj a' b' d' y') ∧
    Below w0.heap.size w0 ((((w.setCell ⟨w0.heap.size, 0, none⟩ (.int .i64 a')).setCell ⟨w0.heap.size, 1, none⟩ (.int .i64 b')).setCell ⟨w0.heap.size, 2, none⟩ (.bool d')).setCell ⟨w0.heap.size, 3, none⟩ y') ∧
    ∀ q l, RB w q l → RB ((((w.setCell ⟨w0.heap.size, 0, none⟩ (.int .i64 a')).setCell ⟨w0.heap.size, 1, none⟩ (.int .i64 b')).setCell ⟨w0.heap.size, 2, none⟩ (.bool d')).setCell ⟨w0.heap.size, 3, none⟩ y') q l := by
  refine ⟨heap_here (heap_here (heap_here (heap_here hw 0 _) 1 _) 2 _) 3 _, (((h.setCell (Nat.le_refl _) _).setCell (Nat.le_refl _) _).setCell (Nat.le_refl _) _).setCell (Nat.le_refl _) _, fun q l hr => RB.other hr hw (fun n => by rw [hy]; intro e; cases e) (fun k hk => ?_)⟩
  rw [Below.heap_setCell _ _ _ _ hk, Below.heap_setCell _ _ _ _ hk, Below.heap_setCell _ _ _ _ hk, Below.heap_setCell _ _ _ _ hk]
theorem DecAt.cells {w0 w : World} {c : Bool} {W H : Int} (h : DecAt w0 c W H w) :
    (w.cell? ⟨w0.heap.size + 1, 0, none⟩ = some (.int .i64 W) ∧ w.cell? ⟨w0.heap.size + 1, 1, none⟩ = some (.int .i64 H) ∧ w.cell? ⟨w0.heap.size + 1, 2, none⟩ = some (.bool c) ∧ w.cell? ⟨w0.heap.size + 1, 3, none⟩ = some (.slice none 0 0)) ∧
    w.cell? ⟨w0.heap.size, 0, none⟩ = some (.int .i64 0) ∧ w.cell? ⟨w0.heap.size, 1, none⟩ = some (.int .i64 0) ∧ w.cell? ⟨w0.heap.size, 2, none⟩ = some (.bool false) ∧ w.cell? ⟨w0.heap.size, 3, none⟩ = some (.slice none 0 0) := by
  have h1 := h.R
  have h2 := h.M
  refine ⟨⟨?_, ?_, ?_, ?_⟩, ?_, ?_, ?_, ?_⟩ <;> simp [World.cell?, h1, h2]
theorem DecAt.frozen {w0 w : World} {c : Bool} {W H : Int} (h : DecAt w0 c W H w) (o : Nat) : w.frozen? ⟨w0.heap.size + 1, o, none⟩ = false ∧ w.frozen? ⟨w0.heap.size, o, none⟩ = false := by
  have h1 := h.R
  have h2 := h.M
  constructor <;> simp [World.frozen?, h1, h2]

theorem decAt_six (w : World) (C D : Obj) : DecAt w true 0 0 (((((w.alloc (imgObj 0 0 false (.slice none 0 0))).alloc (imgObj 0 0 false (.slice none 0 0))).alloc C).setCell ⟨w.heap.size + 1, 2, none⟩ (.bool true)).alloc D) :=
  ((decAt_five w C).set 2 (.bool true) rfl).below ((Below.refl _ _).alloc (Nat.le_refl _) _)
theorem size_bound {W H : Nat} {c : Bool} {n : Nat} (h : sizeV W H c = some n) : 0 < n ∧ n ≤ 196608 := by
  unfold sizeV at h
  split at h
  · rename_i hb
    injection h with h
    rw [Int.toNat_natCast, Int.toNat_natCast] at h
    have h1 : 1 * 1 ≤ W * H := Nat.mul_le_mul (by omega) (by omega)
    have h2 : W * H ≤ 256 * 256 := Nat.mul_le_mul (by omega) (by omega)
    rw [Nat.mul_assoc] at h
    cases c <;> simp at h <;> omega
  · cases h
theorem dec_five {l : List UInt8} (h : (tagL false).isPrefixOf l = true) : decV l = bodyV false (l.drop 3) := by
  unfold decV; rw [if_pos h]
theorem dec_six {l : List UInt8} (h : (tagL false).isPrefixOf l = false) (h' : (tagL true).isPrefixOf l = true) : decV l = bodyV true (l.drop 3) := by
  unfold decV; rw [if_neg (by rw [h]; decide), if_pos h']
theorem dec_seven {l : List UInt8} (h : (tagL false).isPrefixOf l = false) (h' : (tagL true).isPrefixOf l = false) : decV l = none := by
  unfold decV; rw [if_neg (by rw [h]; decide), if_neg (by rw [h']; decide)]

set_option maxRecDepth 100000 in
set_option maxHeartbeats 1600000 in
theorem dec_any (p : Option Addr) (n cp : Nat) (l : List UInt8) (hn : Hid (n = l.length)) (hc : n ≤ cp) (hcm : cp ≤ maxLen) (w : World) (hR : RB w p l) :
    Calls Tryd.prog 18 #[.slice p n cp] w (DecOut l w) := by
  unfold maxLen at hcm
  have kc := fun (w : World) (C : Array Value) (n c g : Nat) (hg : g = w.heap.size) => Go.Joins.run_convert_bytes_const_at (P := Tryd.prog) w 29 5 C n c g hg Tryd.underlying29 Tryd.underlying5
  have HR := Lib.hid hR
  clear hR
  go_enter Tryd.func18, Tryd.ntmps18
  obtain ⟨z5, h5⟩ : ∃ z, (tagL false).isPrefixOf l = z := ⟨_, rfl⟩
  obtain ⟨z6, h6⟩ : ∃ z, (tagL true).isPrefixOf l = z := ⟨_, rfl⟩
  have H5 := Lib.hid h5
  have H6 := Lib.hid h6
  have hm3 : Hid (3 = (tagL false).length) := rfl
  have hm3' : Hid (3 = (tagL true).length) := rfl
  clear h5 h6
  go_wp2_with fail
  with_reducible refine (cut_c _ _ _ _ _ _ l (tagL false) hn hm3 hc ?r1 ?r2 (by decide) z5 H5).mono ?_
  case r1 => exact HR.out.below (decAt_five w _).b
  case r2 => exact RB.lit _ _ _ _ _ (by simp) _ rfl
  rintro e w' ⟨q, k, d, rfl, rfl, hkd, hdc, hy, hno⟩
  have HY := Lib.hid hy
  clear hy hno
  have A5 := Lib.hid (decAt_five w (.cells #[.int .u8 80, .int .u8 53, .int .u8 10] 5 (3, 4)))
  generalize (((w.alloc (imgObj 0 0 false (.slice none 0 0))).alloc (imgObj 0 0 false (.slice none 0 0))).alloc (.cells #[.int .u8 80, .int .u8 53, .int .u8 10] 5 (3, 4))) = W1 at A5 HY ⊢
  go_upto_if 17 with fail
  go_cut [5, 6] (DecMid l w)
  case first =>
    cases z5 with
    | true =>
      go_wp2_with fail
      go_meet
      exact ⟨false, q, k, d, l.drop 3, rfl, rfl, (HY.out trivial).1, hkd, by unfold maxLen; omega, (HY.out trivial).2, A5.out, dec_five H5.out⟩
    | false =>
      obtain ⟨⟨m0, m1, m2, m3⟩, r0, r1, r2, r3⟩ := A5.out.cells
      obtain ⟨fm, -⟩ := A5.out.frozen 2
      have A6 : Hid (DecAt w true 0 0 (W1.setCell ⟨w.heap.size + 1, 2, none⟩ (.bool true))) := A5.out.set 2 (.bool true) rfl
      go_wp2_with fail
      have HS2 : Hid (W1.heap.size = (W1.setCell ⟨w.heap.size + 1, 2, none⟩ (.bool true)).heap.size) := by show _ = _; simp
      generalize (W1.setCell ⟨w.heap.size + 1, 2, none⟩ (.bool true)) = W2 at A6 HS2 ⊢
      clear m0 m1 m2 m3 r0 r1 r2 r3 fm
      with_reducible refine (cut_c _ _ _ _ _ _ l (tagL true) hn hm3' hc ?r1 ?r2 (by decide) z6 H6).mono ?_
      case r1 => exact HR.out.below (A6.out.b.alloc A6.out.b.size _)
      case r2 => exact RB.lit _ _ _ _ _ HS2.out _ rfl
      rintro e w' ⟨q, k, d, rfl, rfl, hkd, hdc, hy, hno⟩
      have HY := Lib.hid hy
      clear hy hno
      cases z6 with
      | true =>
        go_wp2_with fail
        go_meet
        exact ⟨true, q, k, d, l.drop 3, rfl, rfl, (HY.out trivial).1, hkd, by unfold maxLen; omega, (HY.out trivial).2, A6.out.below ((Below.refl _ _).alloc (Nat.le_refl _) _), dec_six H5.out H6.out⟩
      | false =>
        have A7 : Hid (DecAt w true 0 0 (W2.alloc (.cells #[.int .u8 80, .int .u8 54, .int .u8 10] 5 (3, 4)))) := A6.out.below ((Below.refl _ _).alloc (Nat.le_refl _) _)
        generalize (W2.alloc (.cells #[.int .u8 80, .int .u8 54, .int .u8 10] 5 (3, 4))) = W3 at A7 ⊢
        clear A5 A6
        obtain ⟨⟨m0, m1, m2, m3⟩, r0, r1, r2, r3⟩ := A7.out.cells
        obtain ⟨fm, f0⟩ := A7.out.frozen 0
        obtain ⟨-, f1⟩ := A7.out.frozen 1
        obtain ⟨-, f2⟩ := A7.out.frozen 2
        obtain ⟨-, f3⟩ := A7.out.frozen 3
        have HE : Hid _ := res_set A7.out.b 0 0 0 0 false false (.slice none 0 0) (.slice none 0 0) rfl A7.out.R
        clear m0 m1 m2 m3 fm
        go_wp2_with fail
        clear r0 r1 r2 r3 f0 f1 f2 f3
        generalize ((((W3.setCell ⟨w.heap.size, 0, none⟩ (.int .i64 0)).setCell ⟨w.heap.size, 1, none⟩ (.int .i64 0)).setCell ⟨w.heap.size, 2, none⟩ (.bool false)).setCell ⟨w.heap.size, 3, none⟩ (.slice none 0 0)) = WE at HE ⊢
        obtain ⟨c0, c1, c2, c3, _⟩ := imgAt_heap HE.out.1
        exact bodyPost_ret (v := .tuple #[imgVal 0 0 false (.slice none 0 0), .bool false]) (by simp [results, Tryd.results18, go_sem, c0, c1, c2, c3]) rfl ⟨HE.out.2.1, by rw [dec_seven H5.out H6.out]⟩
  case rest =>
  obtain ⟨c, q, k, d, l', rfl, rfl, hk, hkd, hdm, hRl, hA, hD⟩ := hcut
  have HRL := Lib.hid hRl
  have HA := Lib.hid hA
  unfold maxLen at hdm
  clear hRl hA H5 H6 hm3 hm3' A5 HY
  have e32 : Hid (0 < (⟨#[32]⟩ : ByteArray).data.toList.length) := by show 0 < 1; decide
  have z32 : (⟨#[32]⟩ : ByteArray).size ≤ 1000 := by show 1 ≤ 1000; decide
  cases hs1 : sideV l' [32] with
  | none =>
    have HS1 := Lib.hid hs1
    have hnone : Hid (decV l = none) := by show _ = _; rw [hD.out]; unfold bodyV; rw [hs1]
    clear hs1
    go_wp2_with fail
    with_reducible refine (side_no q k d l' ⟨#[32]⟩ hk hkd (by unfold maxLen; omega) e32 z32 _ HRL.out HS1).mono ?_
    rintro e w1 ⟨n1, q1, k1, d1, rfl, hb1⟩
    have A1 : Hid (DecAt w c 0 0 w1) := HA.out.below hb1
    have A2 : Hid (DecAt w c n1 0 (w1.setCell ⟨w.heap.size + 1, 0, none⟩ (.int .i64 n1))) := A1.out.set 0 _ rfl
    clear hb1
    obtain ⟨⟨m0, m1, m2, m3⟩, r0, r1, r2, r3⟩ := A1.out.cells
    obtain ⟨fm0, f0⟩ := A1.out.frozen 0
    obtain ⟨fm1, f1⟩ := A1.out.frozen 1
    obtain ⟨-, f2⟩ := A1.out.frozen 2
    obtain ⟨-, f3⟩ := A1.out.frozen 3
    have HE : Hid _ := res_set A2.out.b 0 0 0 0 false false (.slice none 0 0) (.slice none 0 0) rfl A2.out.R
    go_wp2_with fail
    clear m0 m1 m2 m3 r0 r1 r2 r3 f0 f1 f2 f3 fm0 fm1
    generalize (((((w1.setCell ⟨w.heap.size + 1, 0, none⟩ (.int .i64 n1)).setCell ⟨w.heap.size, 0, none⟩ (.int .i64 0)).setCell ⟨w.heap.size, 1, none⟩ (.int .i64 0)).setCell ⟨w.heap.size, 2, none⟩ (.bool false)).setCell ⟨w.heap.size, 3, none⟩ (.slice none 0 0)) = WE at HE ⊢
    obtain ⟨c0, c1, c2, c3, _⟩ := imgAt_heap HE.out.1
    exact bodyPost_ret (v := .tuple #[imgVal 0 0 false (.slice none 0 0), .bool false]) (by simp [results, Tryd.results18, go_sem, c0, c1, c2, c3]) rfl ⟨HE.out.2.1, by rw [hnone.out]⟩
  | some x =>
    obtain ⟨W, r⟩ := x
    have HS1 := Lib.hid hs1
    have hD1 : Hid (decV l = match sideV r endL with | none => none | some (H, p) => if sizeV W H c = some p.length then some (W, H, c, p) else none) := by
      show _ = _; rw [hD.out]; unfold bodyV; rw [hs1]; rfl
    clear hs1
    have e5 : Hid (0 < (⟨#[10, 50, 53, 53, 10]⟩ : ByteArray).data.toList.length) := by show 0 < 5; decide
    have z5 : (⟨#[10, 50, 53, 53, 10]⟩ : ByteArray).size ≤ 1000 := by show 5 ≤ 1000; decide
    go_wp2_with fail
    with_reducible refine (side_yes q k d l' ⟨#[32]⟩ hk hkd (by unfold maxLen; omega) e32 z32 _ HRL.out W r HS1).mono ?_
    rintro e w1 ⟨q1, k1, d1, rfl, hb1, hk1, hr1, hkd1, hdd1⟩
    have A1 : Hid (DecAt w c 0 0 w1) := HA.out.below hb1
    have A2 : Hid (DecAt w c W 0 (w1.setCell ⟨w.heap.size + 1, 0, none⟩ (.int .i64 W))) := A1.out.set 0 _ rfl
    have R2 : Hid (RB (w1.setCell ⟨w.heap.size + 1, 0, none⟩ (.int .i64 W)) q1 r) := RB.other hr1 A1.out.M (fun n e => by cases e) (fun i hi => Below.heap_setCell _ _ _ _ hi)
    obtain ⟨⟨m0, m1, m2, m3⟩, -⟩ := A1.out.cells
    obtain ⟨fm0, -⟩ := A1.out.frozen 0
    clear hb1 hr1 HRL
    cases hs2 : sideV r endL with
    | none =>
      have HS2 : Hid (sideV r (⟨#[10, 50, 53, 53, 10]⟩ : ByteArray).data.toList = none) := hs2
      have hnone : Hid (decV l = none) := by show _ = _; rw [hD1.out, hs2]
      clear hs2
      go_wp2_with fail
      generalize (w1.setCell ⟨w.heap.size + 1, 0, none⟩ (.int .i64 W)) = W2 at A2 R2 ⊢
      clear m0 m1 m2 m3 fm0
      with_reducible refine (side_no q1 k1 d1 r ⟨#[10, 50, 53, 53, 10]⟩ hk1 hkd1 (by unfold maxLen; omega) e5 z5 _ R2.out HS2).mono ?_
      rintro e w3 ⟨n3, q3, k3, d3, rfl, hb3⟩
      have A3 : Hid (DecAt w c W 0 w3) := A2.out.below hb3
      have A4 : Hid (DecAt w c W n3 (w3.setCell ⟨w.heap.size + 1, 1, none⟩ (.int .i64 n3))) := A3.out.set 1 _ rfl
      clear hb3
      obtain ⟨⟨m0, m1, m2, m3⟩, r0, r1, r2, r3⟩ := A3.out.cells
      obtain ⟨fm0, f0⟩ := A3.out.frozen 0
      obtain ⟨fm1, f1⟩ := A3.out.frozen 1
      obtain ⟨-, f2⟩ := A3.out.frozen 2
      obtain ⟨-, f3⟩ := A3.out.frozen 3
      have HE : Hid _ := res_set A4.out.b 0 0 0 0 false false (.slice none 0 0) (.slice none 0 0) rfl A4.out.R
      go_wp2_with fail
      clear m0 m1 m2 m3 r0 r1 r2 r3 f0 f1 f2 f3 fm0 fm1
      generalize (((((w3.setCell ⟨w.heap.size + 1, 1, none⟩ (.int .i64 n3)).setCell ⟨w.heap.size, 0, none⟩ (.int .i64 0)).setCell ⟨w.heap.size, 1, none⟩ (.int .i64 0)).setCell ⟨w.heap.size, 2, none⟩ (.bool false)).setCell ⟨w.heap.size, 3, none⟩ (.slice none 0 0)) = WE at HE ⊢
      obtain ⟨c0, c1, c2, c3, _⟩ := imgAt_heap HE.out.1
      exact bodyPost_ret (v := .tuple #[imgVal 0 0 false (.slice none 0 0), .bool false]) (by simp [results, Tryd.results18, go_sem, c0, c1, c2, c3]) rfl ⟨HE.out.2.1, by rw [hnone.out]⟩
    | some y =>
      obtain ⟨H, pix⟩ := y
      have HS2 : Hid (sideV r (⟨#[10, 50, 53, 53, 10]⟩ : ByteArray).data.toList = some (H, pix)) := hs2
      have hD2 : Hid (decV l = if sizeV W H c = some pix.length then some (W, H, c, pix) else none) := by show _ = _; rw [hD1.out, hs2]
      clear hs2
      go_wp2_with fail
      generalize (w1.setCell ⟨w.heap.size + 1, 0, none⟩ (.int .i64 W)) = W2 at A2 R2 ⊢
      clear m0 m1 m2 m3 fm0
      with_reducible refine (side_yes q1 k1 d1 r ⟨#[10, 50, 53, 53, 10]⟩ hk1 hkd1 (by unfold maxLen; omega) e5 z5 _ R2.out H pix HS2).mono ?_
      rintro e w3 ⟨q3, k3, d3, rfl, hb3, hk3, hr3, hkd3, hdd3⟩
      have A3 : Hid (DecAt w c W 0 w3) := A2.out.below hb3
      have A4 : Hid (DecAt w c W H (w3.setCell ⟨w.heap.size + 1, 1, none⟩ (.int .i64 H))) := A3.out.set 1 _ rfl
      have R4 : Hid (RB (w3.setCell ⟨w.heap.size + 1, 1, none⟩ (.int .i64 H)) q3 pix) := RB.other hr3 A3.out.M (fun n e => by cases e) (fun i hi => Below.heap_setCell _ _ _ _ hi)
      obtain ⟨⟨m0, m1, m2, m3⟩, -⟩ := A3.out.cells
      obtain ⟨fm1, -⟩ := A3.out.frozen 1
      clear hb3 hr3 R2
      obtain ⟨z, hz⟩ : ∃ z, (sizeV W H c).getD 0 = z := ⟨_, rfl⟩
      obtain ⟨b, hb⟩ : ∃ b, (sizeV W H c).isSome = b := ⟨_, rfl⟩
      have HZ : Hid ((sizeV W H c).getD 0 = z ∧ (sizeV W H c).isSome = b) := ⟨hz, hb⟩
      clear hz hb
      go_wp2_with fail
      clear m0 m1 m2 m3 fm1
      with_reducible refine (size_at W H c _ z b HZ _).mono ?_
      rintro e w5 ⟨rfl, rfl⟩
      have A5 : Hid (DecAt w c W H ((w3.setCell ⟨w.heap.size + 1, 1, none⟩ (.int .i64 H)).alloc (imgObj W H c (.slice none 0 0)))) := A4.out.below ((Below.refl _ _).alloc (Nat.le_refl _) _)
      have R5 : Hid (RB ((w3.setCell ⟨w.heap.size + 1, 1, none⟩ (.int .i64 H)).alloc (imgObj W H c (.slice none 0 0))) q3 pix) := R4.out.below ((Below.refl _ _).alloc (Nat.le_refl _) _)
      generalize ((w3.setCell ⟨w.heap.size + 1, 1, none⟩ (.int .i64 H)).alloc (imgObj W H c (.slice none 0 0))) = W5 at A5 R5 ⊢
      clear A4 R4
      by_cases hy : sizeV W H c = some pix.length
      · have hD3 : Hid (decV l = some (W, H, c, pix)) := by show _ = _; rw [hD2.out, if_pos hy]
        have hzz := HZ.out
        rw [hy] at hzz
        obtain rfl : true = b := hzz.2
        obtain rfl : k3 = z := hk3.out.trans hzz.1
        have hpl : 0 < pix.length ∧ pix.length ≤ 196608 := size_bound hy
        have HP1 : Hid (0 < pix.length) := hpl.1
        have HP2 : Hid (pix.length ≤ 140737488355328) := by show _ ≤ _; omega
        clear hzz hpl hy HZ
        go_wp2_with fail
        with_reducible refine (clone_c q3 k3 d3 pix hk3 R5.out HP1 HP2).mono ?_
        rintro e w6 ⟨q6, d6, rfl, hr6, hd6, hb6⟩
        have A6 : Hid (DecAt w c W H w6) := A5.out.below hb6
        have R6 : Hid (RB (w6.setCell ⟨w.heap.size + 1, 3, none⟩ (.slice q6 pix.length d6)) q6 pix) := RB.other hr6 A6.out.M (fun n e => by cases e) (fun i hi => Below.heap_setCell _ _ _ _ hi)
        have HM : Hid ((w6.setCell ⟨w.heap.size + 1, 3, none⟩ (.slice q6 pix.length d6)).heap[w.heap.size + 1]? = some (imgObj W H c (.slice q6 pix.length d6))) := heap_here A6.out.M 3 _
        have HRR : Hid ((w6.setCell ⟨w.heap.size + 1, 3, none⟩ (.slice q6 pix.length d6)).heap[w.heap.size]? = some (imgObj 0 0 false (.slice none 0 0))) := (Below.heap_setCell _ _ _ _ (show w.heap.size ≠ w.heap.size + 1 by omega)).trans A6.out.R
        have HBB : Hid (Below w.heap.size w (w6.setCell ⟨w.heap.size + 1, 3, none⟩ (.slice q6 pix.length d6))) := A6.out.b.setCell (by simp) _
        have HE : Hid _ := res_set HBB.out 0 0 W H false c (.slice none 0 0) (.slice q6 pix.length d6) rfl HRR.out
        obtain ⟨⟨m0, m1, m2, m3⟩, r0, r1, r2, r3⟩ := A6.out.cells
        obtain ⟨fm3, f3⟩ := A6.out.frozen 3
        obtain ⟨-, f0⟩ := A6.out.frozen 0
        obtain ⟨-, f1⟩ := A6.out.frozen 1
        obtain ⟨-, f2⟩ := A6.out.frozen 2
        clear hb6 hr6
        go_wp2_with fail
        clear m0 m1 m2 m3 r0 r1 r2 r3 f0 f1 f2 f3 fm3
        have RE := HE.out.2.2 _ _ R6.out
        clear R6 HM HRR HBB
        generalize (((((w6.setCell ⟨w.heap.size + 1, 3, none⟩ (.slice q6 pix.length d6)).setCell ⟨w.heap.size, 0, none⟩ (.int .i64 W)).setCell ⟨w.heap.size, 1, none⟩ (.int .i64 H)).setCell ⟨w.heap.size, 2, none⟩ (.bool c)).setCell ⟨w.heap.size, 3, none⟩ (.slice q6 pix.length d6)) = WE at HE RE ⊢
        obtain ⟨c0, c1, c2, c3, _⟩ := imgAt_heap HE.out.1
        exact bodyPost_ret (v := .tuple #[imgVal W H c (.slice q6 pix.length d6), .bool true]) (by simp [results, Tryd.results18, go_sem, c0, c1, c2, c3]) rfl ⟨HE.out.2.1, by rw [hD3.out]; exact ⟨q6, d6, rfl, RE, hd6⟩⟩
      · have hnone : Hid (decV l = none) := by show _ = _; rw [hD2.out, if_neg hy]
        cases b with
        | false =>
          obtain ⟨⟨m0, m1, m2, m3⟩, r0, r1, r2, r3⟩ := A5.out.cells
          obtain ⟨fm0, f0⟩ := A5.out.frozen 0
          obtain ⟨fm1, f1⟩ := A5.out.frozen 1
          obtain ⟨-, f2⟩ := A5.out.frozen 2
          obtain ⟨-, f3⟩ := A5.out.frozen 3
          have HE : Hid _ := res_set A5.out.b 0 0 0 0 false false (.slice none 0 0) (.slice none 0 0) rfl A5.out.R
          go_wp2_with fail
          clear m0 m1 m2 m3 r0 r1 r2 r3 f0 f1 f2 f3 fm0 fm1
          generalize ((((W5.setCell ⟨w.heap.size, 0, none⟩ (.int .i64 0)).setCell ⟨w.heap.size, 1, none⟩ (.int .i64 0)).setCell ⟨w.heap.size, 2, none⟩ (.bool false)).setCell ⟨w.heap.size, 3, none⟩ (.slice none 0 0)) = WE at HE ⊢
          obtain ⟨c0, c1, c2, c3, _⟩ := imgAt_heap HE.out.1
          exact bodyPost_ret (v := .tuple #[imgVal 0 0 false (.slice none 0 0), .bool false]) (by simp [results, Tryd.results18, go_sem, c0, c1, c2, c3]) rfl ⟨HE.out.2.1, by rw [hnone.out]⟩
        | true =>
          have hne : ((k3 : Int) == (z : Int)) = false := by
            rw [beq_eq_false_iff_ne]
            intro h
            apply hy
            have h1 := HZ.out
            cases hx : sizeV W H c with
            | none => rw [hx] at h1; cases h1.2
            | some y => rw [hx] at h1; have h2 : y = z := h1.1; rw [h2, ← hk3.out]; congr 1; omega
          clear hy
          obtain ⟨⟨m0, m1, m2, m3⟩, r0, r1, r2, r3⟩ := A5.out.cells
          obtain ⟨fm0, f0⟩ := A5.out.frozen 0
          obtain ⟨fm1, f1⟩ := A5.out.frozen 1
          obtain ⟨-, f2⟩ := A5.out.frozen 2
          obtain ⟨-, f3⟩ := A5.out.frozen 3
          have HE : Hid _ := res_set A5.out.b 0 0 0 0 false false (.slice none 0 0) (.slice none 0 0) rfl A5.out.R
          go_wp2_with fail
          clear m0 m1 m2 m3 r0 r1 r2 r3 f0 f1 f2 f3 fm0 fm1
          generalize ((((W5.setCell ⟨w.heap.size, 0, none⟩ (.int .i64 0)).setCell ⟨w.heap.size, 1, none⟩ (.int .i64 0)).setCell ⟨w.heap.size, 2, none⟩ (.bool false)).setCell ⟨w.heap.size, 3, none⟩ (.slice none 0 0)) = WE at HE ⊢
          obtain ⟨c0, c1, c2, c3, _⟩ := imgAt_heap HE.out.1
          exact bodyPost_ret (v := .tuple #[imgVal 0 0 false (.slice none 0 0), .bool false]) (by simp [results, Tryd.results18, go_sem, c0, c1, c2, c3]) rfl ⟨HE.out.2.1, by rw [hnone.out]⟩
end Go.Proofs.YtmclabehdjdpnaaDoor.PnmW
