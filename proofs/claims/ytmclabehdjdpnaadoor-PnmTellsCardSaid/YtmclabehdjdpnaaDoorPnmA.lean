/-
  The contracts of package pnm in the laws' words; the law's Same and awake.
-/
import Derived.Test.YtmclabehdjdpnaaDoorDecW
namespace Go.Proofs.YtmclabehdjdpnaaDoor.PnmW
open Go.RowKit Go.Proofs.YtmclabehdjdpnaaDoor.Dp Go.Proofs.YtmclabehdjdpnaaDoor.Base Go.Proofs.YtmclabehdjdpnaaDoor.Mem Go.Proofs.YtmclabehdjdpnaaDoor.Pp

def DecNo (w : World) (e : Ending) (w' : World) : Prop := e = .returned (.tuple #[imgVal 0 0 false (.slice none 0 0), .bool false]) ∧ Below w.heap.size w w'
def DecYes (W H : Nat) (c : Bool) (pix : List UInt8) (w : World) (e : Ending) (w' : World) : Prop :=
  ∃ q d, e = .returned (.tuple #[imgVal W H c (.slice q pix.length d), .bool true]) ∧ RB w' q pix ∧ pix.length ≤ d ∧ Below w.heap.size w w'
theorem dec_no (p : Option Addr) (n cp : Nat) (l : List UInt8) (hn : Hid (n = l.length)) (hc : n ≤ cp) (hcm : cp ≤ maxLen) (w : World) (hR : RB w p l) (hd : Hid (decV l = none)) :
    Calls Tryd.prog 18 #[.slice p n cp] w (DecNo w) := by
  refine (dec_any p n cp l hn hc hcm w hR).mono fun e w' ⟨hb, h⟩ => ?_
  rw [hd.out] at h
  exact ⟨h, hb⟩
theorem dec_yes (p : Option Addr) (n cp : Nat) (l : List UInt8) (hn : Hid (n = l.length)) (hc : n ≤ cp) (hcm : cp ≤ maxLen) (w : World) (hR : RB w p l) (W H : Nat) (c : Bool) (pix : List UInt8) (hd : Hid (decV l = some (W, H, c, pix))) :
    Calls Tryd.prog 18 #[.slice p n cp] w (DecYes W H c pix w) := by
  refine (dec_any p n cp l hn hc hcm w hR).mono fun e w' ⟨hb, h⟩ => ?_
  rw [hd.out] at h
  obtain ⟨q, d, h1, h2, h3⟩ := h
  exact ⟨q, d, h1, h2, h3, hb⟩

set_option maxRecDepth 100000 in
set_option maxHeartbeats 800000 in
theorem same_c (W H : Int) (c : Bool) (p q : Option Addr) (n m cp cq : Nat) (l : List UInt8) (hn : Hid (n = l.length)) (hm : Hid (m = l.length)) (w : World) (hp : RB w p l) (hq : RB w q l) :
    Calls Tryd.prog 23 #[imgVal W H c (.slice p n cp), imgVal W H c (.slice q m cq)] w fun e w' => e = .returned (.bool true) ∧ Below w.heap.size w w' := by
  have hbel : Below w.heap.size w ((w.alloc (imgObj W H c (.slice p n cp))).alloc (imgObj W H c (.slice q m cq))) := ((Below.refl _ _).alloc (Nat.le_refl _) _).alloc (by simp) _
  have s1 := (hp.below hbel).str (P := Tryd.prog) 29 5 9 Tryd.underlying29 Tryd.underlying5 Tryd.underlying9 n cp hn.out
  have s2 := (hq.below hbel).str (P := Tryd.prog) 29 5 9 Tryd.underlying29 Tryd.underlying5 Tryd.underlying9 m cq hm.out
  have HB := Lib.hid hbel
  clear hbel hp hq
  go_enter Tryd.func23, Tryd.ntmps23
  go_wp2_with fail
  go_ret
  exact ⟨rfl, HB.out⟩

theorem head_one : headL (1 : Int).toNat (1 : Int).toNat false ++ [7] = [80, 53, 10, 49, 32, 49, 10, 50, 53, 53, 10, 7] := by decide +kernel
theorem dec_one : decV [80, 53, 10, 49, 32, 49, 10, 50, 53, 53, 10, 7] = some (1, 1, false, [7]) := by decide +kernel
theorem dec_nil : decV [] = none := by decide +kernel
/-- What awake leaves. -/
def AwakeOut (w : World) (e : Ending) (w' : World) : Prop := e = .returned (.bool true) ∧ Below w.heap.size w w'
set_option maxRecDepth 100000 in
set_option maxHeartbeats 1600000 in
theorem awake_any (w : World) (hT : Tab w) :
    Calls Tryd.prog 19 #[] w (AwakeOut w) := by
  have HT := Lib.hid hT
  clear hT
  have hone : Hid (1 = ([7] : List UInt8).length) := rfl
  go_enter Tryd.func19, Tryd.ntmps19
  go_wp2_with fail
  with_reducible refine (enc_yes 1 1 false _ 1 1 [7] hone ?ay _ (HT.out.alloc _) ?ar ?ab).mono ?_
  case ay => show _ = _; decide +kernel
  case ar => exact RB.lit _ _ _ _ _ rfl _ rfl
  case ab => show _ ≤ _; decide
  generalize hL : headL (1 : Int).toNat (1 : Int).toNat false ++ [7] = L
  rw [head_one] at hL
  have HL := Lib.hid hL.symm
  clear hL
  rintro e w1 ⟨g, cap, rfl, hown, hb1⟩
  have hbw : Below w.heap.size w w1 := ((Below.refl _ _).alloc (Nat.le_refl _) _).trans (hb1.mono (by simp))
  have hcap := hown.cap_le
  have HO := Lib.hid hown
  have HB := Lib.hid hbw
  have hz12 : Hid (L.length = 12) := by show _ = _; rw [HL.out]; rfl
  have HD : Hid (decV L = some (1, 1, false, [7])) := by show _ = _; rw [HL.out]; exact dec_one
  clear hown hb1 hbw
  go_wp2_with fail
  with_reducible refine (dec_yes _ _ _ L (Lib.hid (Eq.refl _)) hcap.1 hcap.2 _ HO.out.reads 1 1 false [7] HD).mono ?_
  rintro e w2 ⟨q, d, rfl, hr2, hd2, hb2⟩
  have HB2 := Lib.hid (And.intro hb2 hr2)
  clear hb2 hr2
  go_wp2_with fail
  with_reducible refine (dec_no none 0 0 [] (Lib.hid (Eq.refl _)) (Nat.le_refl _) (by unfold maxLen; omega) _ (RB.nil _ _) (Lib.hid dec_nil)).mono ?_
  rintro e w3 ⟨rfl, hb3⟩
  have hbe : Below w.heap.size w (w3.alloc (imgObj 0 0 false (.slice none 0 0))) := (((HB.out.trans (HB2.out.1.mono HB.out.size)).alloc (Nat.le_trans HB.out.size HB2.out.1.size) _).trans (hb3.mono (by have := HB.out.size; have := HB2.out.1.size; simp; omega))).alloc (by have := HB.out.size; have := HB2.out.1.size; have := hb3.size; simp at this; omega) _
  have hrd : RB (w3.alloc (imgObj 0 0 false (.slice none 0 0))) q [7] := (((HB2.out.2.below ((Below.refl _ _).alloc (Nat.le_refl _) _)).below hb3).below ((Below.refl _ _).alloc (Nat.le_refl _) _))
  have hLr : RB (w3.alloc (imgObj 0 0 false (.slice none 0 0))) (some ⟨g, 0, none⟩) L := ((((HO.out.reads.below HB2.out.1).below ((Below.refl _ _).alloc (Nat.le_refl _) _)).below hb3).below ((Below.refl _ _).alloc (Nat.le_refl _) _))
  have hMh : w3.heap[w2.heap.size]? = some (imgObj 1 1 false (.slice q 1 d)) := (hb3.block _ (by simp)).trans (heap_alloc_new w2 _)
  have hM4 : (w3.alloc (imgObj 0 0 false (.slice none 0 0))).heap[w2.heap.size]? = some (imgObj 1 1 false (.slice q 1 d)) := (Below.heap_alloc _ _ _ (Array.getElem?_eq_some_iff.1 hMh).1).trans hMh
  obtain ⟨m0, m1, m2, m3, _⟩ := imgAt_heap hM4
  have s1 := hLr.str (P := Tryd.prog) 29 5 9 Tryd.underlying29 Tryd.underlying5 Tryd.underlying9 L.length cap rfl
  have hS : (⟨L.toArray⟩ : ByteArray) = ⟨#[80, 53, 10, 49, 32, 49, 10, 50, 53, 53, 10, 7]⟩ := by rw [HL.out]
  rw [hS] at s1
  clear hS
  have HBE := Lib.hid hbe
  have HRD := Lib.hid hrd
  clear hbe hrd hLr hMh hM4 hb3
  go_wp2_with fail
  with_reducible refine (same_c 1 1 false _ _ _ _ _ _ [7] hone hone _ ?at1 ?at2).mono ?_
  case at1 => exact HRD.out.below ((Below.refl _ _).alloc (Nat.le_refl _) _)
  case at2 => exact RB.lit _ _ _ _ _ (by simp) _ rfl
  rintro e w5 ⟨rfl, hb5⟩
  have HB5 := Lib.hid hb5
  clear hb5
  go_wp2_with fail
  go_ret
  exact ⟨rfl, (HBE.out.alloc HBE.out.size _).trans (HB5.out.mono (by have := HBE.out.size; simp at this ⊢; omega))⟩
end Go.Proofs.YtmclabehdjdpnaaDoor.PnmW
