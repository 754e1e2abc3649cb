/-
  bytes.CutPrefix and bytes.Clone over named bytes.
-/
import Derived.Test.YtmclabehdjdpnaaDoorPnmW
import Derived.Deep.AppendLies
import Derived.Test.YtmclabehdjdpnaaDoorMem
namespace Go.Proofs.YtmclabehdjdpnaaDoor.PnmW
open Go.RowKit Go.Proofs.YtmclabehdjdpnaaDoor.Dp Go.Proofs.YtmclabehdjdpnaaDoor.Base Go.Proofs.YtmclabehdjdpnaaDoor.Mem

/-- What CutPrefix returns, whatever it is. -/
def CutOut (c : Nat) (l e : List UInt8) (b : Bool) (w : World) (en : Ending) (w' : World) : Prop :=
  ∃ q k d, en = .returned (.tuple #[.slice q k d, .bool b]) ∧ w = w' ∧ k ≤ d ∧ d ≤ c ∧ (b = true → k = (l.drop e.length).length ∧ RB w q (l.drop e.length)) ∧ (b = false → k = l.length ∧ RB w q l)
theorem cut_c {w : World} (p1 p2 : Option Addr) (n c m d : Nat) (l e : List UInt8) (hn : Hid (n = l.length)) (hm : Hid (m = e.length)) (hnc : n ≤ c) (h1 : RB w p1 l) (h2 : RB w p2 e) (he : 0 < e.length) (b : Bool) (hb : Hid (e.isPrefixOf l = b)) :
    Calls Tryd.prog 44 #[.slice p1 n c, .slice p2 m d] w (CutOut c l e b w) := by
  obtain rfl := hn.out
  obtain rfl := hm.out
  have hb' := hb.out
  refine (Tryd.bytes_CutPrefix_all p1 p2 l.length c e.length d (num l) (num e) w (num_length l) (num_length e) hnc h1 h2).mono fun en w' ⟨hen, hw⟩ => ?_
  have hp : Lib.hasPrefix (Lib.bytesOf (num l)) (Lib.bytesOf (num e)) = b := by rw [bytesOf_num, bytesOf_num]; exact hb'
  rw [hp] at hen
  cases b with
  | true =>
    have hle : e.length ≤ l.length := (List.isPrefixOf_iff_prefix.1 hb').length_le
    obtain ⟨b0, o0, rfl⟩ := h1.addr (by omega)
    have hv : Lib.trimPrefixV (some ⟨b0, o0, none⟩) l.length c (num l) (num e) = Lib.sliceFrom b0 o0 l.length c e.length := by
      cases e with
      | nil => simp at he
      | cons x r =>
        show Lib.bytesTrimPrefix b0 o0 l.length c (num l) (num (x :: r)) = _
        unfold Lib.bytesTrimPrefix
        rw [if_pos hp, num_length]
    rw [hv] at hen
    unfold Lib.sliceFrom at hen
    refine ⟨_, _, _, hen, hw.symm, by omega, by omega, fun _ => ⟨by simp, ?_⟩, fun h => by cases h⟩
    split
    · rw [List.drop_eq_nil_of_le (by omega)]; exact RB.nil w _
    · exact h1.drop _
  | false =>
    have hv : Lib.trimPrefixV p1 l.length c (num l) (num e) = .slice p1 l.length c := by
      unfold Lib.trimPrefixV
      split
      · unfold Lib.bytesTrimPrefix; rw [if_neg (by rw [hp]; decide)]
      · rfl
    rw [hv] at hen
    exact ⟨_, _, _, hen, hw.symm, hnc, Nat.le_refl _, (fun h => by cases h), fun _ => ⟨rfl, h1⟩⟩

/-- bytes.Clone. -/
def CloneOut (l : List UInt8) (w : World) (en : Ending) (w' : World) : Prop :=
  ∃ q d, en = .returned (.slice q l.length d) ∧ RB w' q l ∧ l.length ≤ d ∧ Below w.heap.size w w'
theorem clone_c {w : World} (p : Option Addr) (n c : Nat) (l : List UInt8) (hn : Hid (n = l.length)) (h : RB w p l) (hp : Hid (0 < l.length)) (hz : Hid (l.length ≤ 140737488355328)) :
    Calls Tryd.prog 46 #[.slice p n c] w (CloneOut l w) := by
  obtain rfl := hn.out
  obtain ⟨b, o, rfl⟩ := h.addr hp.out
  refine (Tryd.bytes_Clone_at ⟨b, o, none⟩ l.length c (num l) w (num_length l) hz.out (fun i hi => ?_)).mono fun en w' ⟨v, hen, hown, hne, hb⟩ => ?_
  · rw [Go.WideShapes.add_plain, num_getD l i hi]; exact h.cell i hi
  · rw [byteVs_map] at hown
    obtain ⟨g, cap, hv, _⟩ := hown.form hp.out
    subst hv
    obtain ⟨_, ho⟩ := own_ownsRow hown
    exact ⟨_, _, hen, ho.reads, ho.cap_le.1, hb⟩
end Go.Proofs.YtmclabehdjdpnaaDoor.PnmW
