/-
  The walk of pnm.Encode.
-/
import Derived.Test.YtmclabehdjdpnaaDoorPnmW
import Derived.Deep.RegionHeld3
namespace Go.Proofs.YtmclabehdjdpnaaDoor.PnmW
open Go.RowKit Go.Proofs.YtmclabehdjdpnaaDoor.Dp Go.Proofs.YtmclabehdjdpnaaDoor.Base Go.Proofs.YtmclabehdjdpnaaDoor.Pp

theorem itoa_at (n : Int) (h0 : -9223372036854775808 ≤ n) (h1 : n ≤ 9223372036854775807) (S : ByteArray) (hS : Hid (S.data.toList = Lib.itoa n)) (w : World) (hT : Tab w) :
    Calls Tryd.prog 42 #[.int .i64 n] w fun e w' => e = .returned (.string S) ∧ Below w.heap.size w w' := by
  refine (Tryd.strconv_Itoa n h0 h1 w hT).mono fun e w' ⟨he, k, os, hw⟩ => ⟨?_, ?_⟩
  · rw [he]; exact ret_str (by rw [hS.out])
  · rw [hw]; exact Lib.below_grow _ _ (Nat.le_refl _) _ _
theorem size_at (W H : Int) (c : Bool) (p : Value) (n : Nat) (b : Bool) (hs : Hid ((sizeV W H c).getD 0 = n ∧ (sizeV W H c).isSome = b)) (w : World) :
    Calls Tryd.prog 43 #[imgVal W H c p] w fun e w' => e = .returned (.tuple #[.int .i64 (n : Int), .bool b]) ∧ w.alloc (imgObj W H c p) = w' := by
  obtain ⟨h1, h2⟩ := hs.out
  subst h1; subst h2
  exact size_any W H c p w

set_option maxHeartbeats 800000 in
theorem enc_no (W H : Int) (c : Bool) (pa : Option Addr) (n cap : Nat) (hN : Hid (sizeV W H c ≠ some n)) (w : World) :
    Calls Tryd.prog 17 #[imgVal W H c (.slice pa n cap)] w fun e w' => e = .returned (.tuple #[.slice none 0 0, .bool false]) ∧ Below w.heap.size w w' := by
  obtain ⟨z, hz⟩ : ∃ z, (sizeV W H c).getD 0 = z := ⟨_, rfl⟩
  obtain ⟨b, hb⟩ : ∃ b, (sizeV W H c).isSome = b := ⟨_, rfl⟩
  have HS : Hid ((sizeV W H c).getD 0 = z ∧ (sizeV W H c).isSome = b) := ⟨hz, hb⟩
  clear hz hb
  cases b with
  | false =>
    go_enter Tryd.func17, Tryd.ntmps17
    go_wp2_with fail
    with_reducible refine (size_at W H c _ z false HS _).mono ?_
    rintro e w' ⟨rfl, rfl⟩
    go_wp2_with fail
    go_ret2
    exact ⟨rfl, ((Below.refl _ _).alloc (Nat.le_refl _) _).alloc (by simp) _⟩
  | true =>
    have hne : ((n : Int) == (z : Int)) = false := by
      simp
      intro h
      have h' : n = z := by omega
      apply hN.out
      have := HS.out
      cases hx : sizeV W H c with
      | none => rw [hx] at this; cases this.2
      | some y => rw [hx] at this; rw [h', ← this.1]; rfl
    go_enter Tryd.func17, Tryd.ntmps17
    go_wp2_with fail
    with_reducible refine (size_at W H c _ z true HS _).mono ?_
    rintro e w' ⟨rfl, rfl⟩
    go_wp2_with fail
    go_ret2
    exact ⟨rfl, ((Below.refl _ _).alloc (Nat.le_refl _) _).alloc (by simp) _⟩
end Go.Proofs.YtmclabehdjdpnaaDoor.PnmW
