/-
  The walks of package pnm: size.
-/
import Derived.Test.YtmclabehdjdpnaaDoorBase
import Derived.Test.YtmclabehdjdpnaaDoorPp
namespace Go.Proofs.YtmclabehdjdpnaaDoor.PnmW
open Go.RowKit Go.Proofs.YtmclabehdjdpnaaDoor.Dp Go.Proofs.YtmclabehdjdpnaaDoor.Base Go.Proofs.YtmclabehdjdpnaaDoor.Pp

/-- An image as a value. -/
abbrev imgVal (W H : Int) (c : Bool) (p : Value) : Value := .agg #[.int .i64 W, .int .i64 H, .bool c, p]
abbrev imgObj (W H : Int) (c : Bool) (p : Value) : Obj := .cells #[.int .i64 W, .int .i64 H, .bool c, p] 33

set_option maxHeartbeats 800000 in
theorem size_any (W H : Int) (c : Bool) (p : Value) (w : World) :
    Calls Tryd.prog 43 #[imgVal W H c p] w fun e w' => e = .returned (.tuple #[.int .i64 (((sizeV W H c).getD 0 : Nat) : Int), .bool (sizeV W H c).isSome]) ∧ w.alloc (imgObj W H c p) = w' := by
  by_cases h1 : 1 ≤ W
  · by_cases h2 : W ≤ 256
    · by_cases h3 : 1 ≤ H
      · by_cases h4 : H ≤ 256
        · obtain ⟨a, rfl⟩ : ∃ a : Nat, W = a := ⟨W.toNat, by omega⟩
          obtain ⟨b, rfl⟩ : ∃ b : Nat, H = b := ⟨H.toNat, by omega⟩
          have hs : sizeV a b c = some ((if c then 3 else 1) * a * b) := by unfold sizeV; rw [if_pos ⟨⟨h1, h2⟩, h3, h4⟩]; rfl
          have hab : a * b ≤ 256 * 256 := Nat.mul_le_mul (by omega) (by omega)
          have hab3 : 3 * a * b ≤ 3 * 256 * 256 := Nat.mul_le_mul (by omega) (by omega)
          cases c with
          | true =>
            obtain ⟨z, hz⟩ : ∃ z : Nat, 3 * a * b = z := ⟨_, rfl⟩
            have hw : IntKind.i64.wrap (3 * (a : Int) * (b : Int)) = (z : Int) := by
              rw [show (3 * (a : Int) * (b : Int)) = ((3 * a * b : Nat) : Int) by simp, hz]; exact IntWalk.i64_in _ (by omega)
            have HS : Hid (sizeV a b true = some z) := by show _ = _; rw [hs, ← hz]; rfl
            clear hs hab hab3 hz
            go_enter Tryd.func43, Tryd.ntmps43
            go_wp2_with fail
            go_ret2
            rw [HS.out]
            exact ⟨rfl, rfl⟩
          | false =>
            obtain ⟨z, hz⟩ : ∃ z : Nat, a * b = z := ⟨_, rfl⟩
            have hw : IntKind.i64.wrap ((a : Int) * (b : Int)) = (z : Int) := by
              rw [show ((a : Int) * (b : Int)) = ((a * b : Nat) : Int) by simp, hz]; exact IntWalk.i64_in _ (by omega)
            have HS : Hid (sizeV a b false = some z) := by show _ = _; rw [hs, ← hz]; simp
            clear hs hab hab3 hz
            go_enter Tryd.func43, Tryd.ntmps43
            go_wp2_with fail
            go_ret2
            rw [HS.out]
            exact ⟨rfl, rfl⟩
        all_goals
          have hs : sizeV W H c = none := by unfold sizeV; rw [if_neg (by omega)]
          have HS := Lib.hid hs
          clear hs
          go_enter Tryd.func43, Tryd.ntmps43
          go_wp2_with fail
          go_ret2
          rw [HS.out]
          exact ⟨rfl, rfl⟩
      all_goals
        have hs : sizeV W H c = none := by unfold sizeV; rw [if_neg (by omega)]
        have HS := Lib.hid hs
        clear hs
        go_enter Tryd.func43, Tryd.ntmps43
        go_wp2_with fail
        go_ret2
        rw [HS.out]
        exact ⟨rfl, rfl⟩
    all_goals
      have hs : sizeV W H c = none := by unfold sizeV; rw [if_neg (by omega)]
      have HS := Lib.hid hs
      clear hs
      go_enter Tryd.func43, Tryd.ntmps43
      go_wp2_with fail
      go_ret2
      rw [HS.out]
      exact ⟨rfl, rfl⟩
  all_goals
    have hs : sizeV W H c = none := by unfold sizeV; rw [if_neg (by omega)]
    have HS := Lib.hid hs
    clear hs
    go_enter Tryd.func43, Tryd.ntmps43
    go_wp2_with fail
    go_ret2
    rw [HS.out]
    exact ⟨rfl, rfl⟩
end Go.Proofs.YtmclabehdjdpnaaDoor.PnmW
