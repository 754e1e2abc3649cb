/-
  The walk of the reference's Num.
-/
import Derived.Test.YtecpmnkgikcpnaaDoorDeciV
import Derived.Test.YtecpmnkgikcpnaaDoorDt
import Derived.Test.YtecpmnkgikcpnaaDoorBase
namespace Go.Proofs.YtecpmnkgikcpnaaDoor.DeciW
open Go.RowKit Go.Proofs.YtecpmnkgikcpnaaDoor.Dp Go.Proofs.YtecpmnkgikcpnaaDoor.Base

theorem digit_piece : ∀ i : Fin 10, ((⟨#[48, 49, 50, 51, 52, 53, 54, 55, 56, 57]⟩ : ByteArray).extract i.val (i.val + 1)).data.toList = [UInt8.ofNat (48 + i.val)] := by decide +kernel

set_option maxHeartbeats 400000 in
theorem num_any (n least : Nat) (hl : least ≤ 20) (x : Int) (hx : Hid (x = n)) (hx0 : 0 ≤ x) (hx1 : x ≤ 9223372036854775807) (S : ByteArray) (hS : Hid (S.data.toList = numL n least)) (w : World) :
    Calls Tryd.prog 8 #[.int .i64 x, .int .i64 least] w fun e w' => e = .returned (.string S) ∧ w = w' := by
  go_enter Tryd.func8, Tryd.ntmps8
  go_wp2
  go_loop [0, 5] (fun v i => ∃ (k : Nat) (c : Int) (T : ByteArray), k ≤ max least (ndz n) ∧ 0 ≤ c ∧ c ≤ 9223372036854775807 ∧ c = (n / 10 ^ k : Nat) ∧ T.data.toList = pad n k ∧ v = .int .i64 c ∧ i = .string T) (fun v i => (intOf v).toNat + (20 - (Lib.strSize i)))
  case atStart => exact ⟨0, x, ⟨#[]⟩, Nat.zero_le _, hx0, hx1, by rw [hx.out]; simp, rfl, rfl, rfl⟩
  case round =>
    obtain ⟨k, c, T, hk, hc0, hc1, hc, hT, rfl, rfl⟩ := hrel
    have hs := len_list T
    rw [hT, pad_length] at hs
    have hT' := Lib.hid hT
    clear hT
    by_cases hgo : 0 < c ∨ k < least
    · have hk2 : k < max least (ndz n) := by
        rcases hgo with h | h
        · have := ndz_gt (n := n) (k := k) (by omega)
          omega
        · omega
      have hnd : ndz n ≤ 20 := by
        unfold ndz
        split
        · omega
        · exact Lib.nDigits_le20 n (by have := hx.out; omega)
      have hT20 : T.size ≤ 20 := by omega
      obtain ⟨q, hq⟩ : ∃ q : Nat, q = n / 10 ^ k % 10 := ⟨_, rfl⟩
      have hq9 : q < 10 := by omega
      have hcq : c % 10 = (q : Int) := by omega
      have hp := digit_piece ⟨q, hq9⟩
      have HP : Hid ((((⟨#[48, 49, 50, 51, 52, 53, 54, 55, 56, 57]⟩ : ByteArray).extract q (q + 1)) ++ T).data.toList = pad n (k + 1)) := by
        show _ = _
        rw [app_list, hp, hT'.out, pad_succ, dg_mod, ← hq]; rfl
      have hsz : ((⟨#[48, 49, 50, 51, 52, 53, 54, 55, 56, 57]⟩ : ByteArray).extract q (q + 1)).size = 1 := by rw [← len_list, hp]; rfl
      have HC : Hid (c / 10 = ((n / 10 ^ (k + 1) : Nat) : Int)) := by
        show _ = _
        rw [Nat.pow_succ, ← Nat.div_div_eq_div_mul]; omega
      have hm' : Hid (((c / 10).toNat + (20 - (T.size + 1)) : Nat) < c.toNat + (20 - T.size)) := by
        show _ < _
        clear hc hp hcq hq HP HC
        rcases hgo with h | h <;> omega
      have HLT : Hid (¬ 0 < c → T.size < least) := by show _ → _; omega
      clear hp hc hk hq hs hnd
      by_cases hc0' : 0 < c
      · clear hgo
        go_wp2
        go_round
        case rel => exact ⟨k + 1, c / 10, _, hk2, by omega, by omega, HC.out, HP.out, rfl, rfl⟩
        case measure => simp only [intOf, Lib.strSize, ByteArray.size_append, hsz]; have := hm'.out; rw [Nat.add_comm 1]; exact this
      · have hsz2 : T.size < least := HLT.out hc0'
        clear hgo
        go_wp2
        go_round
        case rel => exact ⟨k + 1, c / 10, _, hk2, by omega, by omega, HC.out, HP.out, rfl, rfl⟩
        case measure => simp only [intOf, Lib.strSize, ByteArray.size_append, hsz]; have := hm'.out; rw [Nat.add_comm 1]; exact this
    · have h1 : c = 0 := by omega
      have h2 : ¬ k < least := by omega
      have hj : Hid (max least (ndz n) = k) := by
        show _ = _
        have := ndz_le (n := n) (k := k) (by omega)
        omega
      have hsz : ¬ T.size < least := by omega
      subst h1
      clear hc hk hgo h2 hs
      go_wp2_with fail
      go_ret
      exact ⟨ret_str (by rw [hS.out, hT'.out]; unfold numL; rw [hj.out]), rfl⟩
theorem num_at (n least : Nat) (L : Int) (hL : L = (least : Int)) (hl : least ≤ 20) (x : Int) (hx : Hid (x = n)) (hx0 : 0 ≤ x) (hx1 : x ≤ 9223372036854775807) (S : ByteArray) (hS : Hid (S.data.toList = numL n least)) (w : World) :
    Calls Tryd.prog 8 #[.int .i64 x, .int .i64 L] w fun e w' => e = .returned (.string S) ∧ w = w' := by
  subst hL; exact num_any n least hl x hx hx0 hx1 S hS w
end Go.Proofs.YtecpmnkgikcpnaaDoor.DeciW
