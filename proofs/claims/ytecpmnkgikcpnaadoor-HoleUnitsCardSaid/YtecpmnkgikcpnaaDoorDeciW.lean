/-
  The walks of package deci: digits, Ok, Parse.
-/
import Derived.Test.YtecpmnkgikcpnaaDoorProg
import Derived.Test.YtecpmnkgikcpnaaDoorDp
import Derived.WalkKit
import Derived.WalkSpells
import Derived.WalkLawsBesides
import Derived.Lib.Hide
namespace Go.Proofs.YtecpmnkgikcpnaaDoor.DeciW
open Go.RowKit Go.Proofs.YtecpmnkgikcpnaaDoor.Dp

theorem ret_tup {k k' : IntKind} {a b c d : Int} (h : a = b) (h' : c = d) : Ending.returned (.tuple #[.int k a, .int k' c]) = .returned (.tuple #[.int k b, .int k' d]) := by rw [h, h']

theorem getl (s : ByteArray) (k : Nat) (h : k < s.size) : s.data.toList[k]'(by simpa using h) = s[k] := by rw [Array.getElem_toList]; rfl
theorem take_snoc (s : ByteArray) (k : Nat) (h : k < s.size) : s.data.toList.take (k + 1) = s.data.toList.take k ++ [s[k]] := by
  rw [List.take_succ_eq_append_getElem (by simpa using h)]; rfl

set_option maxHeartbeats 400000 in
theorem digits_any (s : ByteArray) (w : World) (hs : s.size ≤ maxLen) :
    Calls Tryd.prog 73 #[.string s] w fun e w' => e = .returned (.tuple #[.int .i64 (val (s.data.toList.take (min 6 (nd s.data.toList)))), .int .i64 (min 6 (nd s.data.toList) : Nat)]) ∧ w = w' := by
  unfold maxLen at hs
  go_enter Tryd.func73, Tryd.ntmps73
  go_wp2
  go_loop [4, 5] (fun v i => ∃ k : Nat, k ≤ min 6 (nd s.data.toList) ∧ i = .int .i64 k ∧ v = .int .i64 (val (s.data.toList.take k))) (fun _ i => s.size - (intOf i).toNat)
  case atStart => exact ⟨0, Nat.zero_le _, rfl, rfl⟩
  case round =>
    obtain ⟨k, hk, rfl, rfl⟩ := hrel
    have hl := nd_le s.data.toList
    have hsz : s.data.toList.length = s.size := by simp
    have hk6 : k ≤ 6 := by omega
    have hkn : k ≤ nd s.data.toList := by omega
    have hv0 := val_take_lt s.data.toList k hkn
    have hv : val (s.data.toList.take k) < 1000000 := Nat.lt_of_lt_of_le hv0 (by have := Nat.pow_le_pow_right (n := 10) (by decide) hk6; simpa using this)
    by_cases hlt : k < s.size
    · by_cases h6 : k < 6
      · by_cases hd : 48 ≤ s[k].toNat ∧ s[k].toNat ≤ 57
        · have HS : Hid (val (s.data.toList.take (k + 1)) = val (s.data.toList.take k) * 10 + (s[k].toNat - 48)) := by rw [take_snoc s k hlt]; exact val_snoc _ _
          have hn : k < nd s.data.toList := nd_lt hkn (by omega) (by rw [getl s k hlt]; exact (isD_iff _).2 hd)
          obtain ⟨hd1, hd2⟩ := hd
          clear hv0 hsz
          go_wp2
          go_round
          case rel => exact ⟨k + 1, by omega, by go_num, by rw [HS.out]; go_num⟩
          case measure => simp [intOf]; omega
        · have hn : nd s.data.toList = k := nd_stop hkn (by omega) (by rw [getl s k hlt]; exact (isD_false _).2 (by omega))
          have HN : Hid (min 6 (nd s.data.toList) = k) := by show _ = _; omega
          clear hv0 hsz hn hl hk hkn
          go_wp2
          all_goals (go_ret2; rw [HN.out]; exact ⟨rfl, rfl⟩)
      · have HN : Hid (min 6 (nd s.data.toList) = k) := by show _ = _; omega
        clear hv0 hsz hl hk hkn
        go_wp2
        go_ret2
        rw [HN.out]; exact ⟨rfl, rfl⟩
    · have HN : Hid (min 6 (nd s.data.toList) = k) := by show _ = _; omega
      clear hv0 hsz hl hk hkn
      go_wp2
      go_ret2
      rw [HN.out]; exact ⟨rfl, rfl⟩
#print axioms digits_any
end Go.Proofs.YtecpmnkgikcpnaaDoor.DeciW
