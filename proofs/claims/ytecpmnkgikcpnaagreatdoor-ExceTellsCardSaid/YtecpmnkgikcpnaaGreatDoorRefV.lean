/-
  The walks of the reference's decimal numbers: digits, Whole, DecOk, Num, bare.
-/
import Derived.Test.YtecpmnkgikcpnaaGreatDoorDeciV
import Derived.Test.YtecpmnkgikcpnaaGreatDoorDt
import Derived.Test.YtecpmnkgikcpnaaGreatDoorBase
namespace Go.Proofs.YtecpmnkgikcpnaaGreatDoor.DeciW
open Go.RowKit Go.Proofs.YtecpmnkgikcpnaaGreatDoor.Dp Go.Proofs.YtecpmnkgikcpnaaGreatDoor.Base

theorem getl_drop (s : ByteArray) (a k : Nat) (h : a + k < s.size) : (s.data.toList.drop a)[k]'(by simp; omega) = s[a + k] := by
  rw [List.getElem_drop, Array.getElem_toList]; rfl

set_option maxHeartbeats 400000 in
theorem rdigits_any (s : ByteArray) (a : Nat) (ha : a ≤ s.size) (w : World) (hs : s.size ≤ 9223372036854775807) :
    Calls Tryz.prog 59 #[.string s, .int .i64 a] w fun e w' => e = .returned (.int .i64 (nd (s.data.toList.drop a))) ∧ w = w' := by
  go_enter Tryz.func59, Tryz.ntmps59
  go_wp2
  go_loop [5] (fun i => ∃ k : Nat, k ≤ nd (s.data.toList.drop a) ∧ i = .int .i64 k) (fun i => s.size - (intOf i).toNat)
  case atStart => exact ⟨0, Nat.zero_le _, rfl⟩
  case round =>
    obtain ⟨k, hk, rfl⟩ := hrel
    have hl := nd_le (s.data.toList.drop a)
    have hsz : (s.data.toList.drop a).length = s.size - a := by simp
    have hk2 : a + k ≤ s.size := by omega
    by_cases hlt : a + k < s.size
    · by_cases hd : 48 ≤ s[a + k].toNat ∧ s[a + k].toNat ≤ 57
      · have hn : k < nd (s.data.toList.drop a) := nd_lt hk (by omega) (by rw [getl_drop s a k hlt]; exact (isD_iff _).2 hd)
        obtain ⟨hd1, hd2⟩ := hd
        clear hsz hl
        go_wp2
        go_round
        case rel => exact ⟨k + 1, by omega, by go_num⟩
        case measure => simp [intOf]; omega
      · have hn : nd (s.data.toList.drop a) = k := nd_stop hk (by omega) (by rw [getl_drop s a k hlt]; exact (isD_false _).2 (by omega))
        have HN := Lib.hid hn
        clear hsz hn hl hk
        go_wp2
        all_goals (go_ret; rw [HN.out]; exact ⟨rfl, rfl⟩)
    · have HN : Hid (nd (s.data.toList.drop a) = k) := by show _ = _; omega
      clear hsz hl hk
      go_wp2
      go_ret
      rw [HN.out]; exact ⟨rfl, rfl⟩
theorem rdigits_at (s : ByteArray) (i : Int) (a : Nat) (hi : i = a) (ha : a ≤ s.size) (l : List UInt8) (hl : Hid (s.data.toList.drop a = l)) (n : Nat) (hn : Hid (nd l = n)) (w : World) (hs : s.size ≤ 9223372036854775807) :
    Calls Tryz.prog 59 #[.string s, .int .i64 i] w fun e w' => e = .returned (.int .i64 n) ∧ w = w' := by
  have h1 := hl.out
  have h2 := hn.out
  subst h1; subst h2; subst hi
  exact rdigits_any s a ha w hs

set_option maxHeartbeats 400000 in
theorem whole_any (s : ByteArray) (hd : Hid (∀ c ∈ s.data.toList, isD c = true)) (hs : s.size ≤ 18) (w : World) :
    Calls Tryz.prog 38 #[.string s] w fun e w' => e = .returned (.int .i64 (val s.data.toList)) ∧ w = w' := by
  go_enter Tryz.func38, Tryz.ntmps38
  go_wp2
  go_loop [3, 4] (fun v i => ∃ (k : Nat) (x : Int), k ≤ s.size ∧ 0 ≤ x ∧ x < 1000000000000000000 ∧ x = val (s.data.toList.take k) ∧ i = .int .i64 k ∧ v = .int .i64 x) (fun _ i => s.size - (intOf i).toNat)
  case atStart => exact ⟨0, 0, Nat.zero_le _, by omega, by omega, rfl, rfl, rfl⟩
  case round =>
    obtain ⟨k, x, hk, hx0, hx1, hx, rfl, rfl⟩ := hrel
    by_cases hlt : k < s.size
    · have hc := (isD_iff s[k]).1 (hd.out _ (by rw [← getl s k hlt]; exact List.getElem_mem _))
      obtain ⟨hc1, hc2⟩ := hc
      have hv := val_lt (s.data.toList.take k) (fun c hc => hd.out c (List.mem_of_mem_take hc))
      have hl : (s.data.toList.take k).length = k := by simp; omega
      rw [hl] at hv
      have hp : (10 : Nat) ^ k ≤ 10 ^ 17 := Nat.pow_le_pow_right (by decide) (by omega)
      have hxb : x < 100000000000000000 := by omega
      have HS : Hid (val (s.data.toList.take (k + 1)) = val (s.data.toList.take k) * 10 + (s[k].toNat - 48)) := by rw [take_snoc s k hlt]; exact val_snoc _ _
      have HX := Lib.hid hx
      clear hx hv hl hp
      go_wp2
      go_round
      case rel => exact ⟨k + 1, x * 10 + (s[k].toNat - 48), by omega, by omega, by omega, by rw [HS.out, HX.out]; omega, by go_num, by go_num⟩
      case measure => simp [intOf]; omega
    · have HX : Hid (x = val s.data.toList) := by show _ = _; rw [hx, List.take_of_length_le (by simp; omega)]
      clear hx
      go_wp2
      go_ret
      rw [← HX.out]; exact ⟨rfl, rfl⟩
theorem whole_at (s : ByteArray) (l : List UInt8) (hl : Hid (s.data.toList = l)) (hd : Hid (∀ c ∈ l, isD c = true)) (hs : s.size ≤ 18) (v : Int) (hv : Hid ((val l : Int) = v)) (w : World) :
    Calls Tryz.prog 38 #[.string s] w fun e w' => e = .returned (.int .i64 v) ∧ w = w' := by
  have h1 := hl.out
  have h2 := hv.out
  subst h1; subst h2
  exact whole_any s hd hs w

end Go.Proofs.YtecpmnkgikcpnaaGreatDoor.DeciW
