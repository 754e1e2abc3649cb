/-
  The walks of the reference's SameOps on two equal rows, and of Tame.
-/
import Derived.Test.YtkfjmcdfamhiaaaDoorOpW
namespace Go.Proofs.YtkfjmcdfamhiaaaDoor.ExW
open Go.RowKit Go.Proofs.YtkfjmcdfamhiaaaDoor.Base Go.Proofs.YtkfjmcdfamhiaaaDoor.Dp Go.Proofs.YtkfjmcdfamhiaaaDoor.FrW

theorem same_c (p1 p2 : Option Addr) (l : List (Int × Int)) (c1 c2 : Nat) (hl : l.length ≤ 300) (w : World) (H1 : Hid (PairsIn w p1 l)) (H2 : Hid (PairsIn w p2 l)) :
    Calls Tryd.prog 11 #[.slice p1 l.length c1, .slice p2 l.length c2] w fun e w' => e = .returned (.bool true) ∧ ∃ n, w' = w.drewN n := by
  go_enter Tryd.func11, Tryd.ntmps11
  go_wp2_with fail
  go_loopw [5] (fun i wr => ∃ (j n : Nat), j ≤ l.length ∧ i = .int .i64 j ∧ wr = w.drewN n) (fun i _ => l.length - (intOf i).toNat)
  case atStart => exact ⟨0, 0, Nat.zero_le _, rfl, rfl⟩
  case round =>
  obtain ⟨j, n, hj, rfl, rfl⟩ := hrel
  by_cases hlt : j < l.length
  · obtain ⟨b1, o1, rfl, h1⟩ := H1.out (by omega)
    obtain ⟨b2, o2, rfl, h2⟩ := H2.out (by omega)
    have x1 := (h1 j hlt).1
    have x2 := (h1 j hlt).2
    have y1 := (h2 j hlt).1
    have y2 := (h2 j hlt).2
    obtain ⟨k, hk⟩ : ∃ k, l[j].1 = k := ⟨_, rfl⟩
    obtain ⟨m, hm⟩ : ∃ k, l[j].2 = k := ⟨_, rfl⟩
    rw [hk] at x1 y1
    rw [hm] at x2 y2
    clear h1 h2 hk hm
    go_wp2_with fail
    go_quiet (fail)
    go_wp2_with fail
    go_round <;> first | exact ⟨j + 1, _, by omega, by go_num, rfl⟩ | (simp [intOf] <;> omega)
  · go_wp2_with fail
    go_ret
    exact ⟨rfl, n, rfl⟩

/-- The pieces that Tame puts together. -/
def tames : List ByteArray := [⟨#[49]⟩, ⟨#[50]⟩, ⟨#[46, 53]⟩, ⟨#[36, 49]⟩, ⟨#[36, 50]⟩, ⟨#[36, 51]⟩, ⟨#[43]⟩, ⟨#[45]⟩, ⟨#[120]⟩, ⟨#[47]⟩, ⟨#[40]⟩, ⟨#[41]⟩, ⟨#[88]⟩, ⟨#[48]⟩, ⟨#[43]⟩, ⟨#[45]⟩]
theorem and15_u8 : ∀ n : Fin 256, bits BinOp.and IntKind.u8 (n.val : Int) 15 = ((n.val % 16 : Nat) : Int) := by decide +kernel
theorem tame_get (x : Nat) (hx : x < 16) : ∃ S : ByteArray, S.size ≤ 2 ∧ ([Value.string ⟨#[49]⟩, Value.string ⟨#[50]⟩, Value.string ⟨#[46, 53]⟩, Value.string ⟨#[36, 49]⟩, Value.string ⟨#[36, 50]⟩, Value.string ⟨#[36, 51]⟩, Value.string ⟨#[43]⟩, Value.string ⟨#[45]⟩, Value.string ⟨#[120]⟩, Value.string ⟨#[47]⟩, Value.string ⟨#[40]⟩, Value.string ⟨#[41]⟩, Value.string ⟨#[88]⟩, Value.string ⟨#[48]⟩, Value.string ⟨#[43]⟩, Value.string ⟨#[45]⟩][x]'hx) = Value.string S := by
  have hk' : x < tames.length := hx
  refine ⟨tames[x]'hk', ?_, ?_⟩
  · have h2 : (tames.all fun S => decide (S.size ≤ 2)) = true := by decide +kernel
    exact of_decide_eq_true (List.all_eq_true.1 h2 (tames[x]'hk') (List.getElem_mem hk'))
  · show (tames.map Value.string)[x]'(by simpa using hk') = _
    simp
set_option maxRecDepth 100000 in
theorem tame_c (s : ByteArray) (w : World) :
    Calls Tryd.prog 12 #[.string s] w fun e w' => (∃ T : ByteArray, e = .returned (.string T) ∧ T.size ≤ 120) ∧ Below w.heap.size w w' := by
  go_enter Tryd.func12, Tryd.ntmps12
  go_wp2_with fail
  go_loopw [3, 4] (fun t i wr => ∃ (j : Nat) (T : ByteArray), j ≤ s.size ∧ j ≤ 60 ∧ i = .int .i64 j ∧ t = .string T ∧ T.size ≤ 2 * j ∧ Hid (Below w.heap.size w wr)) (fun _ i _ => s.size - (intOf i).toNat)
  case atStart => exact ⟨0, ⟨#[]⟩, Nat.zero_le _, Nat.zero_le _, rfl, rfl, Nat.le_refl _, Below.refl _ _⟩
  case round =>
  obtain ⟨j, T, hj, hj60, rfl, rfl, hT, HB⟩ := hrel
  rename_i wr
  by_cases hlt : j < s.size
  · by_cases h60 : j < 60
    · obtain ⟨x, hx⟩ : ∃ x : Nat, s[j].toNat % 16 = x := ⟨_, rfl⟩
      have hx16 : x < 16 := by omega
      have hxi : bits BinOp.and IntKind.u8 (s[j].toNat : Int) 15 = (x : Int) := by
        rw [← hx]
        exact and15_u8 ⟨s[j].toNat, s[j].toNat_lt⟩
      have hw : IntKind.u8.wrap (x : Int) = (x : Int) := by rw [IntKind.wrap_u8]; omega
      obtain ⟨S, hS2, hS⟩ := tame_get x hx16
      have hx0 : (0 : Int) ≤ (x : Int) := Int.natCast_nonneg _
      have hx1 : (x : Int) < 16 := by omega
      clear hx
      go_wp2_with fail
      go_round <;> first | exact ⟨j + 1, T ++ S, by omega, by omega, by go_num, rfl, by rw [ByteArray.size_append]; omega, HB.out.alloc HB.out.size _⟩ | (simp [intOf] <;> omega)
    · have h6 : ¬ ((j : Int) < 60) := by omega
      go_wp2_with fail
      go_ret
      exact ⟨⟨T, rfl, by omega⟩, HB.out⟩
  · go_wp2_with fail
    go_ret
    exact ⟨⟨T, rfl, by omega⟩, HB.out⟩
end Go.Proofs.YtkfjmcdfamhiaaaDoor.ExW
