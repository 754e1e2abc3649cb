/-
  The walks of exce's place, unitLine.
-/
import Derived.Test.YtecpmnkgikcpnaaDoorXwG
namespace Go.Proofs.YtecpmnkgikcpnaaDoor.XW
open Go.RowKit Go.Proofs.YtecpmnkgikcpnaaDoor.Base Go.Proofs.YtecpmnkgikcpnaaDoor.Dp Go.Proofs.YtecpmnkgikcpnaaDoor.Xp

set_option maxRecDepth 100000 in
set_option maxHeartbeats 800000 in
theorem place_c (l : UInt8) (c : List UInt8) (hc : c.length ≤ 1000000000) (S : ByteArray) (hS : Hid (S.data.toList = plc l c)) (w : World) :
    Calls Tryd.prog 49 #[.string ⟨#[l]⟩, .string ⟨c.toArray⟩] w fun e w' => e = .returned (.string S) ∧ w' = w := by
  by_cases h0 : c = []
  · subst h0
    have hE : S = ⟨#[]⟩ := str_eq (by rw [hS.out]; rfl)
    subst hE
    clear hS
    go_enter Tryd.func49, Tryd.ntmps49
    go_wp2_with fail
    go_ret
    exact ⟨rfl, rfl⟩
  · have hE : S = (⟨#[l]⟩ : ByteArray) ++ ⟨c.toArray⟩ := str_eq (by rw [hS.out]; simp [plc, h0])
    subst hE
    obtain ⟨C, hC⟩ : ∃ C : ByteArray, (⟨c.toArray⟩ : ByteArray) = C := ⟨_, rfl⟩
    have hCe : C.toList.isEmpty = false := by
      rw [← hC, Lib.toList_data]
      cases c with
      | nil => exact absurd rfl h0
      | cons _ _ => rfl
    have hCs : C.size ≤ 1000000000 := by rw [← hC]; simpa [ByteArray.size] using hc
    have hCs2 : ¬ 9223372036854775807 < 1 + C.size := by omega
    rw [hC]
    clear hC hS h0
    go_enter Tryd.func49, Tryd.ntmps49
    go_wp2_with fail
    go_ret
    exact ⟨rfl, rfl⟩

def unitL (n : Int) (on : Bool) : List UInt8 := (if n ≠ 1 then [73, 78, 67, 72] else [77, 69, 84, 82, 73, 67]) ++ (if on then [44, 84, 90] else [])

set_option maxRecDepth 100000 in
set_option maxHeartbeats 800000 in
theorem unit_c (k n : Int) (on : Bool) (t x y u v : ByteArray) (a : Int) (nv : Value) (S : ByteArray) (hS : Hid (S.data.toList = unitL n on)) (w : World) :
    Calls Tryd.prog 46 #[.agg #[.int .i64 a, .int .i64 k, .int .i64 n, .bool on, .string t, .string x, .string y, .string u, .string v, nv]] w fun e w' => e = .returned (.string S) ∧ Below w.heap.size w w' := by
  have HB : Hid (Below w.heap.size w (w.alloc (.cells #[.int .i64 a, .int .i64 k, .int .i64 n, .bool on, .string t, .string x, .string y, .string u, .string v, nv] 39))) := (Below.refl _ _).alloc (Nat.le_refl _) _
  go_enter Tryd.func46, Tryd.ntmps46
  by_cases hn : n = 1
  · have hni : (n == 1) = true := by rw [beq_iff_eq]; exact hn
    have hnb : (n != 1) = false := by rw [bne, hni]; rfl
    clear hn
    cases on with
    | true =>
      have hE : S = ⟨#[77, 69, 84, 82, 73, 67, 44, 84, 90]⟩ := str_eq (by rw [hS.out]; simp [unitL, beq_iff_eq.1 hni])
      subst hE
      clear hS
      go_wp2_with fail
      go_ret
      exact ⟨rfl, HB.out⟩
    | false =>
      have hE : S = ⟨#[77, 69, 84, 82, 73, 67]⟩ := str_eq (by rw [hS.out]; simp [unitL, beq_iff_eq.1 hni])
      subst hE
      clear hS
      go_wp2_with fail
      go_ret
      exact ⟨rfl, HB.out⟩
  · have hni : (n == 1) = false := by rw [beq_eq_false_iff_ne]; exact hn
    have hnb : (n != 1) = true := by rw [bne, hni]; rfl
    have HN := Lib.hid hn
    clear hn
    cases on with
    | true =>
      have hE : S = ⟨#[73, 78, 67, 72, 44, 84, 90]⟩ := str_eq (by rw [hS.out]; simp [unitL, HN.out])
      subst hE
      clear hS
      go_wp2_with fail
      go_ret
      exact ⟨rfl, HB.out⟩
    | false =>
      have hE : S = ⟨#[73, 78, 67, 72]⟩ := str_eq (by rw [hS.out]; simp [unitL, HN.out])
      subst hE
      clear hS
      go_wp2_with fail
      go_ret
      exact ⟨rfl, HB.out⟩
end Go.Proofs.YtecpmnkgikcpnaaDoor.XW
