/-
  The walk of expr.Parse.
-/
import Derived.Test.YtkfjmcdfamhiaaaDoorRdF
namespace Go.Proofs.YtkfjmcdfamhiaaaDoor.RdW
open Go.RowKit Go.Proofs.YtkfjmcdfamhiaaaDoor.Dp Go.Proofs.YtkfjmcdfamhiaaaDoor.Base Go.Proofs.YtkfjmcdfamhiaaaDoor.Ep Go.Proofs.YtkfjmcdfamhiaaaDoor.Mem

/-- What Parse returns: the operations l in new memory, the place, the error. -/
def ParseOut (l : List (Int × Int)) (a e : Nat) (w : World) (en : Ending) (w' : World) : Prop :=
  ∃ v, en = .returned (.tuple #[v, .int .i64 (a : Int), .int .i64 (e : Int)]) ∧ w'.ownsRow w.heap.size 53 2 v l.length (opVs l) ∧ Below w.heap.size w w'
theorem own_nil (w : World) (B : Nat) : w.ownsRow B 53 2 (.slice none 0 0) ([] : List (Int × Int)).length (opVs []) := ⟨rfl, .inl ⟨rfl, rfl⟩⟩

set_option maxRecDepth 100000 in
set_option maxHeartbeats 1600000 in
theorem parse_w (S : ByteArray) (hm : S.size ≤ maxLen) (w : World) (l : List (Int × Int)) (a e : Nat) (hp : Hid (parseV S.data.toList = (l, a, e))) :
    Calls Tryd.prog 7 #[.string S] w (ParseOut l a e w) := by
  unfold maxLen at hm
  have hlen : S.data.toList.length = S.size := len_list S
  by_cases h300 : 300 < (S.size : Int)
  · have hx := hp.out
    unfold parseV at hx
    rw [if_pos (by omega)] at hx
    simp only [Prod.mk.injEq] at hx
    obtain ⟨rfl, rfl, rfl⟩ := hx
    clear hlen
    go_enter Tryd.func7, Tryd.ntmps7
    go_wp2_with fail
    go_ret3
    exact ⟨_, rfl, own_nil w _, Below.refl _ _⟩
  · have hS : S.size ≤ 300 := by omega
    obtain ⟨s1, hs1⟩ : ∃ s1, runV S.data.toList = s1 := ⟨_, rfl⟩
    have HX : Hid ((if endV s1 = 0 then (s1.ops, 0, 0) else ([], S.size - s1.r.length, endV s1)) = (l, a, e)) := by
      show _ = _
      have hx := hp.out
      unfold parseV at hx
      rw [if_neg (by omega), hs1, hlen] at hx
      exact hx
    have HS1 : Hid (sumV (factorV 30) ⟨S.data.toList, [], 0⟩ = s1) := hs1
    have HRD : Hid (RdA w S w.heap.size 0 ⟨S.data.toList, [], 0⟩ (w.alloc (rdObj S 0 0 (.slice none 0 0) 0))) :=
      ⟨0, .slice none 0 0, Nat.zero_le _, rfl, heap_alloc_new w _, ⟨rfl, .inl ⟨rfl, rfl⟩⟩, (Below.refl _ _).alloc (Nat.le_refl _) _, Nat.le_refl _⟩
    have HC : Hid ((⟨S.data.toList, [], 0⟩ : St).ops.length + (⟨S.data.toList, [], 0⟩ : St).r.length ≤ 300) := by show 0 + S.data.toList.length ≤ 300; omega
    clear hs1 hlen hp
    go_enter Tryd.func7, Tryd.ntmps7
    go_wp2_with fail
    with_reducible refine (sum_all.use (st := ⟨S.data.toList, [], 0⟩) hS rfl HRD.out rfl HC.out).mono ?_
    rw [HS1.out]
    rintro en w1 ⟨rfl, k, v, h1⟩
    have H1 := Lib.hid h1
    have hks := h1.k_le
    have HLN := Lib.hid h1.len
    obtain ⟨c0, c1, c2, c3, c4⟩ := h1.cells
    have f4 := h1.frozen 4
    clear h1
    by_cases hz : s1.e = 0
    · have te : ((s1.e : Int) == 0) = true := by rw [hz]; rfl
      by_cases hr : k < S.size
      · have HE : Hid (l = [] ∧ a = k ∧ e = 3) := by
          have hx := HX.out
          have hrn : s1.r ≠ [] := by intro e; have := HLN.out; rw [e] at this; simp at this; omega
          have h3 : endV s1 = 3 := by unfold endV; rw [if_pos hz, if_neg hrn]
          rw [h3, if_neg (by decide)] at hx
          simp only [Prod.mk.injEq] at hx
          exact ⟨hx.1.symm, by have := HLN.out; omega, hx.2.2.symm⟩
        obtain ⟨rfl, rfl, rfl⟩ := HE.out
        clear hz HX HS1
        have HB : Hid (Below w.heap.size w (w1.setCell ⟨w.heap.size, 4, none⟩ (.int .i64 3))) := H1.out.bel.setCell (Nat.le_refl _) _
        go_wp2_with fail
        go_quiet (fail)
        go_wp2_with fail
        go_ret3
        exact ⟨_, rfl, own_nil _ _, below_drewN HB.out _⟩
      · have HE : Hid (l = s1.ops ∧ a = 0 ∧ e = 0) := by
          have hx := HX.out
          have hrn : s1.r = [] := by
            have := HLN.out
            exact List.eq_nil_of_length_eq_zero (by omega)
          have h3 : endV s1 = 0 := by unfold endV; rw [if_pos hz, if_pos hrn]
          rw [h3, if_pos rfl] at hx
          simp only [Prod.mk.injEq] at hx
          exact ⟨hx.1.symm, hx.2.1.symm, hx.2.2.symm⟩
        obtain ⟨rfl, rfl, rfl⟩ := HE.out
        clear hz HX HS1
        go_wp2_with fail
        go_ret3
        exact ⟨v, rfl, H1.out.own, H1.out.bel⟩
    · have te : ((s1.e : Int) == 0) = false := by simp; omega
      have HE : Hid (l = [] ∧ a = k ∧ e = s1.e) := by
        have hx := HX.out
        have h3 : endV s1 = s1.e := by unfold endV; rw [if_neg hz]
        rw [h3, if_neg hz] at hx
        simp only [Prod.mk.injEq] at hx
        exact ⟨hx.1.symm, by have := HLN.out; omega, hx.2.2.symm⟩
      obtain ⟨rfl, rfl, rfl⟩ := HE.out
      clear hz HX HS1
      go_wp2_with fail
      go_quiet (fail)
      go_wp2_with fail
      go_ret3
      exact ⟨_, rfl, own_nil _ _, below_drewN H1.out.bel _⟩
end Go.Proofs.YtkfjmcdfamhiaaaDoor.RdW
