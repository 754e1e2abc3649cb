/-
  Rows of pairs of numbers in memory; the walks of expr.known, takes, rank.
-/
import Derived.Test.YtkfjmcdfamhiaaaDoorEv
import Derived.Test.YtkfjmcdfamhiaaaDoorFrW
import Derived.Test.YtkfjmcdfamhiaaaDoorDeciV
import Derived.Test.YtkfjmcdfamhiaaaDoorRdW
namespace Go.Proofs.YtkfjmcdfamhiaaaDoor.FrW
open Go.RowKit Go.Proofs.YtkfjmcdfamhiaaaDoor.Base Go.Proofs.YtkfjmcdfamhiaaaDoor.Dp Go.Proofs.YtkfjmcdfamhiaaaDoor.DeciW Go.Proofs.YtkfjmcdfamhiaaaDoor.Fr

/-- The slice at p reads as the pairs l. -/
def PairsIn (w : World) (p : Option Addr) (l : List (Int × Int)) : Prop :=
  0 < l.length → ∃ b o, p = some ⟨b, o, none⟩ ∧ ∀ i (hi : i < l.length), w.cell? ⟨b, o + i * 2, none⟩ = some (.int .i64 l[i].1) ∧ w.cell? ⟨b, o + i * 2 + 1, none⟩ = some (.int .i64 l[i].2)
theorem PairsIn.nil (w : World) (p : Option Addr) : PairsIn w p [] := fun h => absurd h (by simp)
theorem PairsIn.below {w w' : World} {p : Option Addr} {l : List (Int × Int)} (h : PairsIn w p l) (hb : Below w.heap.size w w') : PairsIn w' p l := by
  intro hl
  obtain ⟨b, o, hp, hc⟩ := h hl
  refine ⟨b, o, hp, fun i hi => ?_⟩
  obtain ⟨h1, h2⟩ := hc i hi
  have hlt := Mem.lt_of_cell h1
  exact ⟨(hb.cell (p := ⟨b, o + i * 2, none⟩) hlt).trans h1, (hb.cell (p := ⟨b, o + i * 2 + 1, none⟩) hlt).trans h2⟩
theorem pairs_get (l : List (Int × Int)) (i : Nat) (hi : i < l.length) : (RdW.opVs l)[i * 2]? = some (.int .i64 l[i].1) ∧ (RdW.opVs l)[i * 2 + 1]? = some (.int .i64 l[i].2) := by
  induction l generalizing i with
  | nil => simp at hi
  | cons x l ih =>
    cases i with
    | zero => exact ⟨rfl, rfl⟩
    | succ i =>
      have h := ih i (by simpa using hi)
      have e : (i + 1) * 2 = i * 2 + 1 + 1 := by omega
      rw [e]
      exact ⟨h.1, h.2⟩
/-- A row of pairs of the call's own reads as its pairs. -/
theorem own_pairs {w : World} {B : Nat} {e : TypeId} {v : Value} {l : List (Int × Int)} (h : w.ownsRow B e 2 v l.length (RdW.opVs l)) : ∃ p c, v = .slice p l.length c ∧ PairsIn w p l ∧ l.length ≤ c ∧ (p = none ∨ ∃ g, p = some ⟨g, 0, none⟩ ∧ B ≤ g) := by
  rcases h.2 with ⟨rfl, h0⟩ | ⟨g, cap, cur, rfl, hb, hg, hnc, hcm, hcs, htake⟩
  · obtain rfl : l = [] := List.eq_nil_of_length_eq_zero h0
    exact ⟨none, 0, rfl, PairsIn.nil _ _, Nat.le_refl _, .inl rfl⟩
  · refine ⟨some ⟨g, 0, none⟩, cap, rfl, fun _ => ⟨g, 0, rfl, fun i hi => ?_⟩, hnc, .inr ⟨g, rfl, hb⟩⟩
    have hp := pairs_get l i hi
    rw [Nat.zero_add, h.cellAt (i * 2) (by omega), h.cellAt (i * 2 + 1) (by omega)]
    exact hp
/-- The same row, cut short. -/
theorem own_take {w : World} {B : Nat} {e : TypeId} {g c : Nat} {l : List (Int × Int)} (h : w.ownsRow B e 2 (.slice (some ⟨g, 0, none⟩) l.length c) l.length (RdW.opVs l)) (k : Nat) (hk : k ≤ l.length) :
    w.ownsRow B e 2 (.slice (some ⟨g, 0, none⟩) k c) k (RdW.opVs (l.take k)) := by
  have hl : (RdW.opVs (l.take k)).length = k * 2 := by rw [RdW.opVs_length, List.length_take, Nat.min_eq_left hk]
  refine ⟨hl, ?_⟩
  rcases h.2 with ⟨h', _⟩ | ⟨g', cap', cur, h', hb, hg, hnc, hcm, hcs, htake⟩
  · simp at h'
  · simp only [Value.slice.injEq, Option.some.injEq, Addr.mk.injEq, and_true, true_and] at h'
    obtain ⟨rfl, rfl⟩ := h'
    refine .inr ⟨g, c, cur, rfl, hb, hg, by omega, hcm, hcs, ?_⟩
    have e1 : RdW.opVs l = RdW.opVs (l.take k) ++ RdW.opVs (l.drop k) := by rw [← RdW.opVs_append, List.take_append_drop]
    have e2 : cur.toList.take (k * 2) = (cur.toList.take (l.length * 2)).take (k * 2) := by rw [List.take_take, Nat.min_eq_left (by omega)]
    rw [e2, htake, e1, ← hl, List.take_left]

theorem ret_bool {a b : Bool} (h : a = b) : Ending.returned (.bool a) = .returned (.bool b) := by rw [h]
abbrev opVal (k n : Int) : Value := .agg #[.int .i64 k, .int .i64 n]
abbrev opObj (k n : Int) : Obj := .cells #[.int .i64 k, .int .i64 n] 53
theorem op_bel (w : World) (k n : Int) : Below w.heap.size w (w.alloc (opObj k n)) := (Below.refl _ _).alloc (Nat.le_refl _) _

set_option maxRecDepth 100000 in
set_option maxHeartbeats 1600000 in
theorem known_c (k n : Int) (b : Bool) (hb : Hid (kn k n = b)) (w : World) :
    Calls Tryd.prog 20 #[opVal k n] w (YesOut b w) := by
  have hb' := hb.out
  unfold kn at hb'
  by_cases h1 : k = 1
  · subst h1
    rw [if_pos rfl] at hb'
    by_cases h0 : 0 ≤ n
    · rw [decide_eq_true h0, Bool.true_and] at hb'
      have HOK : Hid (okN n = b) := hb'
      clear hb hb'
      go_enter Tryd.func20, Tryd.ntmps20
      go_wp2_with fail
      with_reducible refine (ok_any n _).mono ?_
      rintro en w' ⟨rfl, rfl⟩
      go_wp2_with fail
      go_ret
      exact ⟨ret_bool HOK.out, op_bel _ _ _⟩
    · have HF : Hid (b = false) := by show _ = _; rw [← hb', decide_eq_false h0, Bool.false_and]
      clear hb hb'
      go_enter Tryd.func20, Tryd.ntmps20
      go_wp2_with fail
      go_ret
      exact ⟨ret_bool HF.out.symm, op_bel _ _ _⟩
  · by_cases h2 : k = 2
    · subst h2
      rw [if_neg (by decide), if_pos rfl] at hb'
      by_cases h0 : 1 ≤ n
      · by_cases h99 : n ≤ 99
        · have HF : Hid (b = true) := by show _ = _; rw [← hb', decide_eq_true ⟨h0, h99⟩]
          clear hb hb'
          go_enter Tryd.func20, Tryd.ntmps20
          go_wp2_with fail
          go_ret
          exact ⟨ret_bool HF.out.symm, op_bel _ _ _⟩
        · have HF : Hid (b = false) := by show _ = _; rw [← hb', decide_eq_false (fun h => h99 h.2)]
          clear hb hb'
          go_enter Tryd.func20, Tryd.ntmps20
          go_wp2_with fail
          go_ret
          exact ⟨ret_bool HF.out.symm, op_bel _ _ _⟩
      · have HF : Hid (b = false) := by show _ = _; rw [← hb', decide_eq_false (fun h => h0 h.1)]
        clear hb hb'
        go_enter Tryd.func20, Tryd.ntmps20
        go_wp2_with fail
        go_ret
        exact ⟨ret_bool HF.out.symm, op_bel _ _ _⟩
    · rw [if_neg h1, if_neg h2] at hb'
      have t1 : (k == 1) = false := by simp [h1]
      have t2 : (k == 2) = false := by simp [h2]
      by_cases hin : 3 ≤ k ∧ k ≤ 7
      · rw [if_pos hin] at hb'
        have HF : Hid ((n == 0) = b) := by
          show _ = _
          rw [← hb']
          by_cases h : n = 0 <;> simp [h]
        have hk : k = 3 ∨ k = 4 ∨ k = 5 ∨ k = 6 ∨ k = 7 := by omega
        clear hb hb' hin h1 h2 t1 t2
        rcases hk with rfl | rfl | rfl | rfl | rfl <;>
          (go_enter Tryd.func20, Tryd.ntmps20
           go_wp2_with fail
           go_ret
           exact ⟨ret_bool HF.out, op_bel _ _ _⟩)
      · rw [if_neg hin] at hb'
        have HF : Hid (b = false) := by show _ = _; rw [← hb']
        have t3 : (k == 3) = false := by simp; omega
        have t4 : (k == 4) = false := by simp; omega
        have t5 : (k == 5) = false := by simp; omega
        have t6 : (k == 6) = false := by simp; omega
        have t7 : (k == 7) = false := by simp; omega
        clear hb hb' hin h1 h2
        go_enter Tryd.func20, Tryd.ntmps20
        go_wp2_with fail
        go_ret
        exact ⟨ret_bool HF.out.symm, op_bel _ _ _⟩

set_option maxHeartbeats 400000 in
theorem takes_c (k : Int) (m : Int) (hm : Hid ((tk k : Int) = m)) (w : World) :
    Calls Tryd.prog 21 #[.int .i64 k] w fun e w' => e = .returned (.int .i64 m) ∧ w' = w := by
  have hm' := hm.out
  unfold tk at hm'
  by_cases h1 : k = 1
  · subst h1
    have HM : Hid (0 = m) := hm'
    go_enter Tryd.func21, Tryd.ntmps21
    go_wp2_with fail
    go_ret
    exact ⟨ret_int HM.out, rfl⟩
  · by_cases h2 : k = 2
    · subst h2
      have HM : Hid (0 = m) := hm'
      go_enter Tryd.func21, Tryd.ntmps21
      go_wp2_with fail
      go_ret
      exact ⟨ret_int HM.out, rfl⟩
    · rw [if_neg (by omega)] at hm'
      have t1 : (k == 1) = false := by simp [h1]
      have t2 : (k == 2) = false := by simp [h2]
      by_cases h7 : k = 7
      · subst h7
        have HM : Hid (1 = m) := hm'
        clear hm hm' t1 t2
        go_enter Tryd.func21, Tryd.ntmps21
        go_wp2_with fail
        go_ret
        exact ⟨ret_int HM.out, rfl⟩
      · rw [if_neg h7] at hm'
        have HM : Hid (2 = m) := hm'
        have t7 : (k == 7) = false := by simp [h7]
        clear hm hm' h1 h2 h7
        go_enter Tryd.func21, Tryd.ntmps21
        go_wp2_with fail
        go_ret
        exact ⟨ret_int HM.out, rfl⟩

/-- How tightly an operation binds. -/
def rk (k : Int) : Int := if k = 3 ∨ k = 4 then 1 else if k = 5 ∨ k = 6 then 2 else 3
set_option maxHeartbeats 400000 in
theorem rank_c (k : Int) (m : Int) (hm : Hid (rk k = m)) (w : World) :
    Calls Tryd.prog 27 #[.int .i64 k] w fun e w' => e = .returned (.int .i64 m) ∧ w' = w := by
  have hm' := hm.out
  by_cases hin : k = 3 ∨ k = 4 ∨ k = 5 ∨ k = 6
  · rcases hin with rfl | rfl | rfl | rfl <;>
      (have HM : Hid _ := hm'
       clear hm hm'
       go_enter Tryd.func27, Tryd.ntmps27
       go_wp2_with fail
       go_ret
       exact ⟨ret_int HM.out, rfl⟩)
  · unfold rk at hm'
    rw [if_neg (by omega), if_neg (by omega)] at hm'
    have HM : Hid (3 = m) := hm'
    have t3 : (k == 3) = false := by simp; omega
    have t4 : (k == 4) = false := by simp; omega
    have t5 : (k == 5) = false := by simp; omega
    have t6 : (k == 6) = false := by simp; omega
    clear hm hm' hin
    go_enter Tryd.func27, Tryd.ntmps27
    go_wp2_with fail
    go_ret
    exact ⟨ret_int HM.out, rfl⟩
end Go.Proofs.YtkfjmcdfamhiaaaDoor.FrW
