/-
  Plain: what the reader of a drill file leans on: lines, carriage returns struck. No program in sight.
-/
import Derived.Test.YtecpmnkgikcpnaaDoorXs
import Derived.Lib.Replace
import Derived.Lib.IndexBytes
namespace Go.Proofs.YtecpmnkgikcpnaaDoor.Xp
open Go.Proofs.YtecpmnkgikcpnaaDoor.Dp
open Go.Lib (replaceK replaceAll replace replaceNum indexByte index)

theorem replaceK_one (c : UInt8) : ∀ s : List UInt8, replaceK [c] [] (s.count c) s = s.filter (· != c)
  | [] => rfl
  | b :: l => by
    have ih := replaceK_one c l
    by_cases h : b = c
    · subst h
      have hi : index (b :: l) [b] = ((0 : Nat) : Int) := by rw [Lib.index_one]; unfold indexByte; rw [if_pos (by simp)]; rfl
      rw [List.count_cons_self, Lib.replaceK_hit _ _ _ _ 0 hi]
      simp [ih]
    · have hb : (b == c) = false := beq_eq_false_iff_ne.2 h
      rw [List.count_cons_of_ne h, List.filter_cons_of_pos (by simp [h])]
      cases hk : l.count c with
      | zero =>
        rw [hk] at ih
        have e : ∀ s : List UInt8, replaceK [c] [] 0 s = s := fun s => rfl
        rw [e] at ih ⊢
        rw [← ih]
      | succ k =>
        rw [hk] at ih
        have hc : 0 < Lib.count l [c] := by rw [Lib.count_one, hk]; omega
        obtain ⟨i, hi⟩ := Lib.index_of_count hc
        have hi2 : index (b :: l) [c] = ((i + 1 : Nat) : Int) := by
          rw [Lib.index_one] at hi ⊢
          unfold indexByte
          rw [hb, if_neg (by decide), hi, if_neg (by simp <;> omega)]
          rfl
        rw [Lib.replaceK_hit _ _ _ _ _ hi] at ih
        rw [Lib.replaceK_hit _ _ _ _ _ hi2, ← ih]
        simp
theorem replaceAll_one (c : UInt8) (s : List UInt8) : replaceAll s [c] [] = s.filter (· != c) := by
  unfold replaceAll replace
  rw [if_neg (by simp)]
  have : replaceNum s [c] (-1) = s.count c := by
    unfold replaceNum
    rw [if_pos (.inl (by decide)), Lib.count_one]
  rw [this]
  exact replaceK_one c s
theorem upto_sp (s : List UInt8) : (upto s).length = sp (· != 10) s := rfl
theorem upto_take (s : List UInt8) : upto s = s.take (upto s).length := by
  unfold upto
  exact List.prefix_iff_eq_take.1 (List.takeWhile_prefix _)
theorem upto_le (s : List UInt8) : (upto s).length ≤ s.length := sp_le _ s
theorem index_upto (s : List UInt8) : indexByte s 10 = if (upto s).length < s.length then ((upto s).length : Int) else -1 := by
  induction s with
  | nil => rfl
  | cons b l ih =>
    unfold indexByte
    by_cases h : b = 10
    · subst h
      rw [if_pos (by decide)]
      have : upto (10 :: l) = [] := rfl
      rw [this, if_pos (by simp)]; rfl
    · have hu : upto (b :: l) = b :: upto l := by unfold upto; rw [List.takeWhile_cons_of_pos (by simp [h])]
      rw [if_neg (by simp [h]), ih, hu]
      simp only [List.length_cons]
      by_cases hl : (upto l).length < l.length
      · rw [if_pos hl, if_neg (by simp <;> omega), if_pos (by omega)]; rfl
      · rw [if_neg hl, if_pos (by decide), if_neg (by omega)]
theorem crs_le (s : List UInt8) : crs s ≤ s.length := sp_le _ s
theorem filter_crs (s : List UInt8) : (s.drop (crs s)).filter (· != 13) = s.filter (· != 13) := by
  have h := List.take_append_drop (crs s) s
  have h2 : (s.take (crs s)).filter (· != 13) = [] := by
    rw [List.filter_eq_nil_iff]
    intro x hx
    obtain ⟨k, hk, rfl⟩ := List.mem_iff_getElem.1 hx
    rw [List.length_take] at hk
    have := (sp_spec (· == 13) s).1 k (by omega) (by rw [← crs_sp]; omega)
    rw [List.getElem_take]
    simpa using this
  conv => rhs; rw [← h, List.filter_append, h2, List.nil_append]
theorem filter_ne {s : List UInt8} (h : crs s < s.length) : 0 < (s.filter (· != 13)).length := by
  have h1 := (sp_spec (· == 13) s).2 (by rw [← crs_sp]; exact h)
  have hm : s[sp (· == 13) s]'(by rw [← crs_sp]; exact h) ∈ s.filter (· != 13) := by
    rw [List.mem_filter]
    refine ⟨List.getElem_mem _, ?_⟩
    simpa using h1
  exact List.length_pos_of_mem hm
/-- Enough rounds are enough. -/
theorem go_fuel : ∀ (k m : Nat) (r : List UInt8) (o : Nat) (acc : List (Nat × D)), r.length ≤ k → r.length ≤ m → goV k r o acc = goV m r o acc
  | 0, 0, _, _, _, _, _ => rfl
  | 0, m + 1, r, o, acc, h, _ => by
    have : r = [] := List.eq_nil_of_length_eq_zero (by omega)
    subst this; rfl
  | k + 1, 0, r, o, acc, _, h => by
    have : r = [] := List.eq_nil_of_length_eq_zero (by omega)
    subst this; rfl
  | k + 1, m + 1, r, o, acc, hk, hm => by
    rw [goV, goV]
    by_cases h : r = []
    · rw [if_pos h, if_pos h]
    · rw [if_neg h, if_neg h]
      have hp := List.length_pos_iff.2 h
      have hd : (r.drop ((upto r).length + 1)).length ≤ r.length - 1 := by rw [List.length_drop]; omega
      split
      · exact go_fuel k m _ _ _ (by omega) (by omega)
      · split
        · rfl
        · exact go_fuel k m _ _ _ (by omega) (by omega)
/-- A round. -/
theorem go_step {r : List UInt8} (h : r ≠ []) (o : Nat) (acc : List (Nat × D)) : goV r.length r o acc =
    if crs (upto r) = (upto r).length then goV (r.drop ((upto r).length + 1)).length (r.drop ((upto r).length + 1)) (o + (upto r).length + 1) acc
    else match cmdV ((upto r).filter (· != 13)) with
      | none => ([], o + crs (upto r), 3)
      | some d => goV (r.drop ((upto r).length + 1)).length (r.drop ((upto r).length + 1)) (o + (upto r).length + 1) (acc ++ [(o + crs (upto r), d)]) := by
  have hp := List.length_pos_iff.2 h
  obtain ⟨k, hk⟩ : ∃ k, r.length = k + 1 := ⟨r.length - 1, by omega⟩
  have hd : (r.drop ((upto r).length + 1)).length ≤ k := by rw [List.length_drop]; omega
  rw [hk, goV, if_neg h]
  by_cases hc : crs (upto r) = (upto r).length
  · rw [if_pos hc, if_pos hc]
    exact go_fuel _ _ _ _ _ hd (Nat.le_refl _)
  · rw [if_neg hc, if_neg hc]
    cases cmdV ((upto r).filter (· != 13)) with
    | none => rfl
    | some d => exact go_fuel _ _ _ _ _ hd (Nat.le_refl _)
end Go.Proofs.YtecpmnkgikcpnaaDoor.Xp
