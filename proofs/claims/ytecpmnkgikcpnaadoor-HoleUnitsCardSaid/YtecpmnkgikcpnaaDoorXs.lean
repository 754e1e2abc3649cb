/-
  Plain: runs of bytes at the start of a text. No program in sight.
-/
import Derived.Test.YtecpmnkgikcpnaaDoorXp
import Derived.Lib.Bytealg
namespace Go.Proofs.YtecpmnkgikcpnaaDoor.Xp
open Go.Proofs.YtecpmnkgikcpnaaDoor.Dp

/-- How many bytes at the start are such. -/
def sp (p : UInt8 → Bool) (l : List UInt8) : Nat := (l.takeWhile p).length
theorem sp_cons (p : UInt8 → Bool) (c : UInt8) (l : List UInt8) : sp p (c :: l) = if p c = true then sp p l + 1 else 0 := by
  unfold sp; rw [List.takeWhile_cons]; split <;> simp
theorem sp_le (p : UInt8 → Bool) (l : List UInt8) : sp p l ≤ l.length := (List.takeWhile_prefix p).length_le
theorem sp_spec (p : UInt8 → Bool) (l : List UInt8) : (∀ k (h : k < l.length), k < sp p l → p l[k] = true) ∧ (∀ h : sp p l < l.length, p l[sp p l] = false) := by
  induction l with
  | nil => simp [sp]
  | cons c l ih =>
    rw [sp_cons]
    by_cases hc : p c = true
    · rw [if_pos hc]
      refine ⟨fun k h hk => ?_, fun h => ?_⟩
      · cases k with
        | zero => simpa using hc
        | succ k => simpa using ih.1 k (by simpa using h) (by omega)
      · simpa using ih.2 (by simpa using h)
    · rw [if_neg hc]
      exact ⟨fun k h hk => by omega, fun h => by simpa using hc⟩
theorem sp_lt {p : UInt8 → Bool} {l : List UInt8} {k : Nat} (hk : k ≤ sp p l) (h : k < l.length) (hd : p l[k] = true) : k < sp p l := by
  rcases Nat.lt_or_eq_of_le hk with h1 | h1
  · exact h1
  · subst h1
    have := (sp_spec p l).2 h
    rw [this] at hd; cases hd
theorem sp_stop {p : UInt8 → Bool} {l : List UInt8} {k : Nat} (hk : k ≤ sp p l) (h : k < l.length) (hd : p l[k] = false) : sp p l = k := by
  rcases Nat.lt_or_eq_of_le hk with h1 | h1
  · have := (sp_spec p l).1 k h h1
    rw [this] at hd; cases hd
  · exact h1.symm
theorem sp_full {p : UInt8 → Bool} {l : List UInt8} (h : sp p l = l.length) : ∀ c ∈ l, p c = true := by
  intro c hc
  obtain ⟨i, hi, rfl⟩ := List.mem_iff_getElem.1 hc
  exact (sp_spec p l).1 i hi (by omega)
theorem wspan_sp (s : List UInt8) : wspan s = sp wayC s := rfl
theorem crs_sp (s : List UInt8) : crs s = sp (· == 13) s := rfl
theorem way_index : ∀ n : Fin 256, decide (0 ≤ Lib.indexByte [43, 45, 46, 48, 49, 50, 51, 52, 53, 54, 55, 56, 57] (UInt8.ofNat n.val)) = wayC (UInt8.ofNat n.val) := by decide +kernel
theorem way_of (c : UInt8) : decide (0 ≤ Lib.indexByte [43, 45, 46, 48, 49, 50, 51, 52, 53, 54, 55, 56, 57] c) = wayC c := by
  have := way_index ⟨c.toNat, c.toNat_lt⟩
  simpa using this
end Go.Proofs.YtecpmnkgikcpnaaDoor.Xp
