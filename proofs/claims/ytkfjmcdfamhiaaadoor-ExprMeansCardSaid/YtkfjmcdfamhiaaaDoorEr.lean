/-
  Plain: each operation takes at least one byte of the text. No program in sight.
-/
import Derived.Test.YtkfjmcdfamhiaaaDoorEq
namespace Go.Proofs.YtkfjmcdfamhiaaaDoor.Ep
open Go.Proofs.YtkfjmcdfamhiaaaDoor.Dp

/-- Operations and what is left together grow no more. -/
def Cnt (f : St → St) : Prop := ∀ st, (f st).ops.length + (f st).r.length ≤ st.ops.length + st.r.length
theorem put_len (st : St) (k n : Int) : (put st k n).ops.length ≤ st.ops.length + 1 := by
  unfold put; split
  · simp
  · omega
theorem leaf_cnt (st : St) : (leafV st).ops.length + (leafV st).r.length ≤ st.ops.length + st.r.length := by
  unfold leafV
  split
  · rename_i h36
    have hne : st.r ≠ [] := by intro e; rw [e] at h36; exact absurd h36 (by decide)
    have hp := List.length_pos_iff.2 hne
    unfold varV
    split
    · exact Nat.le_refl _
    · simp only [List.length_append, List.length_cons, List.length_nil, List.length_drop]; omega
  · split
    · rename_i hn
      have hlit : hd st.r = 46 ∨ isD (hd st.r) = true := by simpa using hn
      have hp := numLen_pos hlit
      have hne : st.r ≠ [] := by
        intro e; rw [e] at hlit
        rcases hlit with h | h <;> exact absurd h (by decide)
      have hl := List.length_pos_iff.2 hne
      unfold numV
      split
      · exact Nat.le_refl _
      · simp only [List.length_append, List.length_cons, List.length_nil, List.length_drop]; omega
    · exact Nat.le_refl _
theorem loop_cnt {op : UInt8 → Option Nat} (h0 : op 0 = none) {f : St → St} (hf : Cnt f) : ∀ k st, (loopV op f k st).ops.length + (loopV op f k st).r.length ≤ st.ops.length + st.r.length
  | 0, st => Nat.le_refl _
  | k + 1, st => by
    rw [loopV]
    split
    · split
      · exact Nat.le_refl _
      · rename_i q hq
        have hp := List.length_pos_iff.2 (op_ne h0 hq)
        have h1 := loop_cnt h0 hf k (put (f ⟨st.r.drop 1, st.ops, 0⟩) q 0)
        have h2 := put_len (f ⟨st.r.drop 1, st.ops, 0⟩) q 0
        have h3 := hf ⟨st.r.drop 1, st.ops, 0⟩
        rw [put_r] at h1
        simp only [List.length_drop] at h3
        omega
    · exact Nat.le_refl _
theorem prod_cnt {f : St → St} (hf : Cnt f) : Cnt (prodV f) := fun st => Nat.le_trans (loop_cnt rfl hf _ _) (hf st)
theorem sum_cnt {f : St → St} (hf : Cnt f) : Cnt (sumV f) := fun st => Nat.le_trans (loop_cnt rfl (prod_cnt hf) _ _) (prod_cnt hf st)
theorem shut_cnt (st : St) : (shutV st).ops.length + (shutV st).r.length ≤ st.ops.length + st.r.length := by
  unfold shutV; split
  · split
    · simp only [List.length_drop]; omega
    · exact Nat.le_refl _
  · exact Nat.le_refl _
theorem inner_cnt {f : St → St} (hf : Cnt f) (c : UInt8) (st : St) : (innerV f c st).ops.length + (innerV f c st).r.length ≤ st.ops.length + st.r.length + 1 := by
  unfold innerV; split
  · exact Nat.le_trans (Nat.le_trans (shut_cnt _) (sum_cnt hf st)) (Nat.le_succ _)
  · split
    · rw [put_r]
      have h1 := put_len (f st) 7 0
      have h2 := hf st
      omega
    · exact Nat.le_trans (hf st) (Nat.le_succ _)
theorem sign_ne {r : List UInt8} (h : isSign (hd r) = true) : r ≠ [] := by
  intro e; rw [e] at h; exact absurd h (by decide)
theorem factor_cnt : ∀ d, Cnt (factorV d)
  | 0, st => by
    rw [factorV]; split
    · exact Nat.le_refl _
    · exact leaf_cnt st
  | d + 1, st => by
    rw [factorV]; split
    · rename_i hs
      have h1 := inner_cnt (factor_cnt d) (hd st.r) ⟨st.r.drop 1, st.ops, st.e⟩
      have h2 := List.length_pos_iff.2 (sign_ne hs)
      simp only [List.length_drop] at h1
      omega
    · exact leaf_cnt st
end Go.Proofs.YtkfjmcdfamhiaaaDoor.Ep
