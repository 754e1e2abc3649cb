/-
  Plain: fractions (chapter 12.1): made, their bounds, the four operations. No program in sight.
-/
import Derived.Test.YtkfjmcdfamhiaaaDoorDq
namespace Go.Proofs.YtkfjmcdfamhiaaaDoor.Fr

/-- A fraction in lowest terms, the error. -/
def makeV (n d : Int) : Int × Int × Nat :=
  if d = 0 then (0, 0, 10) else if 1073741824 < n.natAbs / Nat.gcd n.natAbs d.natAbs ∨ 1073741824 < d.natAbs / Nat.gcd n.natAbs d.natAbs then (0, 0, 5)
  else (if (n < 0) ≠ (d < 0) then -((n.natAbs / Nat.gcd n.natAbs d.natAbs : Nat) : Int) else ((n.natAbs / Nat.gcd n.natAbs d.natAbs : Nat) : Int), ((d.natAbs / Nat.gcd n.natAbs d.natAbs : Nat) : Int), 0)
def In (n d : Int) : Prop := 1 ≤ d ∧ d ≤ 1073741824 ∧ -1073741824 ≤ n ∧ n ≤ 1073741824
instance (n d : Int) : Decidable (In n d) := by unfold In; infer_instance
def good (n d : Int) : Bool := decide (In n d) && decide (Nat.gcd n.natAbs d.natAbs = 1)
def doV (k n d m e : Int) : Int × Int × Nat :=
  if good n d = true ∧ good m e = true then
    (if k = 3 then makeV (n * e + m * d) (d * e) else if k = 4 then makeV (n * e - m * d) (d * e) else if k = 5 then makeV (n * m) (d * e) else if k = 6 then makeV (n * e) (d * m) else (0, 0, 5))
  else (0, 0, 5)
theorem good_in {n d : Int} (h : good n d = true) : In n d := by
  unfold good at h
  simp only [Bool.and_eq_true, decide_eq_true_eq] at h
  exact h.1
theorem gcd_pos (n : Nat) {d : Nat} (h : 0 < d) : 0 < Nat.gcd n d := Nat.gcd_pos_of_pos_right n h
theorem makeV_in (n d : Int) : -1073741824 ≤ (makeV n d).1 ∧ (makeV n d).1 ≤ 1073741824 ∧ 0 ≤ (makeV n d).2.1 ∧ (makeV n d).2.1 ≤ 1073741824 := by
  unfold makeV
  split
  · decide
  · split
    · decide
    · rename_i h
      dsimp only
      generalize n.natAbs / n.natAbs.gcd d.natAbs = x at h
      generalize d.natAbs / n.natAbs.gcd d.natAbs = y at h
      split <;> omega
theorem doV_in (k n d m e : Int) : -1073741824 ≤ (doV k n d m e).1 ∧ (doV k n d m e).1 ≤ 1073741824 ∧ 0 ≤ (doV k n d m e).2.1 ∧ (doV k n d m e).2.1 ≤ 1073741824 := by
  unfold doV
  split
  · split
    · exact makeV_in _ _
    · split
      · exact makeV_in _ _
      · split
        · exact makeV_in _ _
        · split
          · exact makeV_in _ _
          · decide
  · decide
end Go.Proofs.YtkfjmcdfamhiaaaDoor.Fr
