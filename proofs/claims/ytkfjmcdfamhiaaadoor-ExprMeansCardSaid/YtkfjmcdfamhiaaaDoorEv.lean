/-
  Plain: the value of an expression's operations (chapter 12.3), as a machine with a stack. No program in sight.
-/
import Derived.Test.YtkfjmcdfamhiaaaDoorFr
import Derived.Test.YtkfjmcdfamhiaaaDoorDp
namespace Go.Proofs.YtkfjmcdfamhiaaaDoor.Fr
open Go.Proofs.YtkfjmcdfamhiaaaDoor.Dp

/-- An operation that Parse may give. -/
def kn (k n : Int) : Bool :=
  if k = 1 then decide (0 ≤ n) && okN n else if k = 2 then decide (1 ≤ n ∧ n ≤ 99) else if 3 ≤ k ∧ k ≤ 7 then decide (n = 0) else false
def tk (k : Int) : Nat := if k = 1 ∨ k = 2 then 0 else if k = 7 then 1 else 2
/-- From the top: the i-th of the stack. -/
def top (st : List (Int × Int)) (i : Nat) : Int × Int := st.getD (st.length - i) (0, 0)
def varV (vars : List (Int × Int)) (n : Int) : Int × Int := if n ≤ vars.length then vars.getD (n.toNat - 1) (0, 0) else (0, 1)
def opV (vars st : List (Int × Int)) (k n : Int) : Int × Int × Nat :=
  if k = 1 then makeV n 1000000
  else if k = 2 then ((varV vars n).1, (varV vars n).2, if good (varV vars n).1 (varV vars n).2 = true then 0 else 5)
  else if k = 7 then (-(top st 1).1, (top st 1).2, 0)
  else doV k (top st 2).1 (top st 2).2 (top st 1).1 (top st 1).2
def stepV (vars st : List (Int × Int)) (k n : Int) : List (Int × Int) × Nat :=
  if kn k n = false ∨ st.length < tk k then (st, 3)
  else if (opV vars st k n).2.2 = 0 then (st.take (st.length - tk k) ++ [((opV vars st k n).1, (opV vars st k n).2.1)], 0) else (st, (opV vars st k n).2.2)
def endV (st : List (Int × Int)) : Int × Int × Nat := match st with
  | [x] => (x.1, x.2, 0)
  | _ => (0, 0, 3)
/-- 12.3. -/
def runV (vars : List (Int × Int)) : List (Int × Int) → List (Int × Int) → Int × Int × Nat
  | [], st => endV st
  | o :: l, st => if (stepV vars st o.1 o.2).2 = 0 then runV vars l (stepV vars st o.1 o.2).1 else (0, 0, (stepV vars st o.1 o.2).2)
def evalV (vars l : List (Int × Int)) : Int × Int × Nat := runV vars l []

/-- All within the bounds. -/
def Small (st : List (Int × Int)) : Prop := ∀ x ∈ st, -1073741824 ≤ x.1 ∧ x.1 ≤ 1073741824 ∧ 0 ≤ x.2 ∧ x.2 ≤ 1073741824
theorem Small.take {st : List (Int × Int)} (h : Small st) (k : Nat) : Small (st.take k) := fun x hx => h x (List.mem_of_mem_take hx)
theorem Small.snoc {st : List (Int × Int)} (h : Small st) {n d : Int} (h1 : -1073741824 ≤ n) (h2 : n ≤ 1073741824) (h3 : 0 ≤ d) (h4 : d ≤ 1073741824) : Small (st ++ [(n, d)]) := by
  intro x hx
  rcases List.mem_append.1 hx with hx | hx
  · exact h x hx
  · simp only [List.mem_singleton] at hx
    subst hx
    exact ⟨h1, h2, h3, h4⟩
theorem kn_kinds {k n : Int} (h : kn k n = true) : (k = 1 ∧ 0 ≤ n ∧ n < 1000000000000) ∨ (k = 2 ∧ 1 ≤ n ∧ n ≤ 99) ∨ (3 ≤ k ∧ k ≤ 6 ∧ n = 0) ∨ (k = 7 ∧ n = 0) := by
  unfold kn at h
  split at h
  · rename_i hk
    simp only [Bool.and_eq_true, decide_eq_true_eq, okN] at h
    exact .inl ⟨hk, by omega, by omega⟩
  · split at h
    · rename_i hk
      simp only [decide_eq_true_eq] at h
      exact .inr (.inl ⟨hk, h.1, h.2⟩)
    · split at h
      · rename_i hk
        simp only [decide_eq_true_eq] at h
        by_cases h7 : k = 7
        · exact .inr (.inr (.inr ⟨h7, h⟩))
        · exact .inr (.inr (.inl ⟨hk.1, by omega, h⟩))
      · cases h
end Go.Proofs.YtkfjmcdfamhiaaaDoor.Fr
