/-
  Plain: parentheses and signs nested as deep as one likes; sums as long as one likes (chapter 12.2, W6). No program in sight.
-/
import Derived.Test.YtkfjmcdfamhiaaaDoorMn
namespace Go.Proofs.YtkfjmcdfamhiaaaDoor.Ed
open Go.Proofs.YtkfjmcdfamhiaaaDoor.Dp Go.Proofs.YtkfjmcdfamhiaaaDoor.Fr Go.Proofs.YtkfjmcdfamhiaaaDoor.Ep Go.Proofs.YtkfjmcdfamhiaaaDoor.Tx

/-- n signs, or parentheses, around a one. -/
def sT (n : Nat) (m : Bool) : List UInt8 := if m = true then List.replicate n 45 ++ [49] else List.replicate n 40 ++ 49 :: List.replicate n 41
theorem sT_zero (m : Bool) : sT 0 m = [49] := by cases m <;> rfl
theorem sT_minus (n : Nat) : sT (n + 1) true = 45 :: sT n true := by unfold sT; simp [List.replicate_succ]
theorem sT_par (n : Nat) : sT (n + 1) false = 40 :: (sT n false ++ [41]) := by
  unfold sT
  rw [if_neg (by decide), if_neg (by decide), List.replicate_succ, List.replicate_succ']
  simp
theorem sT_len (n : Nat) (m : Bool) : (sT n m).length ≤ 2 * n + 1 := by
  unfold sT; cases m <;> simp <;> omega
def kT (n : Nat) (m : Bool) : Int := if m = true ∧ n % 2 = 1 then -1 else 1
theorem deep_few : ∀ n : Fin 31, ∀ m : Bool, (parseV (sT n.val m)).2.2 = 0 ∧ (parseV (sT n.val m)).1.length ≤ 300 ∧ evalV [] (parseV (sT n.val m)).1 = (kT n.val m, 1, 0) := by decide +kernel
theorem deep_many : ∀ n : Fin 33, ∀ m : Bool, parseV (sT (31 + n.val) m) = ([], 30, 6) := by decide +kernel

/-- j ones, with a plus behind each. -/
def rep : Nat → List UInt8
  | 0 => []
  | j + 1 => rep j ++ [49, 43]
theorem rep_len (j : Nat) : (rep j).length = 2 * j := by
  induction j with
  | zero => rfl
  | succ j ih => rw [rep, List.length_append, ih]; simp; omega
/-- A sum of so many bytes. -/
def uT (L : Nat) : List UInt8 := (rep ((L + 1) / 2)).take (L - 1) ++ [49]
def tT (L : Nat) : List UInt8 := if L % 2 = 0 then (uT L).take (L - 1) ++ [50] else uT L
theorem long_all : ∀ l : Fin 32, (parseV (tT (290 + l.val))).2 = (if 300 < 290 + l.val then (0, 6) else (0, 0)) ∧ (uT (290 + l.val)).length = 290 + l.val ∧ (uT (290 + l.val))[288 + l.val]? = some (if l.val % 2 = 0 then 49 else 43) := by decide +kernel
end Go.Proofs.YtkfjmcdfamhiaaaDoor.Ed
