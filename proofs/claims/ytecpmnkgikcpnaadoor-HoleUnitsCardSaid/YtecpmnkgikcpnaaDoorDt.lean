/-
  Plain: the text of a decimal number (2.1), and the reference's digits with noughts ahead. No program in sight.
-/
import Derived.Test.YtecpmnkgikcpnaaDoorDp
import Derived.Lib.ItoaLen
import Derived.Lib.TrimByte
namespace Go.Proofs.YtecpmnkgikcpnaaDoor.Dp
open Go.Lib (dg nDigits decDigits trimRightB)

/-- The last k digits, noughts ahead. -/
def pad (n k : Nat) : List UInt8 := (List.range k).map fun t => dg n (k - 1 - t)
theorem pad_zero (n : Nat) : pad n 0 = [] := rfl
theorem pad_succ (n k : Nat) : pad n (k + 1) = dg n k :: pad n k := by
  unfold pad
  rw [List.range_succ_eq_map, List.map_cons, List.map_map]
  congr 1
  apply List.map_congr_left
  intro t ht
  simp only [Function.comp, Nat.succ_eq_add_one]
  congr 1; omega
theorem pad_length (n k : Nat) : (pad n k).length = k := by simp [pad]
theorem dec_pad (n : Nat) : decDigits n = pad n (nDigits n) := Lib.decDigits_eq n
theorem dg_mod (n j : Nat) : dg n j = UInt8.ofNat (48 + n / 10 ^ j % 10) := rfl
theorem dg_toNat (n j : Nat) : (dg n j).toNat = 48 + n / 10 ^ j % 10 := by
  rw [dg_mod, UInt8.toNat_ofNat']; omega
theorem isD_dg (n j : Nat) : isD (dg n j) = true := by rw [isD_iff, dg_toNat]; omega

/-- How many digits, none of 0. -/
def ndz (n : Nat) : Nat := if n = 0 then 0 else nDigits n
theorem lt_pow_ndz (n : Nat) : n < 10 ^ ndz n := by
  unfold ndz; split
  · subst_vars; simp
  · exact Lib.lt_pow_nDigits n
theorem nDigits_le_of_lt : ∀ (k n : Nat), n < 10 ^ k → 1 ≤ k → nDigits n ≤ k
  | 0, _, _, h => by omega
  | k + 1, n, h, _ => by
    by_cases h10 : n < 10
    · rw [Lib.nDigits_small h10]; omega
    · rw [Lib.nDigits_big h10]
      have hk : 1 ≤ k := by
        apply Classical.byContradiction; intro hn
        obtain rfl : k = 0 := by omega
        simp at h; omega
      have := nDigits_le_of_lt k (n / 10) (by rw [Nat.pow_succ] at h; omega) hk
      omega
theorem ndz_gt {n k : Nat} (h : 0 < n / 10 ^ k) : k < ndz n := by
  apply Classical.byContradiction
  intro hn
  have h1 := lt_pow_ndz n
  have h2 : 10 ^ ndz n ≤ 10 ^ k := Nat.pow_le_pow_right (by decide) (by omega)
  rw [Nat.div_eq_of_lt (by omega)] at h; cases h
theorem ndz_le {n k : Nat} (h : n / 10 ^ k = 0) : ndz n ≤ k := by
  unfold ndz
  split
  · omega
  · rename_i h0
    have hlt : n < 10 ^ k := by
      rcases Nat.div_eq_zero_iff.1 h with h | h
      · have := Nat.pow_pos (n := k) (show 0 < 10 by decide); omega
      · exact h
    apply nDigits_le_of_lt k n hlt
    apply Classical.byContradiction; intro hn
    obtain rfl : k = 0 := by omega
    simp at hlt; omega
/-- The reference's Num. -/
def numL (n least : Nat) : List UInt8 := pad n (max least (ndz n))
theorem numL_one (n : Nat) : numL n 1 = decDigits n := by
  rw [dec_pad]; unfold numL ndz
  split
  · subst_vars; rw [Lib.nDigits_small (by omega)]; rfl
  · have := Lib.nDigits_pos n
    rw [show max 1 (nDigits n) = nDigits n by omega]
theorem numL_of_lt {n k : Nat} (h : n < 10 ^ k) : numL n k = pad n k := by
  unfold numL
  rw [show max k (ndz n) = k from Nat.max_eq_left (ndz_le (Nat.div_eq_of_lt h))]
theorem pad_add (x : Nat) (k : Nat) : ∀ j, j ≤ k → pad (10 ^ k + x) j = pad x j
  | 0, _ => rfl
  | j + 1, h => by
    rw [pad_succ, pad_succ, pad_add x k j (by omega)]
    congr 1
    unfold dg
    congr 2
    have : 10 ^ k = 10 ^ (k - j - 1) * 10 * 10 ^ j := by
      rw [← Nat.pow_succ, ← Nat.pow_add]; congr 1; omega
    rw [this, Nat.add_comm, Nat.add_mul_div_right _ _ (Nat.pow_pos (by decide))]
    omega
theorem nDigits_seven {x : Nat} (h : x < 1000000) : nDigits (1000000 + x) = 7 :=
  Lib.nDigits_unique 6 _ (by omega) (by omega)
theorem rest_pad {x : Nat} (h : x < 1000000) : (decDigits (1000000 + x)).drop 1 = pad x 6 := by
  rw [dec_pad, nDigits_seven h, pad_succ]
  exact pad_add x 6 6 (Nat.le_refl _)

theorem trimRightB_length (l : List UInt8) (c : UInt8) : (trimRightB l c).length ≤ l.length := by
  unfold trimRightB
  rw [List.length_reverse]
  have := (List.dropWhile_suffix (l := l.reverse) (· == c)).length_le
  simpa using this

/-- 2.1: the text of a number. -/
def textL (n : Int) : List UInt8 :=
  if okN n = true then (if n < 0 then [45] else []) ++ decDigits (n.natAbs / 1000000) ++ (if n.natAbs % 1000000 = 0 then [] else 46 :: trimRightB (pad (n.natAbs % 1000000) 6) 48) else []
end Go.Proofs.YtecpmnkgikcpnaaDoor.Dp
