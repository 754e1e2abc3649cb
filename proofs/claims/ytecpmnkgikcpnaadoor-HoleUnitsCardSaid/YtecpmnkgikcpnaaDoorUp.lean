/-
  Plain: units and coordinates (chapter 3): what Grain, Ok, Coord and Digits answer. No program in sight.
-/
import Derived.Test.YtecpmnkgikcpnaaDoorDq
namespace Go.Proofs.YtecpmnkgikcpnaaDoor.Up
open Go.Proofs.YtecpmnkgikcpnaaDoor.Dp
open Go.Lib (decDigits nDigits trimRightB)

/-- How many grains a millionth has. -/
def per (u : Int) : Int := if u = 1 then 10 else if u = 2 then 254 else 0
/-- Is it a format? -/
def fmtOk (u i d : Int) : Bool := (decide (u = 1) || decide (u = 2)) && (decide (0 ≤ i) && decide (i ≤ 6)) && (decide (0 ≤ d) && decide (d ≤ 6)) && decide (0 < i + d)
theorem fmtOk_iff (u i d : Int) : fmtOk u i d = true ↔ (u = 1 ∨ u = 2) ∧ 0 ≤ i ∧ i ≤ 6 ∧ 0 ≤ d ∧ d ≤ 6 ∧ 0 < i + d := by
  simp [fmtOk]; omega
/-- 3.1: the grains of so many millionths. -/
def grainV (n u : Int) : Option Int :=
  if okN n = true ∧ (u = 1 ∨ u = 2) ∧ -536870912 ≤ n * per u ∧ n * per u ≤ 536870912 then some (n * per u) else none
/-- 3.2: the coordinate that a text is. -/
def coordV (l : List UInt8) (u i d : Int) (t : Bool) : Option Int :=
  if fmtOk u i d = true ∧ 1 ≤ (strip l).2.length ∧ ((strip l).2.length : Int) ≤ i + d ∧ nd (strip l).2 = (strip l).2.length then
    let v : Int := (val (strip l).2 * (if t then 10 ^ ((i + d).toNat - (strip l).2.length) else 1) * 10 ^ (6 - d.toNat) : Nat)
    grainV (if (strip l).1 then -v else v) u
  else none
/-- How many grains the last digit is. -/
def lastG (u d : Int) : Int := per u * ((10 ^ (6 - d.toNat) : Nat) : Int)
/-- The digits of a number, for a format of so many. -/
def numL' (v size : Nat) (t : Bool) : List UInt8 :=
  if t then (if trimRightB (pad v size) 48 = [] then [48] else trimRightB (pad v size) 48) else decDigits v
/-- 3.2: the digits that a coordinate has. -/
def digitsV (g u i d : Int) (t : Bool) : Option (List UInt8) :=
  if fmtOk u i d = true ∧ -536870912 ≤ g ∧ g ≤ 536870912 ∧ g % lastG u d = 0 ∧ (g / lastG u d).natAbs < 10 ^ (i + d).toNat then
    some ((if g < 0 then [45] else []) ++ numL' (g / lastG u d).natAbs (i + d).toNat t)
  else none
theorem per_pos {u : Int} (h : u = 1 ∨ u = 2) : 0 < per u := by rcases h with rfl | rfl <;> decide
theorem per_cases {u : Int} (h : u = 1 ∨ u = 2) : per u = 10 ∨ per u = 254 := by rcases h with rfl | rfl <;> simp [per]
theorem pow_le (k : Nat) (h : k ≤ 6) : 10 ^ k ≤ 1000000 := by
  have := Nat.pow_le_pow_right (n := 10) (by decide) h
  simpa using this
theorem pow_le12 (k : Nat) (h : k ≤ 12) : 10 ^ k ≤ 1000000000000 := by
  have := Nat.pow_le_pow_right (n := 10) (by decide) h
  simpa using this
theorem step_pos {u : Int} (h : u = 1 ∨ u = 2) (d : Int) : 0 < lastG u d := by
  unfold lastG
  have h1 := per_pos h
  have h2 : 0 < ((10 ^ (6 - d.toNat) : Nat) : Int) := by have := Nat.pow_pos (n := 6 - d.toNat) (show 0 < 10 by decide); omega
  exact Int.mul_pos h1 h2
end Go.Proofs.YtecpmnkgikcpnaaDoor.Up
