/-
  Plain: the commands of a drill file (chapter 19): a line's command, a text's commands, a command's line. No program in sight.
-/
import Derived.Test.YtecpmnkgikcpnaaDoorDq
namespace Go.Proofs.YtecpmnkgikcpnaaDoor.Xp
open Go.Proofs.YtecpmnkgikcpnaaDoor.Dp
open Go.Lib (decDigits)

/-- A command but for where it stands. -/
structure D where
  k : Int
  n : Int
  on : Bool
  t : List UInt8
  x : List UInt8
  y : List UInt8
  u : List UInt8
  v : List UInt8
  nums : List Int
deriving DecidableEq
def D0 : D := ⟨0, 0, false, [], [], [], [], [], []⟩
def kd (k : Int) : D := { D0 with k := k }
def wayC (c : UInt8) : Bool := c == 43 || c == 45 || c == 46 || isD c
def wspan (s : List UInt8) : Nat := (s.takeWhile wayC).length
def bare : List UInt8 → List UInt8
  | [] => []
  | c :: r => if c = 43 ∨ c = 45 then r else c :: r
/-- Is it a coordinate? -/
def isWay (c : List UInt8) : Bool :=
  if (c.contains 46) = true then (dec c).isSome else (bare c).all isD && (decide (1 ≤ (bare c).length) && decide ((bare c).length ≤ 12))
/-- A letter and a coordinate, or nothing; the rest. -/
def coordV (s : List UInt8) (l : UInt8) : List UInt8 × List UInt8 × Bool := match s with
  | [] => ([], [], true)
  | c :: r => if c = l then (r.take (wspan r), r.drop (wspan r), isWay (r.take (wspan r))) else ([], c :: r, true)
def posV (s : List UInt8) : Option (List UInt8 × List UInt8 × List UInt8) :=
  if (coordV s 88).2.2 = true ∧ (coordV (coordV s 88).2.1 89).2.2 = true ∧ ¬ ((coordV s 88).1 = [] ∧ (coordV (coordV s 88).2.1 89).1 = []) then
    some ((coordV s 88).1, (coordV (coordV s 88).2.1 89).1, (coordV (coordV s 88).2.1 89).2.1) else none
/-- A number from 1 to most without a nought ahead; the rest. -/
def countV (s : List UInt8) (most : Nat) : Option (Nat × List UInt8) :=
  if nd s = 0 ∨ s.headD 0 = 48 ∨ most < val (s.take (nd s)) then none else some (val (s.take (nd s)), s.drop (nd s))
def toolV (s : List UInt8) : Option D :=
  if s = [48] then some (kd 6) else match countV s 99 with
  | none => none
  | some (n, []) => some { kd 6 with n := n }
  | some (n, c :: r) => if c = 67 then (match dec r with
    | none => none
    | some v => some { kd 4 with n := n, nums := [v] }) else none
def againV (s : List UInt8) : Option D := match countV s 9999 with
  | none => none
  | some (n, r) => match posV r with
    | some (x, y, []) => some { kd 12 with n := n, x := x, y := y }
    | _ => none
def placedV (k : Int) (s : List UInt8) : Option D := match posV s with
  | some (x, y, []) => some { kd k with x := x, y := y }
  | _ => none
def moveV (s : List UInt8) : Option D := match s with
  | 71 :: 48 :: 48 :: r => placedV 9 r
  | 71 :: 48 :: 49 :: r => placedV 11 r
  | _ => none
def hitV (s : List UInt8) : Option D := match posV s with
  | none => none
  | some (x, y, []) => some { kd 7 with x := x, y := y }
  | some (x, y, 71 :: 56 :: 53 :: r) => (match posV r with
    | some (u, v, []) => some { kd 8 with x := x, y := y, u := u, v := v }
    | _ => none)
  | some _ => none
def fixed : List (List UInt8 × D) :=
  [([77, 52, 56], kd 2), ([37], kd 5), ([77, 49, 53], { kd 10 with on := true }), ([77, 49, 54], kd 10), ([71, 48, 53], kd 13), ([71, 57, 48], kd 14), ([77, 51, 48], kd 15),
   ([77, 69, 84, 82, 73, 67], { kd 3 with n := 1 }), ([77, 69, 84, 82, 73, 67, 44, 76, 90], { kd 3 with n := 1 }), ([77, 69, 84, 82, 73, 67, 44, 84, 90], { kd 3 with n := 1, on := true }),
   ([73, 78, 67, 72], { kd 3 with n := 2 }), ([73, 78, 67, 72, 44, 76, 90], { kd 3 with n := 2 }), ([73, 78, 67, 72, 44, 84, 90], { kd 3 with n := 2, on := true })]
def otherV (s : List UInt8) : Option D := match s with
  | 59 :: r => some { kd 1 with t := r }
  | 84 :: r => toolV r
  | 82 :: r => againV r
  | 71 :: r => moveV (71 :: r)
  | _ => hitV s
/-- A line's command. -/
def cmdV (s : List UInt8) : Option D := match fixed.lookup s with
  | some d => some d
  | none => otherV s

def okC (c : UInt8) : Bool := decide (32 ≤ c.toNat) && decide (c.toNat ≤ 126)
def lineC (c : UInt8) : Bool := c == 13 || (c == 10 || okC c)
def linesV (s : List UInt8) : Nat := s.count 10 + (if s ≠ [] ∧ s.getLast? ≠ some 10 then 1 else 0)
def upto (s : List UInt8) : List UInt8 := s.takeWhile (· != 10)
def crs (s : List UInt8) : Nat := (s.takeWhile (· == 13)).length
/-- Line after line: what is left, where it begins, the commands so far. -/
def goV : Nat → List UInt8 → Nat → List (Nat × D) → List (Nat × D) × Nat × Nat
  | 0, _, _, acc => (acc, 0, 0)
  | k + 1, r, o, acc =>
    if r = [] then (acc, 0, 0)
    else if crs (upto r) = (upto r).length then goV k (r.drop ((upto r).length + 1)) (o + (upto r).length + 1) acc
    else match cmdV ((upto r).filter (· != 13)) with
      | none => ([], o + crs (upto r), 3)
      | some d => goV k (r.drop ((upto r).length + 1)) (o + (upto r).length + 1) (acc ++ [(o + crs (upto r), d)])
/-- 19.1. -/
def parseX (s : List UInt8) : List (Nat × D) × Nat × Nat :=
  if 1000000 < s.length ∨ 20000 < linesV s then ([], 0, 6)
  else if (s.takeWhile lineC).length < s.length then ([], (s.takeWhile lineC).length, 2)
  else goV s.length s 0 []

/-! ### A command's line -/
def plc (l : UInt8) (c : List UInt8) : List UInt8 := if c = [] then [] else l :: c
def intL (n : Int) : List UInt8 := Lib.itoa n
def lineV (d : D) : List UInt8 :=
  if d.k = 1 then 59 :: d.t else if d.k = 2 then [77, 52, 56]
  else if d.k = 3 then (if d.n ≠ 1 then [73, 78, 67, 72] else [77, 69, 84, 82, 73, 67]) ++ (if d.on then [44, 84, 90] else [])
  else if d.k = 4 then (match d.nums with
    | [v] => 84 :: (intL d.n ++ 67 :: textL v)
    | _ => [])
  else if d.k = 5 then [37] else if d.k = 6 then 84 :: intL d.n
  else if d.k = 7 then plc 88 d.x ++ plc 89 d.y
  else if d.k = 8 then plc 88 d.x ++ plc 89 d.y ++ [71, 56, 53] ++ plc 88 d.u ++ plc 89 d.v
  else if d.k = 9 then [71, 48, 48] ++ plc 88 d.x ++ plc 89 d.y
  else if d.k = 10 then (if d.on then [77, 49, 53] else [77, 49, 54])
  else if d.k = 11 then [71, 48, 49] ++ plc 88 d.x ++ plc 89 d.y
  else if d.k = 12 then 82 :: (intL d.n ++ plc 88 d.x ++ plc 89 d.y)
  else if d.k = 13 then [71, 48, 53] else if d.k = 14 then [71, 57, 48] else if d.k = 15 then [77, 51, 48] else []
/-- A command that can be written. -/
def goodV (d : D) : Bool := decide (lineV d ≠ []) && (lineV d).all okC && decide (cmdV (lineV d) = some d)
def linesOf : List D → List UInt8 → Option (List UInt8)
  | [], b => some b
  | d :: l, b => if goodV d = true then (if 1000000 < (b ++ lineV d ++ [10]).length then none else linesOf l (b ++ lineV d ++ [10])) else none
def textX (l : List D) : Option (List UInt8) := if 20000 < l.length then none else linesOf l []
end Go.Proofs.YtecpmnkgikcpnaaDoor.Xp
