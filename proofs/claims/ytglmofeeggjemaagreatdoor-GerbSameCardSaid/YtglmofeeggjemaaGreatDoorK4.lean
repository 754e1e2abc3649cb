/-
  Several texts in one: Gp, Gq, Gr, Gs.
-/
import Derived.Test.YtglmofeeggjemaaGreatDoorK1
set_option linter.unusedVariables false
namespace Go.Proofs.YtglmofeeggjemaaGreatDoor.Gp
open Go.Proofs.YtglmofeeggjemaaGreatDoor.Dp
open Go.Proofs.YtglmofeeggjemaaGreatDoor.Ep (parseV)

/-! ### Words (14.1) -/
structure Wd where
  a : Nat
  ext : Bool
  first : Bool
  t : List UInt8
deriving DecidableEq
/-- The reader of words. -/
structure Ws where
  words : List Wd
  text : List UInt8
  a : Nat
  group : Bool
  inner : Nat
deriving DecidableEq
def ws0 : Ws := ⟨[], [], 0, false, 0⟩
def endW (s : Ws) : Except Nat Ws :=
  if s.text = [] then .error 2 else .ok { s with words := s.words ++ [⟨s.a, s.group, decide (s.inner = 0), s.text⟩], inner := (if s.group = true then s.inner + 1 else s.inner), text := [] }
def addW (s : Ws) (c : UInt8) : Except Nat Ws := if s.text.length = 10000 then .error 6 else .ok { s with text := s.text ++ [c] }
def takeW (s : Ws) (c : UInt8) (i : Nat) : Except Nat Ws :=
  if c = 13 ∨ c = 10 then .ok s
  else if c.toNat < 32 ∨ 126 < c.toNat then .error 2
  else if c = 42 then endW s
  else if c = 37 then (if s.text ≠ [] ∨ (s.group = true ∧ s.inner = 0) then .error 2 else .ok { s with group := !s.group, inner := 0 })
  else if s.text = [] then (if s.words.length = 20000 then .error 6 else addW { s with a := i } c)
  else addW s c
def goW : List UInt8 → Nat → Ws → Except (Nat × Nat) Ws
  | [], _, s => .ok s
  | c :: r, i, s => match takeW s c i with
    | .error e => .error (i, e)
    | .ok s' => goW r (i + 1) s'
def wordsV (s : List UInt8) : List Wd × Nat × Nat :=
  if 1000000 < s.length then ([], 0, 6) else match goW s 0 ws0 with
    | .error (i, e) => ([], i, e)
    | .ok st => if st.text ≠ [] ∨ st.group = true then ([], s.length, 2) else (st.words, 0, 0)

/-! ### Blocks of a macro (13.1) -/
structure Blk where
  k : Int
  n : Int
  t : List UInt8
  args : List (List (Int × Int))
deriving DecidableEq
def b0 : Blk := ⟨0, 0, [], []⟩
/-- Digits without a nought ahead; the rest. -/
def numberV (s : List UInt8) : Option (List UInt8 × List UInt8) := if nd s = 0 ∨ s.headD 0 = 48 then none else some (s.take (nd s), s.drop (nd s))
def bvarV (s : List UInt8) : Except Nat Blk := match numberV s with
  | none => .error 3
  | some (d, r) => if 2 < d.length ∨ r.headD 0 ≠ 61 then .error 3 else match parseV (r.drop 1) with
    | (l, _, e) => if e ≠ 0 then .error e else .ok ⟨2, val d, [], [l]⟩
def primV (d : List UInt8) : Int := if d = [49] then 1 else if d = [52] then 4 else if d = [55] then 7 else if d = [50, 48] then 20 else if d = [50, 49] then 21 else 0
/-- Split at a byte: what is ahead, what is behind, whether it is there. -/
def cutB (c : UInt8) (s : List UInt8) : List UInt8 × List UInt8 × Bool :=
  if (s.takeWhile (· != c)).length < s.length then (s.takeWhile (· != c), s.drop ((s.takeWhile (· != c)).length + 1), true) else (s, [], false)
def fitsP (n : Int) (k : Nat) : Bool :=
  if n = 1 then decide (k = 4) || decide (k = 5) else if n = 20 then decide (k = 7) else if n = 21 ∨ n = 7 then decide (k = 6) else if n = 4 then decide (k % 2 = 1) && (decide (7 ≤ k) && decide (k ≤ 1100)) else false
/-- The args of a primitive. -/
def argsV : Nat → List UInt8 → List (List (Int × Int)) → Except Nat (List (List (Int × Int)))
  | 0, _, acc => .ok acc
  | f + 1, s, acc => if acc.length = 1100 then .error 6 else match parseV (cutB 44 s).1 with
    | (l, _, e) => if e ≠ 0 then .error e else if (cutB 44 s).2.2 = true then argsV f (cutB 44 s).2.1 (acc ++ [l]) else .ok (acc ++ [l])
def bprimV (s : List UInt8) : Except Nat Blk := match numberV s with
  | none => .error 3
  | some (d, r) => if r.headD 0 ≠ 44 then .error 3 else if primV d = 0 then .error 8 else match argsV (r.length + 1) (r.drop 1) [] with
    | .error e => .error e
    | .ok l => if fitsP (primV d) l.length = true then .ok ⟨3, primV d, [], l⟩ else .error 3
def blockV (s : List UInt8) : Except Nat Blk :=
  if s = [48] then .ok { b0 with k := 1 } else if s.take 2 = [48, 32] then .ok { b0 with k := 1, t := s.drop 2 } else if s.headD 0 = 36 then bvarV (s.drop 1) else bprimV s
def blocksN : List (List UInt8) → Nat → List Blk → Except (Nat × Nat) (List Blk)
  | [], _, acc => .ok acc
  | s :: l, i, acc => match blockV s with
    | .error e => .error (i, e)
    | .ok b => blocksN l (i + 1) (acc ++ [b])
def blocksV (l : List (List UInt8)) : List Blk × Nat × Nat := if 500 < l.length then ([], 0, 6) else match blocksN l 0 [] with
  | .error (i, e) => ([], i, e)
  | .ok b => (b, 0, 0)

/-! ### Commands (15.1) -/
structure C where
  k : Int
  n : Int
  m : Int
  on : Bool
  t : List UInt8
  x : List UInt8
  y : List UInt8
  i : List UInt8
  j : List UInt8
  nums : List Int
  blocks : List Blk
deriving DecidableEq
def c0 : C := ⟨0, 0, 0, false, [], [], [], [], [], [], []⟩
def kc (k : Int) : C := { c0 with k := k }
def countG (t : List UInt8) : Option Nat := if t.length < 1 ∨ 4 < t.length ∨ nd t ≠ t.length then none else some (val t)
def codeV (t : List UInt8) : Option Nat := if t.length < 2 ∨ t.headD 0 = 48 then none else countG t
def headN (c : UInt8) : Bool := (decide (97 ≤ c.toNat) && decide (c.toNat ≤ 122)) || (decide (65 ≤ c.toNat) && decide (c.toNat ≤ 90)) || c == 95 || c == 46 || c == 36
def tailN (c : UInt8) : Bool := isD c || c == 45
def nameV (t : List UInt8) : Bool := decide (1 ≤ t.length) && (decide (t.length ≤ 100) && (headN (t.headD 0) && (t.drop 1).all fun c => headN c || tailN c))
/-- A coordinate behind a letter; the rest. -/
def signN (r : List UInt8) : Nat := if r ≠ [] ∧ (r.headD 0 = 43 ∨ r.headD 0 = 45) then 1 else 0
def coordG (t : List UInt8) (c : UInt8) : List UInt8 × List UInt8 :=
  if t ≠ [] ∧ t.headD 0 = c then (
    if nd ((t.drop 1).drop (signN (t.drop 1))) < 1 ∨ 12 < nd ((t.drop 1).drop (signN (t.drop 1))) then ([], t)
    else ((t.drop 1).take (signN (t.drop 1) + nd ((t.drop 1).drop (signN (t.drop 1)))), (t.drop 1).drop (signN (t.drop 1) + nd ((t.drop 1).drop (signN (t.drop 1))))))
  else ([], t)
def opN (t : List UInt8) : Int := if t = [68, 48, 49] then 1 else if t = [68, 48, 50] then 2 else if t = [68, 48, 51] then 3 else 0
def opV (t : List UInt8) : Option C :=
  let x := coordG t 88
  let y := coordG x.2 89
  let i := coordG y.2 73
  let j := coordG i.2 74
  if opN j.2 = 0 then none else some { kc 7 with n := opN j.2, x := x.1, y := y.1, i := i.1, j := j.1 }
/-- What follows a mode: an operation, or a pick without one. -/
def restV (t : List UInt8) (cs : List C) : Except Nat (List C) :=
  match (if t ≠ [] ∧ t.headD 0 = 68 ∧ cs = [] then codeV (t.drop 1) else none) with
  | some n => .ok [{ kc 6 with n := n }]
  | none => match opV t with
    | none => .error 3
    | some c => .ok (cs ++ [c])
def modeV (t : List UInt8) (n : Int) : Except Nat (List C) := if t.drop 3 = [] then .ok [{ kc 2 with n := n }] else restV (t.drop 3) [{ kc 2 with n := n }]
def plainV (t : List UInt8) : Except Nat (List C) :=
  if t = [71, 51, 54] then .ok [{ kc 3 with on := true }]
  else if t = [71, 51, 55] then .ok [kc 3]
  else if t = [71, 55, 52] then .error 8
  else if t = [71, 55, 53] then .ok [kc 4]
  else if t = [77, 48, 50] then .ok [kc 5]
  else if t.take 3 = [71, 48, 52] then .ok [{ kc 1 with t := t.drop 3 }]
  else if t.take 3 = [71, 48, 49] then modeV t 1
  else if t.take 3 = [71, 48, 50] then modeV t 2
  else if t.take 3 = [71, 48, 51] then modeV t 3
  else restV t []
def fixedG : List (List UInt8 × C) :=
  [([77, 79, 77, 77], { kc 9 with n := 1 }), ([77, 79, 73, 78], { kc 9 with n := 2 }), ([65, 66], kc 12), ([83, 82], kc 14), ([76, 80, 68], { kc 15 with on := true }), ([76, 80, 67], kc 15), ([76, 77, 78], kc 16), ([76, 77, 88], { kc 16 with n := 1 }), ([76, 77, 89], { kc 16 with n := 2 }), ([76, 77, 88, 89], { kc 16 with n := 3 })]
def formatV (t : List UInt8) : Option C :=
  if t.length ≠ 8 ∨ (t.headD 0 ≠ 76 ∧ t.headD 0 ≠ 84) ∨ (t.drop 1).take 2 ≠ [65, 88] ∨ nd (t.drop 3) ≠ 2 ∨ (t.drop 5).headD 0 ≠ 89 ∨ t.drop 6 ≠ (t.drop 3).take 2 then none
  else some { kc 8 with on := decide (t.headD 0 = 84), n := (((t.drop 3).headD 0).toNat : Int) - 48, m := (((t.drop 4).headD 0).toNat : Int) - 48 }
/-- The numbers of an aperture. -/
def numsV : Nat → List UInt8 → List Int → Option (List Int)
  | 0, _, acc => some acc
  | f + 1, s, acc => match dec (cutB 88 s).1 with
    | none => none
    | some v => if (cutB 88 s).2.2 = true then numsV f (cutB 88 s).2.1 (acc ++ [v]) else some (acc ++ [v])
def aperV (t : List UInt8) : Option C :=
  if t.headD 0 ≠ 68 then none else match countA (t.drop 1) with
    | none => none
    | some (n, r) => if nameV (cutB 44 r).1 = false then none else if (cutB 44 r).2.2 = false then some { kc 10 with n := n, t := (cutB 44 r).1 } else
      (match numsV (r.length + 1) (cutB 44 r).2.1 [] with
        | none => none
        | some l => some { kc 10 with n := n, t := (cutB 44 r).1, nums := l })
where countA (r : List UInt8) : Option (Nat × List UInt8) := match codeV (r.take (nd r)) with
        | none => none
        | some n => some (n, r.drop (nd r))
def blkV (t : List UInt8) : Option C := if t.headD 0 ≠ 68 then none else match codeV (t.drop 1) with
  | none => none
  | some n => some { kc 11 with n := n }
def stepG (t : List UInt8) : Option C :=
  if t.headD 0 ≠ 88 then none else
  match countG (cutB 89 (t.drop 1)).1, countG (cutB 73 (cutB 89 (t.drop 1)).2.1).1, dec (cutB 74 (cutB 73 (cutB 89 (t.drop 1)).2.1).2.1).1, dec (cutB 74 (cutB 73 (cutB 89 (t.drop 1)).2.1).2.1).2.1 with
  | some n, some m, some x, some y => some { kc 13 with n := n, m := m, nums := [x, y] }
  | _, _, _, _ => none
def turnV (t : List UInt8) : Option C := match dec t with
  | none => none
  | some v => some { kc 17 with nums := [v] }
def twoV (t : List UInt8) : Option C :=
  if t.take 2 = [70, 83] then formatV (t.drop 2) else if t.take 2 = [65, 68] then aperV (t.drop 2) else if t.take 2 = [65, 66] then blkV (t.drop 2) else if t.take 2 = [83, 82] then stepG (t.drop 2) else if t.take 2 = [76, 82] then turnV (t.drop 2)
  else if t.take 2 = [84, 70] ∨ t.take 2 = [84, 65] ∨ t.take 2 = [84, 79] ∨ t.take 2 = [84, 68] then some { kc 18 with t := t } else none
def extV (t : List UInt8) : Except Nat C :=
  if t.take 2 = [76, 83] then .error 8 else match fixedG.lookup t with
    | some c => .ok c
    | none => match twoV t with
      | none => .error 3
      | some c => .ok c
/-- The command of a group, or an error and where. -/
def groupV (w : Wd) (ws : List Wd) : Except (Nat × Nat) (List C) :=
  if w.t.take 2 ≠ [65, 77] then (match extV w.t with
    | .error e => .error (w.a, e)
    | .ok c => match ws with
      | [] => .ok [c]
      | x :: _ => .error (x.a, 3))
  else if nameV (w.t.drop 2) = false then .error (w.a, 3)
  else match blocksV (ws.map Wd.t) with
    | (b, i, e) => if e ≠ 0 then .error (((ws.map Wd.a)[i]?).getD 0, e) else .ok [{ kc 19 with t := w.t.drop 2, blocks := b }]
def cmdsW (w : Wd) (ws : List Wd) : Except (Nat × Nat) (List C) :=
  if w.ext = true then groupV w ws else match plainV w.t with
    | .error e => .error (w.a, e)
    | .ok l => .ok l
def goG : Nat → List Wd → List (Nat × C) → Except (Nat × Nat) (List (Nat × C))
  | 0, _, acc => .ok acc
  | _ + 1, [], acc => .ok acc
  | f + 1, w :: ws, acc => match cmdsW w (ws.takeWhile fun x => !x.first) with
    | .error e => .error e
    | .ok l => goG f (ws.dropWhile fun x => !x.first) (acc ++ l.map fun c => (w.a, c))
/-- 15.1. -/
def parseG (s : List UInt8) : List (Nat × C) × Nat × Nat := match wordsV s with
  | (ws, i, e) => if e ≠ 0 then ([], i, e) else match goG ws.length ws [] with
    | .error (i, e) => ([], i, e)
    | .ok l => (l, 0, 0)
end Go.Proofs.YtglmofeeggjemaaGreatDoor.Gp
namespace Go.Proofs.YtglmofeeggjemaaGreatDoor.Gp
open Go.Proofs.YtglmofeeggjemaaGreatDoor.Dp

/-! ### The reader of words, piece by piece -/
theorem goW_cons (c : UInt8) (r : List UInt8) (i : Nat) (s : Ws) : goW (c :: r) i s = match takeW s c i with | .error e => .error (i, e) | .ok s' => goW r (i + 1) s' := rfl
theorem go_append : ∀ (s t : List UInt8) (i : Nat) (st : Ws), goW (s ++ t) i st = match goW s i st with | .error x => .error x | .ok st' => goW t (i + s.length) st'
  | [], t, i, st => by simp [goW]
  | c :: s, t, i, st => by
    rw [List.cons_append, goW_cons, goW_cons]
    cases h : takeW st c i with
    | error e => rfl
    | ok st' =>
      simp only []
      rw [go_append s t (i + 1) st', List.length_cons, show i + 1 + s.length = i + (s.length + 1) by omega]
def base (ws : List Wd) (a : Nat) : Ws := ⟨ws, [], a, false, 0⟩
theorem base0 : ws0 = base [] 0 := rfl
/-- A text behind which a word may begin again. -/
def Closed (s : List UInt8) : Prop := ∀ i a ws, ws.length + s.count 42 < 20000 → (∃ x, goW s i (base ws a) = .error x) ∨ ∃ ws' a', goW s i (base ws a) = .ok (base ws' a') ∧ ws'.length ≤ ws.length + s.count 42
theorem Closed.nil : Closed [] := fun i a ws _ => .inr ⟨ws, a, rfl, Nat.le_refl _⟩
theorem Closed.append {s t : List UInt8} (hs : Closed s) (ht : Closed t) : Closed (s ++ t) := by
  intro i a ws h
  rw [List.count_append] at h
  rw [go_append]
  rcases hs i a ws (by omega) with ⟨x, e⟩ | ⟨ws1, a1, e, h1⟩
  · rw [e]; exact .inl ⟨x, rfl⟩
  · rw [e]
    simp only []
    rcases ht (i + s.length) a1 ws1 (by omega) with ⟨x, e2⟩ | ⟨ws2, a2, e2, h2⟩
    · exact .inl ⟨x, e2⟩
    · exact .inr ⟨ws2, a2, e2, by rw [List.count_append]; omega⟩
/-- A byte of a word. -/
def wc (c : UInt8) : Bool := decide (32 ≤ c.toNat) && (decide (c.toNat ≤ 126) && (c != 42 && c != 37))
theorem take_wc {c : UInt8} (h : wc c = true) (st : Ws) (i : Nat) : takeW st c i = if st.text = [] then (if st.words.length = 20000 then .error 6 else addW { st with a := i } c) else addW st c := by
  simp only [wc, Bool.and_eq_true, decide_eq_true_eq, bne_iff_ne] at h
  unfold takeW
  rw [if_neg (by rintro (rfl | rfl) <;> simp at h), if_neg (by omega), if_neg h.2.2.1, if_neg h.2.2.2]
theorem go_more : ∀ (p : List UInt8) (i : Nat) (st : Ws), (∀ c ∈ p, wc c = true) → st.text ≠ [] → st.text.length + p.length ≤ 10000 → goW p i st = .ok { st with text := st.text ++ p }
  | [], i, st, _, _, _ => by simp [goW]
  | c :: p, i, st, h, hn, hl => by
    simp only [List.length_cons] at hl
    rw [goW_cons, take_wc (h c (by simp)), if_neg hn]
    unfold addW
    rw [if_neg (by omega)]
    simp only []
    rw [go_more p (i + 1) _ (fun x hx => h x (by simp [hx])) (by simp) (by simp; omega)]
    simp
theorem go_text {p : List UInt8} (h : ∀ c ∈ p, wc c = true) (hn : p ≠ []) (hl : p.length ≤ 10000) (i a : Nat) (ws : List Wd) (g : Bool) (n : Nat) (hw : ws.length < 20000) : goW p i ⟨ws, [], a, g, n⟩ = .ok ⟨ws, p, i, g, n⟩ := by
  cases p with
  | nil => exact absurd rfl hn
  | cons c p =>
    simp only [List.length_cons] at hl
    rw [goW_cons, take_wc (h c (by simp)), if_pos rfl, if_neg (by show ¬ ws.length = 20000; omega)]
    unfold addW
    rw [if_neg (by simp)]
    simp only [List.nil_append]
    rw [go_more p (i + 1) _ (fun x hx => h x (by simp [hx])) (by simp) (by simp; omega)]
    simp
/-- A word and its end. -/
theorem go_word {p : List UInt8} (h : ∀ c ∈ p, wc c = true) (hn : p ≠ []) (hl : p.length ≤ 10000) (i a : Nat) (ws : List Wd) (g : Bool) (n : Nat) (hw : ws.length < 20000) :
    goW (p ++ [42]) i ⟨ws, [], a, g, n⟩ = .ok ⟨ws ++ [⟨i, g, decide (n = 0), p⟩], [], i, g, if g = true then n + 1 else n⟩ := by
  rw [go_append, go_text h hn hl i a ws g n hw]
  simp only []
  rw [goW_cons]
  unfold takeW
  rw [if_neg (by decide), if_neg (by decide), if_pos rfl]
  unfold endW
  rw [if_neg hn]
  rfl
theorem go_line (i : Nat) (st : Ws) : goW [10] i st = .ok st := by
  rw [goW_cons]
  unfold takeW
  rw [if_pos (.inr rfl)]
  rfl
theorem go_pct {st : Ws} (h1 : st.text = []) (h2 : ¬ (st.group = true ∧ st.inner = 0)) (i : Nat) : goW [37] i st = .ok { st with group := !st.group, inner := 0 } := by
  rw [goW_cons]
  unfold takeW
  rw [if_neg (by decide), if_neg (by decide), if_neg (by decide), if_pos rfl, if_neg (by rintro (e | e); exact e h1; exact h2 e)]
  rfl
/-- A word's line. -/
theorem closed_word {p : List UInt8} (h : ∀ c ∈ p, wc c = true) (hn : p ≠ []) (hl : p.length ≤ 10000) : Closed (p ++ [42, 10]) := by
  intro i a ws hw
  rw [List.count_append] at hw
  have hw2 : ([42, 10] : List UInt8).count 42 = 1 := rfl
  refine .inr ⟨ws ++ [⟨i, false, true, p⟩], i, ?_, by rw [List.count_append, hw2]; simp⟩
  rw [show p ++ [42, 10] = (p ++ [42]) ++ [10] by simp, go_append]
  unfold base
  rw [go_word h hn hl i a ws false 0 (by omega)]
  simp only []
  exact go_line _ _
theorem closed_star : Closed [42, 10] := fun i a ws _ => .inl ⟨(i, 2), rfl⟩
/-- Words of one group. -/
def inside (ps : List (List UInt8)) : List UInt8 := (ps.map fun p => p ++ [42, 10]).flatten
theorem count_wc {p : List UInt8} (h : ∀ c ∈ p, wc c = true) : p.count 42 = 0 := List.count_eq_zero.2 (fun hc => absurd (h 42 hc) (by decide))
theorem inside_cons (p : List UInt8) (ps : List (List UInt8)) : inside (p :: ps) = (p ++ [42]) ++ ([10] ++ inside ps) := by simp [inside]
theorem count_inside : ∀ (ps : List (List UInt8)), (∀ p ∈ ps, (∀ c ∈ p, wc c = true) ∧ p ≠ [] ∧ p.length ≤ 10000) → (inside ps).count 42 = ps.length
  | [], _ => rfl
  | p :: ps, h => by
    rw [inside_cons, List.count_append, List.count_append, List.count_append, count_wc (h p (by simp)).1, count_inside ps (fun x hx => h x (by simp [hx])), List.length_cons]
    show 0 + 1 + (0 + ps.length) = _
    omega
theorem go_inside : ∀ (ps : List (List UInt8)) (i a : Nat) (ws : List Wd) (n : Nat), (∀ p ∈ ps, (∀ c ∈ p, wc c = true) ∧ p ≠ [] ∧ p.length ≤ 10000) → ws.length + ps.length < 20000 →
    ∃ ws' a', goW (inside ps) i ⟨ws, [], a, true, n⟩ = .ok ⟨ws', [], a', true, n + ps.length⟩ ∧ ws'.length ≤ ws.length + ps.length
  | [], i, a, ws, n, _, _ => ⟨ws, a, rfl, by simp⟩
  | p :: ps, i, a, ws, n, h, hl => by
    obtain ⟨h1, h2, h3⟩ := h p (by simp)
    simp only [List.length_cons] at hl
    rw [inside_cons, go_append, go_word h1 h2 h3 i a ws true n (by omega)]
    simp only [if_true]
    rw [go_append, go_line]
    simp only []
    obtain ⟨ws', a', e2, h4⟩ := go_inside ps (i + (p ++ [42]).length + ([10] : List UInt8).length) i (ws ++ [⟨i, true, decide (n = 0), p⟩]) (n + 1) (fun x hx => h x (by simp [hx])) (by simp; omega)
    refine ⟨ws', a', ?_, by simp at h4 ⊢; omega⟩
    refine e2.trans ?_
    rw [List.length_cons, show n + 1 + ps.length = n + (ps.length + 1) by omega]
theorem closed_group {p : List UInt8} (ps : List (List UInt8)) (h : ∀ c ∈ p, wc c = true) (hn : p ≠ []) (hl : p.length ≤ 10000) (h2 : ∀ p ∈ ps, (∀ c ∈ p, wc c = true) ∧ p ≠ [] ∧ p.length ≤ 10000) (nl : List UInt8) (hnl : nl = [] ∨ nl = [10]) :
    Closed (37 :: (p ++ 42 :: (nl ++ (inside ps ++ [37, 10])))) := by
  intro i a ws hw
  have hcn : nl.count 42 = 0 := by rcases hnl with rfl | rfl <;> rfl
  have hct : (37 :: (p ++ 42 :: (nl ++ (inside ps ++ [37, 10])))).count 42 = ps.length + 1 := by
    rw [List.count_cons_of_ne (by decide), List.count_append, List.count_cons_self, List.count_append, List.count_append, count_wc h, hcn, count_inside ps h2]
    show 0 + (0 + (ps.length + 0) + 1) = _
    omega
  rw [hct] at hw ⊢
  have e : 37 :: (p ++ 42 :: (nl ++ (inside ps ++ [37, 10]))) = [37] ++ ((p ++ [42]) ++ (nl ++ (inside ps ++ ([37] ++ [10])))) := by simp
  have hnlg : ∀ j st, goW nl j st = .ok st := by
    rcases hnl with rfl | rfl
    · exact fun _ _ => rfl
    · exact go_line
  obtain ⟨ws', a', e2, h4⟩ := go_inside ps (i + ([37] : List UInt8).length + (p ++ [42]).length + nl.length) (i + ([37] : List UInt8).length) (ws ++ [⟨i + ([37] : List UInt8).length, true, true, p⟩]) 1 h2 (by simp; omega)
  refine .inr ⟨ws', a', ?_, by simp at h4; omega⟩
  rw [e, go_append, go_pct rfl (by rintro ⟨e, _⟩; cases e)]
  simp only []
  rw [go_append, show ({ base ws a with group := !(base ws a).group, inner := 0 } : Ws) = ⟨ws, [], a, true, 0⟩ from rfl, go_word h hn hl _ a ws true 0 (by omega)]
  simp only [if_true]
  rw [go_append, hnlg]
  simp only []
  rw [go_append]
  rw [show (decide True) = true from rfl, Nat.zero_add, e2]
  simp only []
  rw [go_append, go_pct rfl (by rintro ⟨_, e⟩; simp at e)]
  simp only []
  rw [go_line]
  rfl
end Go.Proofs.YtglmofeeggjemaaGreatDoor.Gp
namespace Go.Proofs.YtglmofeeggjemaaGreatDoor.Gp
open Go.Proofs.YtglmofeeggjemaaGreatDoor.Dp
open Go.Proofs.YtglmofeeggjemaaGreatDoor.Ep (parseV)

/-! ### Words, moved -/
def sh (d : Nat) (w : Wd) : Wd := { w with a := w.a + d }
structure Rel (d : Nat) (pre : List Wd) (s s' : Ws) : Prop where
  w : s'.words = pre ++ s.words.map (sh d)
  t : s'.text = s.text
  g : s'.group = s.group
  n : s'.inner = s.inner
  a : s.text ≠ [] → s'.a = s.a + d
def RelE (d : Nat) (pre : List Wd) (r r' : Except Nat Ws) : Prop := match r with
  | .error e => r' = .error e
  | .ok t => ∃ t', r' = .ok t' ∧ Rel d pre t t'
theorem add_rel {d : Nat} {pre : List Wd} {s s' : Ws} (h : Rel d pre s s') (ha : s'.a = s.a + d) (c : UInt8) : RelE d pre (addW s c) (addW s' c) := by
  unfold addW
  rw [h.t]
  by_cases hl : s.text.length = 10000
  · rw [if_pos hl, if_pos hl]; rfl
  · rw [if_neg hl, if_neg hl]
    refine Exists.intro _ (And.intro rfl ?_)
    exact ⟨h.w, rfl, h.g, h.n, fun _ => ha⟩
theorem end_rel {d : Nat} {pre : List Wd} {s s' : Ws} (h : Rel d pre s s') : RelE d pre (endW s) (endW s') := by
  unfold endW
  rw [h.t]
  by_cases ht : s.text = []
  · rw [if_pos ht, if_pos ht]; rfl
  · rw [if_neg ht, if_neg ht]
    refine Exists.intro _ (And.intro rfl ?_)
    refine ⟨?_, rfl, h.g, ?_, fun h => absurd rfl h⟩
    · show s'.words ++ [(⟨s'.a, s'.group, decide (s'.inner = 0), s.text⟩ : Wd)] = pre ++ (s.words ++ [(⟨s.a, s.group, decide (s.inner = 0), s.text⟩ : Wd)]).map (sh d)
      rw [h.w, h.g, h.n, h.a ht]
      simp [sh]
    · show (if s'.group = true then s'.inner + 1 else s'.inner) = (if s.group = true then s.inner + 1 else s.inner)
      rw [h.g, h.n]
theorem take_rel {d : Nat} {pre : List Wd} {s s' : Ws} (h : Rel d pre s s') (hl : pre.length + s.words.length < 20000) (c : UInt8) (i : Nat) : RelE d pre (takeW s c i) (takeW s' c (i + d)) := by
  unfold takeW
  by_cases h1 : c = 13 ∨ c = 10
  · rw [if_pos h1, if_pos h1]; exact ⟨_, rfl, h⟩
  rw [if_neg h1, if_neg h1]
  by_cases h2 : c.toNat < 32 ∨ 126 < c.toNat
  · rw [if_pos h2, if_pos h2]; rfl
  rw [if_neg h2, if_neg h2]
  by_cases h3 : c = 42
  · rw [if_pos h3, if_pos h3]; exact end_rel h
  rw [if_neg h3, if_neg h3]
  by_cases h4 : c = 37
  · rw [if_pos h4, if_pos h4, h.t, h.g, h.n]
    by_cases h5 : s.text ≠ [] ∨ s.group = true ∧ s.inner = 0
    · rw [if_pos h5, if_pos h5]; rfl
    · rw [if_neg h5, if_neg h5]
      refine Exists.intro _ (And.intro rfl ?_)
      exact ⟨h.w, rfl, rfl, rfl, h.a⟩
  rw [if_neg h4, if_neg h4, h.t]
  have hw : s'.words.length = pre.length + s.words.length := by rw [h.w]; simp
  by_cases h6 : s.text = []
  · rw [if_pos h6, if_pos h6, if_neg (by omega), if_neg (by omega)]
    exact add_rel (s := { s with a := i }) (s' := ⟨s'.words, s.text, i + d, s'.group, s'.inner⟩) ⟨h.w, rfl, h.g, h.n, fun _ => rfl⟩ rfl c
  · rw [if_neg h6, if_neg h6]
    exact add_rel h (h.a h6) c
theorem add_words {s t : Ws} {c : UInt8} (h : addW s c = .ok t) : t.words.length ≤ s.words.length + 1 := by
  unfold addW at h
  split at h
  · cases h
  · injection h with h; rw [← h]; exact Nat.le_succ _
theorem take_words {s t : Ws} {c : UInt8} {i : Nat} (h : takeW s c i = .ok t) : t.words.length ≤ s.words.length + 1 := by
  unfold takeW at h
  split at h
  · injection h with h; rw [← h]; omega
  · split at h
    · cases h
    · split at h
      · unfold endW at h
        split at h
        · cases h
        · injection h with h; rw [← h]; simp
      · split at h
        · split at h
          · cases h
          · injection h with h; rw [← h]; exact Nat.le_succ _
        · split at h
          · split at h
            · cases h
            · exact add_words (s := { s with a := i }) h
          · exact add_words h
theorem count_le (c : UInt8) (r : List UInt8) : (c :: r).count 42 = r.count 42 + (if c = 42 then 1 else 0) := by
  rw [List.count_cons]
  by_cases h : c = 42
  · subst h; rfl
  · rw [if_neg h, if_neg (by simpa using h)]
theorem add_words0 {s t : Ws} {c : UInt8} (h : addW s c = .ok t) : t.words = s.words := by
  unfold addW at h
  split at h
  · cases h
  · injection h with h; rw [← h]
theorem take_words' {s t : Ws} {c : UInt8} {i : Nat} (h : takeW s c i = .ok t) : t.words.length ≤ s.words.length + (if c = 42 then 1 else 0) := by
  by_cases hc : c = 42
  · rw [if_pos hc]; exact take_words h
  rw [if_neg hc]
  unfold takeW at h
  rw [if_neg hc] at h
  split at h
  · injection h with h; rw [← h]; exact Nat.le_refl _
  · split at h
    · cases h
    · split at h
      · split at h
        · cases h
        · injection h with h; rw [← h]; exact Nat.le_refl _
      · split at h
        · split at h
          · cases h
          · rw [add_words0 h]; exact Nat.le_refl _
        · rw [add_words0 h]; exact Nat.le_refl _
theorem go_rel {d : Nat} {pre : List Wd} : ∀ (r : List UInt8) (i : Nat) (s s' : Ws), Rel d pre s s' → pre.length + s.words.length + r.count 42 < 20000 →
    (∀ j e, goW r i s = .error (j, e) → goW r (i + d) s' = .error (j + d, e)) ∧ (∀ t, goW r i s = .ok t → ∃ t', goW r (i + d) s' = .ok t' ∧ Rel d pre t t')
  | [], i, s, s', h, hl => by
    refine ⟨fun j e he => (by cases he), fun t ht => ?_⟩
    injection ht with ht
    subst ht
    exact ⟨s', rfl, h⟩
  | c :: r, i, s, s', h, hl => by
    have hcl := count_le c r
    have ht := take_rel h (by omega) c i
    rw [goW_cons, goW_cons]
    cases hc : takeW s c i with
    | error e =>
      rw [hc] at ht
      have ht' : takeW s' c (i + d) = .error e := ht
      rw [ht']
      refine ⟨fun j e' he => ?_, fun t he => (by cases he)⟩
      simp only [Except.error.injEq, Prod.mk.injEq] at he ⊢
      omega
    | ok t =>
      rw [hc] at ht
      obtain ⟨t', e', hr⟩ := ht
      rw [e']
      have hw := take_words' hc
      have ih := go_rel r (i + 1) t t' hr (by omega)
      rw [show i + 1 + d = i + d + 1 by omega] at ih
      exact ih
/-! ### Each row of words begins one -/
def Heads (s : Ws) : Prop := (s.words = [] → s.inner = 0) ∧ ∀ w ∈ s.words.head?, w.first = true
theorem add_heads {s t : Ws} {c : UInt8} (h : addW s c = .ok t) (hs : Heads s) : Heads t := by
  unfold addW at h
  split at h
  · cases h
  · injection h with h; rw [← h]; exact hs
theorem take_heads {s t : Ws} {c : UInt8} {i : Nat} (h : takeW s c i = .ok t) (hs : Heads s) : Heads t := by
  unfold takeW at h
  split at h
  · injection h with h; rw [← h]; exact hs
  · split at h
    · cases h
    · split at h
      · unfold endW at h
        split at h
        · cases h
        · injection h with h
          rw [← h]
          refine ⟨fun e => by simp at e, fun w hw => ?_⟩
          cases hq : s.words with
          | nil =>
            rw [hq] at hw
            simp at hw
            rw [← hw]
            simp [hs.1 hq]
          | cons x l =>
            rw [hq] at hw
            simp at hw
            exact hs.2 w (by rw [hq]; simp [hw])
      · split at h
        · split at h
          · cases h
          · injection h with h; rw [← h]; exact ⟨fun _ => rfl, hs.2⟩
        · split at h
          · split at h
            · cases h
            · exact add_heads h hs
          · exact add_heads h hs
theorem go_heads : ∀ (r : List UInt8) (i : Nat) (s t : Ws), goW r i s = .ok t → Heads s → Heads t
  | [], i, s, t, h, hs => by injection h with h; rw [← h]; exact hs
  | c :: r, i, s, t, h, hs => by
    rw [goW_cons] at h
    cases hc : takeW s c i with
    | error e => rw [hc] at h; cases h
    | ok t1 =>
      rw [hc] at h
      exact go_heads r (i + 1) t1 t h (take_heads hc hs)
theorem heads0 : Heads ws0 := ⟨fun _ => rfl, fun w h => by cases h⟩

/-! ### Commands, moved -/
def shP (d : Nat) (x : Nat × C) : Nat × C := (x.1 + d, x.2)
def shE (d : Nat) {α : Type} : Except (Nat × Nat) α → Except (Nat × Nat) α
  | .error (i, e) => .error (i + d, e)
  | .ok l => .ok l
theorem group_sh (d : Nat) (w : Wd) (ws : List Wd) : groupV (sh d w) (ws.map (sh d)) = shE d (groupV w ws) ∨ ∃ i e, blocksV (ws.map Wd.t) = ([], i, e) ∧ e ≠ 0 ∧ ws[i]? = none := by
  unfold groupV
  have ht : (sh d w).t = w.t := rfl
  have ha : (sh d w).a = w.a + d := rfl
  have hm : (ws.map (sh d)).map Wd.t = ws.map Wd.t := by simp [sh, Function.comp]
  rw [ht, ha, hm]
  by_cases h1 : w.t.take 2 ≠ [65, 77]
  · rw [if_pos h1, if_pos h1]
    refine .inl ?_
    cases extV w.t with
    | error e => rfl
    | ok c =>
      cases ws with
      | nil => rfl
      | cons x l => rfl
  · rw [if_neg h1, if_neg h1]
    by_cases h2 : nameV (w.t.drop 2) = false
    · rw [if_pos h2, if_pos h2]; exact .inl rfl
    · rw [if_neg h2, if_neg h2]
      cases hb : blocksV (ws.map Wd.t) with
      | mk b ie =>
        obtain ⟨i, e⟩ := ie
        simp only []
        by_cases he : e ≠ 0
        · rw [if_pos he, if_pos he]
          cases hw : ws[i]? with
          | none =>
            refine .inr ⟨i, e, ?_, he, hw⟩
            rw [blocks_err hb he]
          | some x =>
            refine .inl ?_
            simp [hw, sh, shE]
        · rw [if_neg he, if_neg he]; exact .inl rfl
where blocks_err {l : List (List UInt8)} {b : List Blk} {i e : Nat} (h : blocksV l = (b, i, e)) (he : e ≠ 0) : (b, i, e) = ([], i, e) := by
        unfold blocksV at h
        split at h
        · simp only [Prod.mk.injEq] at h; rw [← h.1]
        · split at h
          · simp only [Prod.mk.injEq] at h; rw [← h.1]
          · simp only [Prod.mk.injEq] at h; exact absurd h.2.2.symm he
end Go.Proofs.YtglmofeeggjemaaGreatDoor.Gp
namespace Go.Proofs.YtglmofeeggjemaaGreatDoor.Gp
open Go.Proofs.YtglmofeeggjemaaGreatDoor.Dp
open Go.Proofs.YtglmofeeggjemaaGreatDoor.Ep (parseV St)

/-! ### No error of a command is one of words -/
theorem n02 : (0 : Nat) ≠ 2 := by decide
theorem n32 : (3 : Nat) ≠ 2 := by decide
theorem n62 : (6 : Nat) ≠ 2 := by decide
def Er (f : St → St) : Prop := ∀ st, st.e ≠ 2 → (f st).e ≠ 2
theorem er_put {st : St} (k n : Int) (h : st.e ≠ 2) : (Ep.put st k n).e ≠ 2 := by
  unfold Ep.put
  split
  · exact n02
  · exact h
theorem er_var : Er Ep.varV := by
  intro st h
  unfold Ep.varV
  split
  · exact n32
  · exact n02
theorem er_num : Er Ep.numV := by
  intro st h
  unfold Ep.numV
  split
  · exact n32
  · exact n02
theorem er_leaf : Er Ep.leafV := by
  intro st h
  unfold Ep.leafV
  split
  · exact er_var st h
  · split
    · exact er_num st h
    · exact n32
theorem er_loop {op : UInt8 → Option Nat} {f : St → St} (hf : Er f) : ∀ k, Er (Ep.loopV op f k)
  | 0, st, h => h
  | k + 1, st, h => by
    unfold Ep.loopV
    split
    · split
      · exact h
      · exact er_loop hf k _ (er_put _ _ (hf _ n02))
    · exact h
theorem er_prod {f : St → St} (hf : Er f) : Er (Ep.prodV f) := fun st h => er_loop hf _ _ (hf _ h)
theorem er_sum {f : St → St} (hf : Er f) : Er (Ep.sumV f) := fun st h => er_loop (er_prod hf) _ _ (er_prod hf _ h)
theorem er_shut : Er Ep.shutV := by
  intro st h
  unfold Ep.shutV
  split
  · split
    · exact n02
    · exact n32
  · exact h
theorem er_inner {f : St → St} (hf : Er f) (c : UInt8) : Er (Ep.innerV f c) := by
  intro st h
  unfold Ep.innerV
  split
  · exact er_shut _ (er_sum hf _ h)
  · split
    · exact er_put _ _ (hf _ h)
    · exact hf _ h
theorem er_factor : ∀ d, Er (Ep.factorV d)
  | 0, st, h => by
    unfold Ep.factorV
    split
    · exact n62
    · exact er_leaf st h
  | d + 1, st, h => by
    unfold Ep.factorV
    split
    · exact er_inner (er_factor d) _ _ h
    · exact er_leaf st h
theorem parse_er {s : List UInt8} {l : List (Int × Int)} {a e : Nat} (h : parseV s = (l, a, e)) : e ≠ 2 := by
  unfold Ep.parseV at h
  split at h
  · simp only [Prod.mk.injEq] at h; omega
  · split at h
    · simp only [Prod.mk.injEq] at h; omega
    · simp only [Prod.mk.injEq] at h
      rw [← h.2.2]
      unfold Ep.endV
      split
      · split
        · exact n02
        · exact n32
      · exact er_sum (er_factor 30) _ n02
theorem err_in {α : Type} {a b : Nat} (h : (Except.error a : Except Nat α) = .error b) : a = b := by injection h
theorem errp_in {α : Type} {a b c d : Nat} (h : (Except.error (a, b) : Except (Nat × Nat) α) = .error (c, d)) : a = c ∧ b = d := by
  injection h with h
  simpa using h
theorem bvar_er {s : List UInt8} {e : Nat} (h : bvarV s = .error e) : e ≠ 2 ∧ e ≠ 0 := by
  unfold bvarV at h
  split at h
  · have := err_in h; omega
  · split at h
    · have := err_in h; omega
    · split at h
      rename_i hp
      split at h
      · have := err_in h
        have := parse_er hp
        omega
      · cases h
theorem args_er : ∀ (f : Nat) (s : List UInt8) (acc : List (List (Int × Int))) {e : Nat}, argsV f s acc = .error e → e ≠ 2 ∧ e ≠ 0
  | 0, s, acc, e, h => by cases h
  | f + 1, s, acc, e, h => by
    unfold argsV at h
    split at h
    · have := err_in h; omega
    · split at h
      rename_i hp
      split at h
      · have := err_in h
        have := parse_er hp
        omega
      · split at h
        · exact args_er f _ _ h
        · cases h
theorem bprim_er {s : List UInt8} {e : Nat} (h : bprimV s = .error e) : e ≠ 2 ∧ e ≠ 0 := by
  unfold bprimV at h
  split at h
  · have := err_in h; omega
  · split at h
    · have := err_in h; omega
    · split at h
      · have := err_in h; omega
      · split at h
        · rename_i ha
          have := err_in h
          have := args_er _ _ _ ha
          omega
        · split at h
          · cases h
          · have := err_in h; omega
theorem block_er {s : List UInt8} {e : Nat} (h : blockV s = .error e) : e ≠ 2 ∧ e ≠ 0 := by
  unfold blockV at h
  split at h
  · cases h
  · split at h
    · cases h
    · split at h
      · exact bvar_er h
      · exact bprim_er h
theorem blocksN_er : ∀ (l : List (List UInt8)) (i : Nat) (acc : List Blk) {j e : Nat}, blocksN l i acc = .error (j, e) → e ≠ 2 ∧ e ≠ 0 ∧ i ≤ j ∧ j < i + l.length
  | [], i, acc, j, e, h => by cases h
  | s :: l, i, acc, j, e, h => by
    unfold blocksN at h
    split at h
    · rename_i hb
      have := errp_in h
      have := block_er hb
      simp only [List.length_cons]
      omega
    · have := blocksN_er l (i + 1) _ h
      simp only [List.length_cons]
      omega
theorem blocks_er {l : List (List UInt8)} {b : List Blk} {i e : Nat} (h : blocksV l = (b, i, e)) (he : e ≠ 0) : e ≠ 2 ∧ i < l.length := by
  unfold blocksV at h
  split at h
  · simp only [Prod.mk.injEq] at h; omega
  · split at h
    · rename_i hb
      have := blocksN_er _ _ _ hb
      simp only [Prod.mk.injEq] at h
      omega
    · simp only [Prod.mk.injEq] at h; omega
theorem rest_er {t : List UInt8} {cs : List C} {e : Nat} (h : restV t cs = .error e) : e = 3 := by
  unfold restV at h
  split at h
  · cases h
  · split at h
    · exact (err_in h).symm
    · cases h
theorem mode_er {t : List UInt8} {n : Int} {e : Nat} (h : modeV t n = .error e) : e = 3 := by
  unfold modeV at h
  split at h
  · cases h
  · exact rest_er h
theorem plain_er {t : List UInt8} {e : Nat} (h : plainV t = .error e) : e ≠ 2 ∧ e ≠ 0 := by
  unfold plainV at h
  split at h
  · cases h
  split at h
  · cases h
  split at h
  · have := err_in h; omega
  split at h
  · cases h
  split at h
  · cases h
  split at h
  · cases h
  split at h
  · have := mode_er h; omega
  split at h
  · have := mode_er h; omega
  split at h
  · have := mode_er h; omega
  · have := rest_er h; omega
theorem ext_er {t : List UInt8} {e : Nat} (h : extV t = .error e) : e ≠ 2 ∧ e ≠ 0 := by
  unfold extV at h
  split at h
  · have := err_in h; omega
  · split at h
    · cases h
    · split at h
      · have := err_in h; omega
      · cases h
theorem group_er {w : Wd} {ws : List Wd} {i e : Nat} (h : groupV w ws = .error (i, e)) : e ≠ 2 ∧ e ≠ 0 := by
  unfold groupV at h
  split at h
  · split at h
    · rename_i hx
      have := errp_in h
      have := ext_er hx
      omega
    · split at h
      · cases h
      · have := errp_in h; omega
  · split at h
    · have := errp_in h; omega
    · split at h
      rename_i hb
      split at h
      · rename_i he
        have := errp_in h
        have := blocks_er hb he
        omega
      · cases h
theorem cmds_er {w : Wd} {ws : List Wd} {i e : Nat} (h : cmdsW w ws = .error (i, e)) : e ≠ 2 ∧ e ≠ 0 := by
  unfold cmdsW at h
  split at h
  · exact group_er h
  · split at h
    · rename_i hp
      have := errp_in h
      have := plain_er hp
      omega
    · cases h
theorem goG_er : ∀ (f : Nat) (ws : List Wd) (acc : List (Nat × C)) {i e : Nat}, goG f ws acc = .error (i, e) → e ≠ 2 ∧ e ≠ 0
  | 0, ws, acc, i, e, h => by cases h
  | f + 1, [], acc, i, e, h => by cases h
  | f + 1, w :: ws, acc, i, e, h => by
    unfold goG at h
    split at h
    · rename_i hx
      injection h with h
      rw [h] at hx
      exact cmds_er hx
    · exact goG_er f _ _ h

/-! ### The rows of words behind each other -/
def nf (x : Wd) : Bool := !x.first
def HeadOk (ws : List Wd) : Prop := ∀ w ∈ ws.head?, w.first = true
theorem tw_app (r : List Wd) {ws2 : List Wd} (h : HeadOk ws2) : (r ++ ws2).takeWhile nf = r.takeWhile nf ∧ (r ++ ws2).dropWhile nf = r.dropWhile nf ++ ws2 := by
  induction r with
  | nil =>
    cases ws2 with
    | nil => exact ⟨rfl, rfl⟩
    | cons w l =>
      have : w.first = true := h w rfl
      simp [nf, this]
  | cons x r ih =>
    by_cases hx : nf x = true
    · simp [hx, ih.1, ih.2]
    · simp [hx]
theorem goG_nil (f : Nat) (acc : List (Nat × C)) : goG f [] acc = .ok acc := by cases f <;> rfl
theorem goG_cons (f : Nat) (w : Wd) (ws : List Wd) (acc : List (Nat × C)) : goG (f + 1) (w :: ws) acc = match cmdsW w (ws.takeWhile nf) with | .error e => .error e | .ok l => goG f (ws.dropWhile nf) (acc ++ l.map fun c => (w.a, c)) := rfl
theorem drop_le (ws : List Wd) : (ws.dropWhile nf).length ≤ ws.length := (List.dropWhile_suffix nf).length_le
theorem goG_fuel : ∀ (f g : Nat) (ws : List Wd) (acc : List (Nat × C)), ws.length ≤ f → ws.length ≤ g → goG f ws acc = goG g ws acc
  | f, g, [], acc, _, _ => by rw [goG_nil, goG_nil]
  | 0, g, w :: ws, acc, h, _ => by simp at h
  | f + 1, 0, w :: ws, acc, _, h => by simp at h
  | f + 1, g + 1, w :: ws, acc, h1, h2 => by
    rw [goG_cons, goG_cons]
    have := drop_le ws
    simp only [List.length_cons] at h1 h2
    cases cmdsW w (ws.takeWhile nf) with
    | error e => rfl
    | ok l => exact goG_fuel f g _ _ (by omega) (by omega)
theorem goG_acc : ∀ (f : Nat) (ws : List Wd) (acc : List (Nat × C)), goG f ws acc = match goG f ws [] with | .error e => .error e | .ok l => .ok (acc ++ l)
  | 0, ws, acc => by simp [goG]
  | f + 1, [], acc => by simp [goG]
  | f + 1, w :: ws, acc => by
    rw [goG_cons, goG_cons]
    cases cmdsW w (ws.takeWhile nf) with
    | error e => rfl
    | ok l =>
      simp only []
      rw [goG_acc f _ (acc ++ l.map fun c => (w.a, c)), goG_acc f _ ([] ++ l.map fun c => (w.a, c))]
      cases goG f (ws.dropWhile nf) [] with
      | error e => rfl
      | ok l2 => simp
theorem goG_app {ws2 : List Wd} (h2 : HeadOk ws2) : ∀ (n : Nat) (ws1 : List Wd) (acc : List (Nat × C)), ws1.length ≤ n → goG (n + ws2.length) (ws1 ++ ws2) acc = match goG n ws1 acc with | .error e => .error e | .ok l => goG ws2.length ws2 l
  | n, [], acc, _ => by
    rw [goG_nil, List.nil_append]
    exact goG_fuel _ _ _ _ (by omega) (Nat.le_refl _)
  | 0, w :: ws, acc, h => by simp at h
  | n + 1, w :: ws, acc, h => by
    simp only [List.length_cons] at h
    rw [List.cons_append, show n + 1 + ws2.length = (n + ws2.length) + 1 by omega, goG_cons, goG_cons, (tw_app ws h2).1, (tw_app ws h2).2]
    cases cmdsW w (ws.takeWhile nf) with
    | error e => rfl
    | ok l =>
      have := drop_le ws
      exact goG_app h2 n _ _ (by omega)
theorem map_tw (d : Nat) (ws : List Wd) : (ws.map (sh d)).takeWhile nf = (ws.takeWhile nf).map (sh d) ∧ (ws.map (sh d)).dropWhile nf = (ws.dropWhile nf).map (sh d) := by
  induction ws with
  | nil => exact ⟨rfl, rfl⟩
  | cons x r ih =>
    have hx : nf (sh d x) = nf x := rfl
    by_cases h : nf x = true
    · simp [hx, h, ih.1, ih.2]
    · simp [hx, h]
theorem cmds_sh (d : Nat) (w : Wd) (ws : List Wd) : cmdsW (sh d w) (ws.map (sh d)) = shE d (cmdsW w ws) := by
  unfold cmdsW
  have he : (sh d w).ext = w.ext := rfl
  rw [he]
  by_cases h : w.ext = true
  · rw [if_pos h, if_pos h]
    rcases group_sh d w ws with h1 | ⟨i, e, hb, he0, hn⟩
    · exact h1
    · have hi := (blocks_er hb he0).2
      rw [List.length_map] at hi
      rw [List.getElem?_eq_none_iff] at hn
      omega
  · rw [if_neg h, if_neg h]
    show (match plainV w.t with | .error e => _ | .ok l => _) = _
    cases plainV w.t with
    | error e => rfl
    | ok l => rfl
theorem goG_sh (d : Nat) : ∀ (f : Nat) (ws : List Wd) (acc : List (Nat × C)), goG f (ws.map (sh d)) (acc.map (shP d)) = match goG f ws acc with | .error (i, e) => .error (i + d, e) | .ok l => .ok (l.map (shP d))
  | 0, ws, acc => by simp [goG]
  | f + 1, [], acc => by simp [goG]
  | f + 1, w :: ws, acc => by
    rw [List.map_cons, goG_cons, goG_cons, (map_tw d ws).1, (map_tw d ws).2, cmds_sh]
    cases cmdsW w (ws.takeWhile nf) with
    | error e => rfl
    | ok l =>
      show goG f ((ws.dropWhile nf).map (sh d)) (acc.map (shP d) ++ l.map fun c => (w.a + d, c)) = _
      rw [← goG_sh d f (ws.dropWhile nf) (acc ++ l.map fun c => (w.a, c))]
      rw [List.map_append, List.map_map]
      rfl

/-! ### Both -/
theorem takeW_err {s : Ws} {c : UInt8} {i e : Nat} (h : takeW s c i = .error e) : e = 2 ∨ e = 6 := by
  unfold takeW addW endW at h
  repeat' (split at h)
  all_goals first | (cases h; done) | (have := err_in h; omega)
theorem words_closed {s : List UInt8} (hs : Closed s) (hc : s.count 42 < 20000) (hl : s.length ≤ 1000000) :
    (∃ i e, goW s 0 ws0 = .error (i, e) ∧ wordsV s = ([], i, e) ∧ e ≠ 0) ∨ ∃ ws a, goW s 0 ws0 = .ok (base ws a) ∧ wordsV s = (ws, 0, 0) ∧ ws.length ≤ s.count 42 ∧ HeadOk ws := by
  rcases hs 0 0 [] (by simpa using hc) with ⟨⟨i, e⟩, h⟩ | ⟨ws, a, h, h1⟩
  · refine .inl ⟨i, e, h, ?_, ?_⟩
    · unfold wordsV
      rw [if_neg (by omega)]
      rw [show goW s 0 ws0 = .error (i, e) from h]
    · exact go_err _ _ _ h
  · refine .inr ⟨ws, a, h, ?_, by simpa using h1, (go_heads _ _ _ _ h heads0).2⟩
    unfold wordsV
    rw [if_neg (by omega)]
    rw [show goW s 0 ws0 = .ok (base ws a) from h]
    rfl
where
  go_err : ∀ (r : List UInt8) (i : Nat) (s : Ws) {j e : Nat}, goW r i s = .error (j, e) → e ≠ 0
    | [], i, s, j, e, h => by cases h
    | c :: r, i, s, j, e, h => by
      rw [goW_cons] at h
      cases hc : takeW s c i with
      | error e' =>
        rw [hc] at h
        have := errp_in h
        have := takeW_err hc
        omega
      | ok t =>
        rw [hc] at h
        exact go_err r (i + 1) t h
theorem parse_err {s : List UInt8} {i e : Nat} (h : wordsV s = ([], i, e)) (he : e ≠ 0) : parseG s = ([], i, e) := by
  unfold parseG
  rw [h]
  exact if_pos he
theorem parse_ok {s : List UInt8} {ws : List Wd} (h : wordsV s = (ws, 0, 0)) : parseG s = match goG ws.length ws [] with | .error (i, e) => ([], i, e) | .ok l => (l, 0, 0) := by
  unfold parseG
  rw [h]
  exact if_neg (by decide)
theorem words_two {s t : List UInt8} {ws : List Wd} {a : Nat} (h : goW s 0 ws0 = .ok (base ws a)) (hc : ws.length + t.count 42 < 20000) (hl : s.length + t.length ≤ 1000000) :
    (∀ j e, goW t 0 ws0 = .error (j, e) → wordsV (s ++ t) = ([], j + s.length, e)) ∧ (∀ ws2 a2, goW t 0 ws0 = .ok (base ws2 a2) → wordsV (s ++ t) = (ws ++ ws2.map (sh s.length), 0, 0)) := by
  have hr : Rel s.length ws ws0 (base ws a) := ⟨by simp [base, ws0], rfl, rfl, rfl, fun h => absurd rfl h⟩
  have hg := go_rel (d := s.length) (pre := ws) t 0 ws0 (base ws a) hr (by simpa [ws0] using hc)
  have hgo : goW (s ++ t) 0 ws0 = goW t (0 + s.length) (base ws a) := by rw [go_append, h]
  constructor
  · intro j e he
    unfold wordsV
    rw [if_neg (by rw [List.length_append]; omega), hgo, hg.1 j e he]
  · intro ws2 a2 he
    obtain ⟨t', e', hr2⟩ := hg.2 _ he
    have h1 := hr2.t
    have h2 := hr2.g
    have h3 := hr2.w
    unfold wordsV
    rw [if_neg (by rw [List.length_append]; omega), hgo, e']
    simp only []
    rw [if_neg (by rw [h1, h2]; rintro (e | e); exact e rfl; cases e), h3]
    rfl
theorem words_codes {t : List UInt8} {j e : Nat} (h : goW t 0 ws0 = .error (j, e)) : e = 2 ∨ e = 6 := by
  have key : ∀ (r : List UInt8) (i : Nat) (s : Ws) {j e : Nat}, goW r i s = .error (j, e) → e = 2 ∨ e = 6 := by
    intro r
    induction r with
    | nil => intro i s j e h; cases h
    | cons c r ih =>
      intro i s j e h
      rw [goW_cons] at h
      cases hc : takeW s c i with
      | error e' =>
        rw [hc] at h
        have h1 := errp_in h
        have h2 := takeW_err hc
        omega
      | ok t =>
        rw [hc] at h
        exact ih (i + 1) t h
  exact key t 0 ws0 h
theorem head_map {ws : List Wd} (d : Nat) (h : HeadOk ws) : HeadOk (ws.map (sh d)) := by
  cases ws with
  | nil => intro w hw; cases hw
  | cons x l =>
    intro w hw
    simp at hw
    rw [← hw]
    exact h x rfl
/-- 15.2: two files behind each other. -/
theorem parts (s t : List UInt8) (hs : Closed s) (ht : Closed t) (hc : s.count 42 + t.count 42 ≤ 10000) (hl : s.length + t.length ≤ 500000) {a b c : List (Nat × C)} {i j k e f g : Nat}
    (ha : parseG s = (a, i, e)) (hb : parseG t = (b, j, f)) (hcc : parseG (s ++ t) = (c, k, g)) :
    (e ≠ 0 → ((e ≠ 2 ∧ (f = 2 ∨ f = 6)) ∨ (g = e ∧ k = i)) ∧ c = []) ∧ (e = 0 → f ≠ 0 → g = f ∧ k = j + s.length) ∧ (e = 0 → f = 0 → g = 0 ∧ c = a ++ b.map (shP s.length)) := by
  rcases words_closed hs (by omega) (by omega) with ⟨i1, e1, h1, h2, h3⟩ | ⟨ws, a1, h1, h2, h3, h4⟩
  · -- the first text's words fail
    rw [parse_err h2 h3] at ha
    have hst : wordsV (s ++ t) = ([], i1, e1) := by
      unfold wordsV
      rw [if_neg (by rw [List.length_append]; omega), go_append, h1]
    rw [parse_err hst h3] at hcc
    simp only [Prod.mk.injEq] at ha hcc
    exact ⟨fun _ => ⟨.inr ⟨by omega, by omega⟩, hcc.1.symm⟩, fun h0 => absurd (ha.2.2.trans h0) h3, fun h0 => absurd (ha.2.2.trans h0) h3⟩
  · rw [parse_ok h2] at ha
    have h5 := words_two (t := t) h1 (by omega) (by omega)
    rcases words_closed ht (by omega) (by omega) with ⟨j1, f1, t1, t2, t3⟩ | ⟨ws2, a2, t1, t2, t3, t4⟩
    · -- the second text's words fail
      rw [parse_err t2 t3] at hb
      rw [parse_err (h5.1 _ _ t1) t3] at hcc
      have hf := words_codes t1
      simp only [Prod.mk.injEq] at hb hcc
      refine ⟨fun h0 => ⟨.inl ⟨?_, by omega⟩, hcc.1.symm⟩, fun _ _ => ⟨by omega, by omega⟩, fun _ h0 => absurd (hb.2.2.trans h0) t3⟩
      cases hg : goG ws.length ws [] with
      | error x =>
        obtain ⟨x1, x2⟩ := x
        rw [hg] at ha
        simp only [Prod.mk.injEq] at ha
        have := goG_er _ _ _ hg
        omega
      | ok l =>
        rw [hg] at ha
        simp only [Prod.mk.injEq] at ha
        omega
    · rw [parse_ok t2] at hb
      rw [parse_ok (h5.2 _ _ t1)] at hcc
      have hap := goG_app (head_map s.length t4) ws.length ws [] (Nat.le_refl _)
      rw [show (ws ++ ws2.map (sh s.length)).length = ws.length + (ws2.map (sh s.length)).length by simp, hap] at hcc
      cases hg : goG ws.length ws [] with
      | error x =>
        obtain ⟨x1, x2⟩ := x
        rw [hg] at ha hcc
        simp only [Prod.mk.injEq] at ha hcc
        have hx := goG_er _ _ _ hg
        exact ⟨fun _ => ⟨.inr ⟨by omega, by omega⟩, hcc.1.symm⟩, fun h0 => absurd (ha.2.2.trans h0) hx.2, fun h0 => absurd (ha.2.2.trans h0) hx.2⟩
      | ok l =>
        rw [hg] at ha hcc
        simp only [Prod.mk.injEq] at ha
        obtain ⟨rfl, rfl, rfl⟩ := ha
        simp only [] at hcc
        rw [goG_acc] at hcc
        have hsh := goG_sh s.length ws2.length ws2 []
        rw [List.map_nil] at hsh
        rw [List.length_map, hsh] at hcc
        refine ⟨fun h0 => absurd rfl h0, fun _ h0 => ?_, fun _ h0 => ?_⟩
        · cases hg2 : goG ws2.length ws2 [] with
          | error x =>
            obtain ⟨x1, x2⟩ := x
            rw [hg2] at hb hcc
            simp only [Prod.mk.injEq] at hb hcc
            exact ⟨by omega, by omega⟩
          | ok l2 =>
            rw [hg2] at hb
            simp only [Prod.mk.injEq] at hb
            exact absurd hb.2.2.symm h0
        · cases hg2 : goG ws2.length ws2 [] with
          | error x =>
            obtain ⟨x1, x2⟩ := x
            rw [hg2] at hb
            simp only [Prod.mk.injEq] at hb
            exact absurd (hb.2.2.trans h0) (goG_er _ _ _ hg2).2
          | ok l2 =>
            rw [hg2] at hb hcc
            simp only [Prod.mk.injEq] at hb hcc
            exact ⟨hcc.2.2.symm, by rw [← hcc.1, ← hb.1]⟩
/-- 15.3: a byte that cannot stand is told where it is. -/
theorem bad_byte (s t : List UInt8) (hs : Closed s) (ht : Closed t) (hc : s.count 42 + t.count 42 ≤ 10000) (hl : s.length + t.length ≤ 500000) {a b : List (Nat × C)} {i j : Nat}
    (ha : parseG s = (a, i, 0)) (hb : parseG t = (b, j, 0)) : parseG (s ++ [33, 42] ++ t) = ([], s.length, 3) := by
  rcases words_closed hs (by omega) (by omega) with ⟨i1, e1, h1, h2, h3⟩ | ⟨ws, a1, h1, h2, h3, h4⟩
  · rw [parse_err h2 h3] at ha
    simp only [Prod.mk.injEq] at ha
    exact absurd ha.2.2 h3
  rcases words_closed ht (by omega) (by omega) with ⟨j1, f1, t1, t2, t3⟩ | ⟨ws2, a2, t1, t2, t3, t4⟩
  · rw [parse_err t2 t3] at hb
    simp only [Prod.mk.injEq] at hb
    exact absurd hb.2.2 t3
  have hw : goW (s ++ [33, 42]) 0 ws0 = .ok (base (ws ++ [⟨s.length, false, true, [33]⟩]) s.length) := by
    rw [go_append, h1]
    simp only []
    have := go_word (p := [33]) (by decide) (by decide) (by decide) (0 + s.length) a1 ws false 0 (by omega)
    rw [show ([33, 42] : List UInt8) = [33] ++ [42] from rfl]
    unfold base
    rw [this, Nat.zero_add]
    rfl
  have h5 := words_two (t := t) hw (by simp; omega) (by simp; omega)
  rw [parse_ok (h5.2 _ _ t1)]
  rw [parse_ok h2] at ha
  generalize (s ++ [33, 42]).length = q
  have hh : HeadOk ((⟨s.length, false, true, [33]⟩ : Wd) :: ws2.map (sh q)) := by
    intro w hw
    simp at hw
    rw [← hw]
  have hap := goG_app hh ws.length ws [] (Nat.le_refl _)
  rw [List.append_assoc, List.singleton_append]
  rw [show (ws ++ (⟨s.length, false, true, [33]⟩ : Wd) :: ws2.map (sh q)).length = ws.length + ((⟨s.length, false, true, [33]⟩ : Wd) :: ws2.map (sh q)).length by simp, hap]
  cases hg : goG ws.length ws [] with
  | error x =>
    obtain ⟨x1, x2⟩ := x
    rw [hg] at ha
    simp only [Prod.mk.injEq] at ha
    exact absurd ha.2.2 (goG_er _ _ _ hg).2
  | ok l =>
    simp only []
    rw [List.length_cons, goG_cons]
    have hp : cmdsW ⟨s.length, false, true, [33]⟩ ((ws2.map (sh q)).takeWhile nf) = .error (s.length, 3) := by
      have h33 : plainV [33] = .error 3 := by rfl
      unfold cmdsW
      rw [if_neg (by show ¬ (false = true); decide)]
      show (match plainV [33] with | .error e => Except.error (s.length, e) | .ok l => .ok l) = _
      rw [h33]
    rw [hp]
end Go.Proofs.YtglmofeeggjemaaGreatDoor.Gp
