/-
  Plain: expressions of macros (chapter 12): what is read of a text, as a function of what is left; the grammar; that the two agree. No program in sight.
-/
import Derived.Test.YtkfjmcdfamhiaaaDoorDq
namespace Go.Proofs.YtkfjmcdfamhiaaaDoor.Ep
open Go.Proofs.YtkfjmcdfamhiaaaDoor.Dp

/-- What is left to be read, the operations so far, the error. -/
structure St where
  r : List UInt8
  ops : List (Int × Int)
  e : Nat
def hd (r : List UInt8) : UInt8 := r.headD 0
def put (st : St) (k n : Int) : St := if st.e = 0 then ⟨st.r, st.ops ++ [(k, n)], 0⟩ else st
def varN (D : List UInt8) : Nat := D.foldl (fun n c => min (10 * n + (c.toNat - 48)) 100) 0
def varV (st : St) : St :=
  if varN ((st.r.drop 1).take (nd (st.r.drop 1))) < 1 ∨ 99 < varN ((st.r.drop 1).take (nd (st.r.drop 1))) ∨ hd (st.r.drop 1) = 48 then ⟨st.r, st.ops, 3⟩
  else ⟨(st.r.drop 1).drop (nd (st.r.drop 1)), st.ops ++ [(2, (varN ((st.r.drop 1).take (nd (st.r.drop 1))) : Int))], 0⟩
/-- How long a number is: digits, at most one point, digits. -/
def numLen (r : List UInt8) : Nat := if hd (r.drop (nd r)) = 46 then nd r + 1 + nd (r.drop (nd r + 1)) else nd r
def numV (st : St) : St :=
  match dec (st.r.take (numLen st.r)) with
  | none => ⟨st.r, st.ops, 3⟩
  | some n => ⟨st.r.drop (numLen st.r), st.ops ++ [(1, n)], 0⟩
def isSign (c : UInt8) : Bool := c == 43 || c == 45 || c == 40
def leafV (st : St) : St := if hd st.r = 36 then varV st else if (hd st.r == 46 || isD (hd st.r)) = true then numV st else ⟨st.r, st.ops, 3⟩
def opP (c : UInt8) : Option Nat := if c = 120 ∨ c = 88 then some 5 else if c = 47 then some 6 else none
def opS (c : UInt8) : Option Nat := if c = 43 then some 3 else if c = 45 then some 4 else none
/-- Operands with signs between them, from the left. -/
def loopV (op : UInt8 → Option Nat) (f : St → St) : Nat → St → St
  | 0, st => st
  | k + 1, st => if st.e = 0 then (match op (hd st.r) with | none => st | some q => loopV op f k (put (f ⟨st.r.drop 1, st.ops, 0⟩) q 0)) else st
def prodV (f : St → St) (st : St) : St := loopV opP f (st.r.length + 1) (f st)
def sumV (f : St → St) (st : St) : St := loopV opS (prodV f) (st.r.length + 1) (prodV f st)
/-- What stands in parentheses, the closing one. -/
def shutV (st : St) : St := if st.e = 0 then (if hd st.r = 41 then ⟨st.r.drop 1, st.ops, 0⟩ else ⟨st.r, st.ops, 3⟩) else st
def innerV (f : St → St) (c : UInt8) (st : St) : St :=
  if c = 40 then shutV (sumV f st) else if c = 45 then put (f st) 7 0 else f st
def factorV : Nat → St → St
  | 0, st => if isSign (hd st.r) = true then ⟨st.r, st.ops, 6⟩ else leafV st
  | d + 1, st => if isSign (hd st.r) = true then innerV (factorV d) (hd st.r) ⟨st.r.drop 1, st.ops, st.e⟩ else leafV st
/-- 12.2: the operations, the place, the error. -/
def endV (st : St) : Nat := if st.e = 0 then (if st.r = [] then 0 else 3) else st.e
def runV (s : List UInt8) : St := sumV (factorV 30) ⟨s, [], 0⟩
def parseV (s : List UInt8) : List (Int × Int) × Nat × Nat :=
  if 300 < s.length then ([], 0, 6) else if endV (runV s) = 0 then ((runV s).ops, 0, 0) else ([], s.length - (runV s).r.length, endV (runV s))

/-! ### What is left grows no longer -/
theorem put_r (st : St) (k n : Int) : (put st k n).r = st.r := by unfold put; split <;> rfl
theorem varV_le (st : St) : (varV st).r.length ≤ st.r.length := by
  unfold varV; split
  · exact Nat.le_refl _
  · simp only [List.length_drop]; omega
theorem numV_le (st : St) : (numV st).r.length ≤ st.r.length := by
  unfold numV; split
  · exact Nat.le_refl _
  · simp
theorem leafV_le (st : St) : (leafV st).r.length ≤ st.r.length := by
  unfold leafV; split
  · exact varV_le st
  · split
    · exact numV_le st
    · exact Nat.le_refl _
/-- f leaves no more than there was. -/
def Down (f : St → St) : Prop := ∀ st, (f st).r.length ≤ st.r.length
theorem loopV_le {op : UInt8 → Option Nat} {f : St → St} (hf : Down f) : ∀ k st, (loopV op f k st).r.length ≤ st.r.length
  | 0, st => Nat.le_refl _
  | k + 1, st => by
    rw [loopV]
    split
    · split
      · exact Nat.le_refl _
      · rename_i q _
        have h1 := loopV_le (op := op) hf k (put (f ⟨st.r.drop 1, st.ops, 0⟩) q 0)
        rw [put_r] at h1
        have h2 := hf ⟨st.r.drop 1, st.ops, 0⟩
        simp only [List.length_drop] at h2
        omega
    · exact Nat.le_refl _
theorem prodV_le {f : St → St} (hf : Down f) : Down (prodV f) := fun st => Nat.le_trans (loopV_le hf _ _) (hf st)
theorem sumV_le {f : St → St} (hf : Down f) : Down (sumV f) := fun st => Nat.le_trans (loopV_le (prodV_le hf) _ _) (prodV_le hf st)
theorem shutV_le (st : St) : (shutV st).r.length ≤ st.r.length := by
  unfold shutV; split
  · split
    · simp
    · exact Nat.le_refl _
  · exact Nat.le_refl _
theorem innerV_le {f : St → St} (hf : Down f) (c : UInt8) : Down (innerV f c) := fun st => by
  unfold innerV; split
  · exact Nat.le_trans (shutV_le _) (sumV_le hf st)
  · split
    · rw [put_r]; exact hf st
    · exact hf st
theorem factorV_le : ∀ d, Down (factorV d)
  | 0, st => by
    rw [factorV]; split
    · exact Nat.le_refl _
    · exact leafV_le st
  | d + 1, st => by
    rw [factorV]; split
    · have := innerV_le (factorV_le d) (hd st.r) ⟨st.r.drop 1, st.ops, st.e⟩
      simp only [List.length_drop] at this; omega
    · exact leafV_le st

theorem loop_stop {op : UInt8 → Option Nat} {f : St → St} (k : Nat) {st : St} (h : st.e = 0 → op (hd st.r) = none) : loopV op f k st = st := by
  cases k with
  | zero => rfl
  | succ k =>
    rw [loopV]
    split
    · rename_i he
      rw [h he]
    · rfl
theorem loop_step {op : UInt8 → Option Nat} {f : St → St} (k : Nat) {st : St} {q : Nat} (he : st.e = 0) (h : op (hd st.r) = some q) : loopV op f (k + 1) st = loopV op f k (put (f ⟨st.r.drop 1, st.ops, 0⟩) q 0) := by
  rw [loopV, if_pos he, h]
theorem op_ne {op : UInt8 → Option Nat} (h0 : op 0 = none) {r : List UInt8} {q : Nat} (h : op (hd r) = some q) : r ≠ [] := by
  rintro rfl
  rw [show hd [] = 0 from rfl, h0] at h; cases h
/-- Enough rounds are enough. -/
theorem loop_fuel {op : UInt8 → Option Nat} (h0 : op 0 = none) {f : St → St} (hf : Down f) : ∀ (k m : Nat) (st : St), st.r.length < k → st.r.length < m → loopV op f k st = loopV op f m st
  | 0, _, _, h, _ => by omega
  | _, 0, _, _, h => by omega
  | k + 1, m + 1, st, hk, hm => by
    rw [loopV, loopV]
    split
    · split
      · rfl
      · rename_i q hq
        have hne := op_ne h0 hq
        have hlt : 0 < st.r.length := List.length_pos_iff.2 hne
        have h2 := hf ⟨st.r.drop 1, st.ops, 0⟩
        simp only [List.length_drop] at h2
        exact loop_fuel h0 hf k m _ (by rw [put_r]; omega) (by rw [put_r]; omega)
    · rfl

/-! ### The grammar -/
inductive T where
  | num (n : Nat)
  | var (n : Nat)
  | neg (t : T)
  | bin (k : Nat) (a b : T)
def opsT : T → List (Int × Int)
  | .num n => [(1, (n : Int))]
  | .var n => [(2, (n : Int))]
  | .neg t => opsT t ++ [(7, 0)]
  | .bin k a b => opsT a ++ (opsT b ++ [((k : Int), 0)])
/-- Digits, with at most one point. -/
def NumLit (u : List UInt8) : Prop := u ≠ [] ∧ ((∀ c ∈ u, isD c = true) ∨ ∃ D F, u = D ++ 46 :: F ∧ (∀ c ∈ D, isD c = true) ∧ ∀ c ∈ F, isD c = true)
/-- Level 0: a factor; 1: a product; 2: a sum; within d parentheses and signs. -/
inductive G : Nat → Nat → List UInt8 → T → Prop where
  | num {d : Nat} {u : List UInt8} {n : Nat} : NumLit u → dec u = some (n : Int) → G 0 d u (.num n)
  | var {d : Nat} {u : List UInt8} {n : Nat} : (∀ c ∈ u, isD c = true) → varN u = n → 1 ≤ n → n ≤ 99 → hd u ≠ 48 → G 0 d (36 :: u) (.var n)
  | plus {d : Nat} {u : List UInt8} {t : T} : G 0 d u t → G 0 (d + 1) (43 :: u) t
  | neg {d : Nat} {u : List UInt8} {t : T} : G 0 d u t → G 0 (d + 1) (45 :: u) (.neg t)
  | par {d : Nat} {u : List UInt8} {t : T} : G 2 d u t → G 0 (d + 1) (40 :: (u ++ [41])) t
  | pone {d : Nat} {u : List UInt8} {t : T} : G 0 d u t → G 1 d u t
  | pop {d : Nat} {u v : List UInt8} {c : UInt8} {k : Nat} {a b : T} : G 1 d u a → G 0 d v b → opP c = some k → G 1 d (u ++ c :: v) (.bin k a b)
  | sone {d : Nat} {u : List UInt8} {t : T} : G 1 d u t → G 2 d u t
  | sop {d : Nat} {u v : List UInt8} {c : UInt8} {k : Nat} {a b : T} : G 2 d u a → G 1 d v b → opS c = some k → G 2 d (u ++ c :: v) (.bin k a b)

/-- What may follow. -/
def stop0 (r : List UInt8) : Prop := isD (hd r) = false ∧ hd r ≠ 46
theorem nd_stop0 {u r : List UInt8} (hu : ∀ c ∈ u, isD c = true) (hr : isD (hd r) = false) : nd (u ++ r) = u.length := by
  rw [nd_digits u hu]
  cases r with
  | nil => simp [nd_nil]
  | cons c r =>
    rw [nd_cons, if_neg (by rw [show c = hd (c :: r) from rfl, hr]; decide)]; rfl
theorem opP_some {c : UInt8} {k : Nat} (h : opP c = some k) : isD c = false ∧ c ≠ 46 := by
  unfold opP at h
  split at h
  · rename_i hc
    rcases hc with rfl | rfl <;> decide
  · split at h
    · rename_i hc; subst hc; decide
    · cases h
theorem opS_some {c : UInt8} {k : Nat} (h : opS c = some k) : isD c = false ∧ c ≠ 46 ∧ opP c = none := by
  unfold opS at h
  split at h
  · rename_i hc; subst hc; decide
  · split at h
    · rename_i hc; subst hc; decide
    · cases h
theorem digit_leaf {c : UInt8} (h : isD c = true) : isSign c = false ∧ c ≠ 36 := by
  have h1 := (isD_iff c).1 h
  refine ⟨?_, ?_⟩
  · unfold isSign
    simp only [Bool.or_eq_false_iff, beq_eq_false_iff_ne]
    refine ⟨⟨?_, ?_⟩, ?_⟩ <;> (rintro rfl; revert h1; decide)
  · rintro rfl; revert h1; decide
theorem num_len {u r : List UInt8} (hu : NumLit u) (hr : stop0 r) : numLen (u ++ r) = u.length := by
  unfold numLen
  rcases hu.2 with hD | ⟨D, F, rfl, hD, hF⟩
  · rw [nd_stop0 hD hr.1, List.drop_left, if_neg hr.2]
  · have h1 : nd ((D ++ 46 :: F) ++ r) = D.length := by
      rw [List.append_assoc]
      exact nd_stop0 hD (by show isD 46 = false; decide)
    rw [h1]
    have h2 : ((D ++ 46 :: F) ++ r).drop D.length = 46 :: (F ++ r) := by rw [List.append_assoc, List.drop_left]; rfl
    have h3 : ((D ++ 46 :: F) ++ r).drop (D.length + 1) = F ++ r := by rw [← List.drop_drop, h2]; rfl
    rw [h2, h3, if_pos (show hd (46 :: (F ++ r)) = 46 from rfl), nd_stop0 hF hr.1]
    simp; omega
theorem lit_head {u : List UInt8} (hu : NumLit u) (r : List UInt8) : (hd (u ++ r) = 46 ∨ isD (hd (u ++ r)) = true) := by
  obtain ⟨hne, h⟩ := hu
  cases u with
  | nil => exact absurd rfl hne
  | cons c u =>
    show c = 46 ∨ isD c = true
    rcases h with h | ⟨D, F, h, hD, _⟩
    · exact .inr (h c (by simp))
    · cases D with
      | nil => injection h with h _; exact .inl h
      | cons x D => injection h with h _; exact .inr (by rw [h]; exact hD x (by simp))
theorem leaf_num {u r : List UInt8} {n : Nat} (hu : NumLit u) (hn : dec u = some (n : Int)) (hr : stop0 r) (ops : List (Int × Int)) (e : Nat) : isSign (hd (u ++ r)) = false ∧ leafV ⟨u ++ r, ops, e⟩ = ⟨r, ops ++ [(1, (n : Int))], 0⟩ := by
  have hh := lit_head hu r
  have hs : isSign (hd (u ++ r)) = false ∧ hd (u ++ r) ≠ 36 := by
    rcases hh with h | h
    · rw [h]; decide
    · exact digit_leaf h
  refine ⟨hs.1, ?_⟩
  unfold leafV
  rw [if_neg hs.2, if_pos (by rcases hh with h | h <;> simp [h])]
  unfold numV
  simp only [num_len hu hr, List.take_left, List.drop_left, hn]
theorem leaf_var {u r : List UInt8} {n : Nat} (hu : ∀ c ∈ u, isD c = true) (hn : varN u = n) (h1 : 1 ≤ n) (h2 : n ≤ 99) (h3 : hd u ≠ 48) (hr : isD (hd r) = false) (ops : List (Int × Int)) (e : Nat) : leafV ⟨36 :: u ++ r, ops, e⟩ = ⟨r, ops ++ [(2, (n : Int))], 0⟩ := by
  have hd1 : (36 :: u ++ r).drop 1 = u ++ r := rfl
  unfold leafV
  rw [if_pos (show hd (36 :: u ++ r) = 36 from rfl)]
  unfold varV
  simp only [hd1, nd_stop0 hu hr, List.take_left, List.drop_left, hn]
  rw [if_neg]
  rintro (h | h | h)
  · omega
  · omega
  · cases u with
    | nil => subst hn; revert h1; decide
    | cons c u => exact h3 h

/-- The grammar is what is read. -/
theorem run_G : ∀ {l d : Nat} {u : List UInt8} {t : T}, G l d u t → ∀ (r : List UInt8) (ops : List (Int × Int)), stop0 r →
    (l = 0 → factorV d ⟨u ++ r, ops, 0⟩ = ⟨r, ops ++ opsT t, 0⟩) ∧
    (l = 1 → prodV (factorV d) ⟨u ++ r, ops, 0⟩ = loopV opP (factorV d) (r.length + 1) ⟨r, ops ++ opsT t, 0⟩) ∧
    (l = 2 → opP (hd r) = none → sumV (factorV d) ⟨u ++ r, ops, 0⟩ = loopV opS (prodV (factorV d)) (r.length + 1) ⟨r, ops ++ opsT t, 0⟩) := by
  intro l d u t h
  induction h with
  | @num d u n hu hn =>
    intro r ops hr
    refine ⟨fun _ => ?_, (fun h => by cases h), (fun h => by cases h)⟩
    obtain ⟨h1, h2⟩ := leaf_num hu hn hr ops 0
    cases d <;> (rw [factorV, if_neg (by rw [h1]; decide)]; exact h2)
  | @var d u n hu hn h1 h2 h3 =>
    intro r ops hr
    refine ⟨fun _ => ?_, (fun h => by cases h), (fun h => by cases h)⟩
    cases d <;> (rw [factorV, if_neg (by show ¬ isSign 36 = true; decide)]; exact leaf_var hu hn h1 h2 h3 hr.1 ops 0)
  | @plus d u t _ ih =>
    intro r ops hr
    refine ⟨fun _ => ?_, (fun h => by cases h), (fun h => by cases h)⟩
    rw [factorV, if_pos (by show isSign 43 = true; decide)]
    show innerV (factorV d) 43 ⟨u ++ r, ops, 0⟩ = _
    unfold innerV
    rw [if_neg (by decide), if_neg (by decide)]
    exact (ih r ops hr).1 rfl
  | @neg d u t _ ih =>
    intro r ops hr
    refine ⟨fun _ => ?_, (fun h => by cases h), (fun h => by cases h)⟩
    rw [factorV, if_pos (by show isSign 45 = true; decide)]
    show innerV (factorV d) 45 ⟨u ++ r, ops, 0⟩ = _
    unfold innerV
    rw [if_neg (by decide), if_pos rfl, (ih r ops hr).1 rfl]
    unfold put
    rw [if_pos rfl]
    simp [opsT]
  | @par d u t _ ih =>
    intro r ops hr
    refine ⟨fun _ => ?_, (fun h => by cases h), (fun h => by cases h)⟩
    rw [factorV, if_pos (by show isSign 40 = true; decide)]
    show innerV (factorV d) 40 ⟨(u ++ [41]) ++ r, ops, 0⟩ = _
    unfold innerV
    rw [if_pos rfl, List.append_assoc]
    have hs : stop0 (41 :: r) := ⟨by show isD 41 = false; decide, by show (41 : UInt8) ≠ 46; decide⟩
    have := (ih (41 :: r) ops hs).2.2 rfl (by show opP 41 = none; decide)
    rw [show [41] ++ r = 41 :: r from rfl, this, loop_stop _ (fun _ => by show opS 41 = none; decide)]
    unfold shutV
    rw [if_pos rfl]
    exact (if_pos (show hd (41 :: r) = 41 from rfl)).trans rfl
  | @pone d u t _ ih =>
    intro r ops hr
    refine ⟨(fun h => by cases h), fun _ => ?_, (fun h => by cases h)⟩
    unfold prodV
    rw [(ih r ops hr).1 rfl]
    exact loop_fuel rfl (factorV_le d) _ _ _ (by simp; omega) (by simp)
  | @pop d u v c k a b _ _ hc iha ihb =>
    intro r ops hr
    refine ⟨(fun h => by cases h), fun _ => ?_, (fun h => by cases h)⟩
    have hs : stop0 (c :: (v ++ r)) := ⟨(opP_some hc).1, (opP_some hc).2⟩
    have h1 := (iha (c :: (v ++ r)) ops hs).2.1 rfl
    rw [show (u ++ c :: v) ++ r = u ++ (c :: (v ++ r)) by simp, h1, loop_step _ rfl hc]
    show loopV opP (factorV d) _ (put (factorV d ⟨v ++ r, ops ++ opsT a, 0⟩) k 0) = _
    rw [(ihb r _ hr).1 rfl]
    unfold put
    rw [if_pos rfl]
    simp only [opsT, List.append_assoc]
    exact loop_fuel rfl (factorV_le d) _ _ _ (by simp; omega) (by simp)
  | @sone d u t _ ih =>
    intro r ops hr
    refine ⟨(fun h => by cases h), (fun h => by cases h), fun _ hp => ?_⟩
    unfold sumV
    rw [(ih r ops hr).2.1 rfl, loop_stop (op := opP) _ (st := ⟨r, ops ++ opsT t, 0⟩) (fun _ => hp)]
    exact loop_fuel rfl (prodV_le (factorV_le d)) _ _ _ (by simp; omega) (by simp)
  | @sop d u v c k a b _ _ hc iha ihb =>
    intro r ops hr
    refine ⟨(fun h => by cases h), (fun h => by cases h), fun _ hp => ?_⟩
    obtain ⟨hc1, hc2, hc3⟩ := opS_some hc
    have h1 := (iha (c :: (v ++ r)) ops ⟨hc1, hc2⟩).2.2 rfl hc3
    rw [show (u ++ c :: v) ++ r = u ++ (c :: (v ++ r)) by simp, h1, loop_step _ rfl hc]
    show loopV opS (prodV (factorV d)) _ (put (prodV (factorV d) ⟨v ++ r, ops ++ opsT a, 0⟩) k 0) = _
    rw [(ihb r _ hr).2.1 rfl, loop_stop (op := opP) _ (st := ⟨r, (ops ++ opsT a) ++ opsT b, 0⟩) (fun _ => hp)]
    unfold put
    rw [if_pos rfl]
    simp only [opsT, List.append_assoc]
    exact loop_fuel rfl (prodV_le (factorV_le d)) _ _ _ (by simp; omega) (by simp)

theorem stop_nil : stop0 [] := ⟨by decide, by decide⟩
/-- A sum that is the whole text. -/
theorem parse_G {s : List UInt8} {t : T} (h : G 2 30 s t) (hs : s.length ≤ 300) : parseV s = (opsT t, 0, 0) := by
  have h1 := (run_G h [] [] stop_nil).2.2 rfl rfl
  rw [List.append_nil, loop_stop _ (fun _ => rfl)] at h1
  unfold parseV runV
  rw [if_neg (by omega), h1]
  rfl
end Go.Proofs.YtkfjmcdfamhiaaaDoor.Ep
