/-
  Plain: decimal numbers as lists of bytes: the digits at the start of a text, their value, the number that a text denotes (2.1 of the document). No program in sight.
-/
namespace Go.Proofs.YtecpmnkgikcpnaaDoor.Dp

def isD (c : UInt8) : Bool := decide (48 ≤ c.toNat) && decide (c.toNat ≤ 57)
/-- How many digits stand at the start. -/
def nd (l : List UInt8) : Nat := (l.takeWhile isD).length
/-- The value of digits. -/
def val (l : List UInt8) : Nat := l.foldl (fun v c => v * 10 + (c.toNat - 48)) 0

theorem isD_iff (c : UInt8) : isD c = true ↔ 48 ≤ c.toNat ∧ c.toNat ≤ 57 := by simp [isD]
theorem isD_false (c : UInt8) : isD c = false ↔ c.toNat < 48 ∨ 57 < c.toNat := by
  rw [Bool.eq_false_iff, Ne, isD_iff]; omega
theorem val_nil : val [] = 0 := rfl
theorem val_snoc (l : List UInt8) (c : UInt8) : val (l ++ [c]) = val l * 10 + (c.toNat - 48) := by simp [val]

theorem nd_nil : nd [] = 0 := rfl
theorem nd_cons (c : UInt8) (l : List UInt8) : nd (c :: l) = if isD c then nd l + 1 else 0 := by
  unfold nd; rw [List.takeWhile_cons]; split <;> simp
theorem nd_le (l : List UInt8) : nd l ≤ l.length := by
  unfold nd; induction l with
  | nil => simp
  | cons c l ih => rw [List.takeWhile_cons]; split <;> simp; omega
theorem nd_spec (l : List UInt8) : (∀ k (h : k < l.length), k < nd l → isD l[k] = true) ∧ (∀ h : nd l < l.length, isD l[nd l] = false) := by
  induction l with
  | nil => simp [nd]
  | cons c l ih =>
    rw [nd_cons]
    by_cases hc : isD c = true
    · rw [if_pos hc]
      refine ⟨fun k h hk => ?_, fun h => ?_⟩
      · cases k with
        | zero => simpa using hc
        | succ k => simpa using ih.1 k (by simpa using h) (by omega)
      · simpa using ih.2 (by simpa using h)
    · rw [if_neg hc]
      exact ⟨fun k h hk => by omega, fun h => by simpa using hc⟩
theorem nd_lt {l : List UInt8} {k : Nat} (hk : k ≤ nd l) (h : k < l.length) (hd : isD l[k] = true) : k < nd l := by
  rcases Nat.lt_or_eq_of_le hk with h1 | h1
  · exact h1
  · subst h1
    have := (nd_spec l).2 h
    rw [this] at hd; cases hd
theorem nd_stop {l : List UInt8} {k : Nat} (hk : k ≤ nd l) (h : k < l.length) (hd : isD l[k] = false) : nd l = k := by
  rcases Nat.lt_or_eq_of_le hk with h1 | h1
  · have := (nd_spec l).1 k h h1
    rw [this] at hd; cases hd
  · exact h1.symm
theorem val_lt (l : List UInt8) (h : ∀ c ∈ l, isD c = true) : val l < 10 ^ l.length := by
  have key : ∀ (l : List UInt8) (v n : Nat), v < 10 ^ n → (∀ c ∈ l, isD c = true) → l.foldl (fun v c => v * 10 + (c.toNat - 48)) v < 10 ^ (n + l.length) := by
    intro l
    induction l with
    | nil => intro v n hv _; simpa using hv
    | cons c l ih =>
      intro v n hv hl
      have hc := (isD_iff c).1 (hl c (by simp))
      have := ih (v * 10 + (c.toNat - 48)) (n + 1) (by rw [Nat.pow_succ]; omega) (fun d hd => hl d (by simp [hd]))
      simp only [List.foldl_cons, List.length_cons]
      rw [show n + (l.length + 1) = n + 1 + l.length by omega]
      exact this
  have := key l 0 0 (by simp) h
  simpa [val] using this
theorem take_nd (l : List UInt8) (k : Nat) (hk : k ≤ nd l) : ∀ c ∈ l.take k, isD c = true := by
  intro c hc
  obtain ⟨i, hi, rfl⟩ := List.mem_iff_getElem.1 hc
  have hi' : i < k ∧ i < l.length := by have := hi; simp at this; omega
  simpa using (nd_spec l).1 i hi'.2 (by omega)
theorem val_take_lt (l : List UInt8) (k : Nat) (hk : k ≤ nd l) : val (l.take k) < 10 ^ k := by
  have h := val_lt _ (take_nd l k hk)
  have hl := nd_le l
  have : (l.take k).length = k := by simp; omega
  rwa [this] at h

/-! ### The number that a text denotes -/
/-- A sign ahead: is it a minus; what follows. -/
def strip : List UInt8 → Bool × List UInt8
  | [] => (false, [])
  | c :: r => if c.toNat = 43 then (false, r) else if c.toNat = 45 then (true, r) else (false, c :: r)
/-- The number in millionths of a text without a sign, if it is one. -/
def decU (l : List UInt8) : Option Nat :=
  match l.drop (nd l) with
  | [] => if nd l ≤ 6 ∧ nd l ≠ 0 then some (val l * 1000000) else none
  | c :: t => if c.toNat = 46 ∧ nd l ≤ 6 ∧ nd t ≤ 6 ∧ nd t = t.length ∧ nd l + nd t ≠ 0 then some (val (l.take (nd l)) * 1000000 + val t * 10 ^ (6 - nd t)) else none
def dec (l : List UInt8) : Option Int := (decU (strip l).2).map fun n => if (strip l).1 then -(n : Int) else n

theorem nd_of_drop_nil {l : List UInt8} {k : Nat} (hk : k = min 6 (nd l)) (h : l.drop k = []) : nd l = k ∧ k = l.length := by
  have h1 := nd_le l
  have h2 : l.length ≤ k := List.drop_eq_nil_iff.1 h
  omega
theorem decU_A {l : List UInt8} {k : Nat} (hk : k = min 6 (nd l)) (h : l.drop k = []) : decU l = if k = 0 then none else some (val (l.take k) * 1000000) := by
  obtain ⟨h1, h2⟩ := nd_of_drop_nil hk h
  unfold decU
  rw [h1, h]
  have h3 : l.take k = l := by rw [h2]; exact List.take_length
  rw [h3]
  by_cases h0 : k = 0
  · simp [h0]
  · have : k ≤ 6 := by omega
    simp [h0, this]
theorem nd_of_drop_cons {l r : List UInt8} {k : Nat} {c : UInt8} (hk : k = min 6 (nd l)) (h : l.drop k = c :: r) (hc : isD c = false) : nd l = k := by
  have hl : k < l.length := by
    apply Classical.byContradiction; intro hn
    rw [List.drop_eq_nil_iff.2 (by omega)] at h; cases h
  have hc' : l[k] = c := by
    have := List.drop_eq_getElem_cons hl
    rw [h] at this
    injection this with a b; exact a.symm
  exact nd_stop (by omega) hl (by rw [hc']; exact hc)
theorem decU_B {l r : List UInt8} {k : Nat} {c : UInt8} (hk : k = min 6 (nd l)) (h : l.drop k = c :: r) (hc : ¬ c.toNat = 46) : decU l = none := by
  unfold decU
  by_cases h6 : nd l ≤ 6
  · have : nd l = k := by omega
    rw [this, h]
    simp [hc]
  · split
    · simp [h6]
    · simp [h6]
theorem decU_D {l r : List UInt8} {k m : Nat} {c : UInt8} (hk : k = min 6 (nd l)) (h : l.drop k = c :: r) (hc : c.toNat = 46) (hm : m = min 6 (nd r)) :
    decU l = if r.drop m = [] ∧ ¬ k + m = 0 then some (val (l.take k) * 1000000 + val (r.take m) * 10 ^ (6 - m)) else none := by
  have hn := nd_of_drop_cons hk h ((isD_false c).2 (by omega))
  unfold decU
  rw [hn, h]
  simp only
  by_cases h1 : r.drop m = []
  · obtain ⟨e1, e2⟩ := nd_of_drop_nil hm h1
    have e3 : r.take m = r := by rw [e2]; exact List.take_length
    rw [e3, e1]
    by_cases h2 : k + m = 0
    · simp [h2]
    · rw [if_pos ⟨hc, by omega, by omega, e2, h2⟩, if_pos ⟨h1, h2⟩]
  · rw [if_neg (by
      rintro ⟨_, _, h3, h4, _⟩
      apply h1
      apply List.drop_eq_nil_iff.2
      omega), if_neg (by rintro ⟨h3, _⟩; exact h1 h3)]

/-- 2.1: at most six digits ahead of the point. -/
def okN (n : Int) : Bool := decide (-1000000000000 < n) && decide (n < 1000000000000)
theorem okN_iff (n : Int) : okN n = true ↔ -1000000000000 < n ∧ n < 1000000000000 := by simp [okN]
theorem okN_false (n : Int) : okN n = false ↔ n ≤ -1000000000000 ∨ 1000000000000 ≤ n := by
  rw [Bool.eq_false_iff, Ne, okN_iff]; omega
end Go.Proofs.YtecpmnkgikcpnaaDoor.Dp
