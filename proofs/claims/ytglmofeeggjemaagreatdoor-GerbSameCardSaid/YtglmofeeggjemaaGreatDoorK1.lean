/-
  Several texts in one: Dp, Dt, Dq, Ep, Eq, Er.
-/
import Derived.Lib.ItoaLen
import Derived.Lib.TrimByte
set_option linter.unusedVariables false
namespace Go.Proofs.YtglmofeeggjemaaGreatDoor.Dp

def isD (c : UInt8) : Bool := decide (48 ≤ c.toNat) && decide (c.toNat ≤ 57)
/-- How many digits stand at the start. -/
def nd (l : List UInt8) : Nat := (l.takeWhile isD).length
/-- The value of digits. -/
def val (l : List UInt8) : Nat := l.foldl (fun v c => v * 10 + (c.toNat - 48)) 0

theorem isD_iff (c : UInt8) : isD c = true ↔ 48 ≤ c.toNat ∧ c.toNat ≤ 57 := by simp [isD]
theorem isD_false (c : UInt8) : isD c = false ↔ c.toNat < 48 ∨ 57 < c.toNat := by
  rw [Bool.eq_false_iff, Ne, isD_iff]; omega
theorem val_nil : val [] = 0 := rfl
theorem val_snoc (l : List UInt8) (c : UInt8) : val (l ++ [c]) = val l * 10 + (c.toNat - 48) := by simp [val]

theorem nd_nil : nd [] = 0 := rfl
theorem nd_cons (c : UInt8) (l : List UInt8) : nd (c :: l) = if isD c then nd l + 1 else 0 := by
  unfold nd; rw [List.takeWhile_cons]; split <;> simp
theorem nd_le (l : List UInt8) : nd l ≤ l.length := by
  unfold nd; induction l with
  | nil => simp
  | cons c l ih => rw [List.takeWhile_cons]; split <;> simp; omega
theorem nd_spec (l : List UInt8) : (∀ k (h : k < l.length), k < nd l → isD l[k] = true) ∧ (∀ h : nd l < l.length, isD l[nd l] = false) := by
  induction l with
  | nil => simp [nd]
  | cons c l ih =>
    rw [nd_cons]
    by_cases hc : isD c = true
    · rw [if_pos hc]
      refine ⟨fun k h hk => ?_, fun h => ?_⟩
      · cases k with
        | zero => simpa using hc
        | succ k => simpa using ih.1 k (by simpa using h) (by omega)
      · simpa using ih.2 (by simpa using h)
    · rw [if_neg hc]
      exact ⟨fun k h hk => by omega, fun h => by simpa using hc⟩
theorem nd_lt {l : List UInt8} {k : Nat} (hk : k ≤ nd l) (h : k < l.length) (hd : isD l[k] = true) : k < nd l := by
  rcases Nat.lt_or_eq_of_le hk with h1 | h1
  · exact h1
  · subst h1
    have := (nd_spec l).2 h
    rw [this] at hd; cases hd
theorem nd_stop {l : List UInt8} {k : Nat} (hk : k ≤ nd l) (h : k < l.length) (hd : isD l[k] = false) : nd l = k := by
  rcases Nat.lt_or_eq_of_le hk with h1 | h1
  · have := (nd_spec l).1 k h h1
    rw [this] at hd; cases hd
  · exact h1.symm
theorem val_lt (l : List UInt8) (h : ∀ c ∈ l, isD c = true) : val l < 10 ^ l.length := by
  have key : ∀ (l : List UInt8) (v n : Nat), v < 10 ^ n → (∀ c ∈ l, isD c = true) → l.foldl (fun v c => v * 10 + (c.toNat - 48)) v < 10 ^ (n + l.length) := by
    intro l
    induction l with
    | nil => intro v n hv _; simpa using hv
    | cons c l ih =>
      intro v n hv hl
      have hc := (isD_iff c).1 (hl c (by simp))
      have := ih (v * 10 + (c.toNat - 48)) (n + 1) (by rw [Nat.pow_succ]; omega) (fun d hd => hl d (by simp [hd]))
      simp only [List.foldl_cons, List.length_cons]
      rw [show n + (l.length + 1) = n + 1 + l.length by omega]
      exact this
  have := key l 0 0 (by simp) h
  simpa [val] using this
theorem take_nd (l : List UInt8) (k : Nat) (hk : k ≤ nd l) : ∀ c ∈ l.take k, isD c = true := by
  intro c hc
  obtain ⟨i, hi, rfl⟩ := List.mem_iff_getElem.1 hc
  have hi' : i < k ∧ i < l.length := by have := hi; simp at this; omega
  simpa using (nd_spec l).1 i hi'.2 (by omega)
theorem val_take_lt (l : List UInt8) (k : Nat) (hk : k ≤ nd l) : val (l.take k) < 10 ^ k := by
  have h := val_lt _ (take_nd l k hk)
  have hl := nd_le l
  have : (l.take k).length = k := by simp; omega
  rwa [this] at h

/-! ### The number that a text denotes -/
/-- A sign ahead: is it a minus; what follows. -/
def strip : List UInt8 → Bool × List UInt8
  | [] => (false, [])
  | c :: r => if c.toNat = 43 then (false, r) else if c.toNat = 45 then (true, r) else (false, c :: r)
/-- The number in millionths of a text without a sign, if it is one. -/
def decU (l : List UInt8) : Option Nat :=
  match l.drop (nd l) with
  | [] => if nd l ≤ 6 ∧ nd l ≠ 0 then some (val l * 1000000) else none
  | c :: t => if c.toNat = 46 ∧ nd l ≤ 6 ∧ nd t ≤ 6 ∧ nd t = t.length ∧ nd l + nd t ≠ 0 then some (val (l.take (nd l)) * 1000000 + val t * 10 ^ (6 - nd t)) else none
def dec (l : List UInt8) : Option Int := (decU (strip l).2).map fun n => if (strip l).1 then -(n : Int) else n

theorem nd_of_drop_nil {l : List UInt8} {k : Nat} (hk : k = min 6 (nd l)) (h : l.drop k = []) : nd l = k ∧ k = l.length := by
  have h1 := nd_le l
  have h2 : l.length ≤ k := List.drop_eq_nil_iff.1 h
  omega
theorem decU_A {l : List UInt8} {k : Nat} (hk : k = min 6 (nd l)) (h : l.drop k = []) : decU l = if k = 0 then none else some (val (l.take k) * 1000000) := by
  obtain ⟨h1, h2⟩ := nd_of_drop_nil hk h
  unfold decU
  rw [h1, h]
  have h3 : l.take k = l := by rw [h2]; exact List.take_length
  rw [h3]
  by_cases h0 : k = 0
  · simp [h0]
  · have : k ≤ 6 := by omega
    simp [h0, this]
theorem nd_of_drop_cons {l r : List UInt8} {k : Nat} {c : UInt8} (hk : k = min 6 (nd l)) (h : l.drop k = c :: r) (hc : isD c = false) : nd l = k := by
  have hl : k < l.length := by
    apply Classical.byContradiction; intro hn
    rw [List.drop_eq_nil_iff.2 (by omega)] at h; cases h
  have hc' : l[k] = c := by
    have := List.drop_eq_getElem_cons hl
    rw [h] at this
    injection this with a b; exact a.symm
  exact nd_stop (by omega) hl (by rw [hc']; exact hc)
theorem decU_B {l r : List UInt8} {k : Nat} {c : UInt8} (hk : k = min 6 (nd l)) (h : l.drop k = c :: r) (hc : ¬ c.toNat = 46) : decU l = none := by
  unfold decU
  by_cases h6 : nd l ≤ 6
  · have : nd l = k := by omega
    rw [this, h]
    simp [hc]
  · split
    · simp [h6]
    · simp [h6]
theorem decU_D {l r : List UInt8} {k m : Nat} {c : UInt8} (hk : k = min 6 (nd l)) (h : l.drop k = c :: r) (hc : c.toNat = 46) (hm : m = min 6 (nd r)) :
    decU l = if r.drop m = [] ∧ ¬ k + m = 0 then some (val (l.take k) * 1000000 + val (r.take m) * 10 ^ (6 - m)) else none := by
  have hn := nd_of_drop_cons hk h ((isD_false c).2 (by omega))
  unfold decU
  rw [hn, h]
  simp only
  by_cases h1 : r.drop m = []
  · obtain ⟨e1, e2⟩ := nd_of_drop_nil hm h1
    have e3 : r.take m = r := by rw [e2]; exact List.take_length
    rw [e3, e1]
    by_cases h2 : k + m = 0
    · simp [h2]
    · rw [if_pos ⟨hc, by omega, by omega, e2, h2⟩, if_pos ⟨h1, h2⟩]
  · rw [if_neg (by
      rintro ⟨_, _, h3, h4, _⟩
      apply h1
      apply List.drop_eq_nil_iff.2
      omega), if_neg (by rintro ⟨h3, _⟩; exact h1 h3)]

/-- 2.1: at most six digits ahead of the point. -/
def okN (n : Int) : Bool := decide (-1000000000000 < n) && decide (n < 1000000000000)
theorem okN_iff (n : Int) : okN n = true ↔ -1000000000000 < n ∧ n < 1000000000000 := by simp [okN]
theorem okN_false (n : Int) : okN n = false ↔ n ≤ -1000000000000 ∨ 1000000000000 ≤ n := by
  rw [Bool.eq_false_iff, Ne, okN_iff]; omega
end Go.Proofs.YtglmofeeggjemaaGreatDoor.Dp
namespace Go.Proofs.YtglmofeeggjemaaGreatDoor.Dp
open Go.Lib (dg nDigits decDigits trimRightB)

/-- The last k digits, noughts ahead. -/
def pad (n k : Nat) : List UInt8 := (List.range k).map fun t => dg n (k - 1 - t)
theorem pad_zero (n : Nat) : pad n 0 = [] := rfl
theorem pad_succ (n k : Nat) : pad n (k + 1) = dg n k :: pad n k := by
  unfold pad
  rw [List.range_succ_eq_map, List.map_cons, List.map_map]
  congr 1
  apply List.map_congr_left
  intro t ht
  simp only [Function.comp, Nat.succ_eq_add_one]
  congr 1; omega
theorem pad_length (n k : Nat) : (pad n k).length = k := by simp [pad]
theorem dec_pad (n : Nat) : decDigits n = pad n (nDigits n) := Lib.decDigits_eq n
theorem dg_mod (n j : Nat) : dg n j = UInt8.ofNat (48 + n / 10 ^ j % 10) := rfl
theorem dg_toNat (n j : Nat) : (dg n j).toNat = 48 + n / 10 ^ j % 10 := by
  rw [dg_mod, UInt8.toNat_ofNat']; omega
theorem isD_dg (n j : Nat) : isD (dg n j) = true := by rw [isD_iff, dg_toNat]; omega

/-- How many digits, none of 0. -/
def ndz (n : Nat) : Nat := if n = 0 then 0 else nDigits n
theorem lt_pow_ndz (n : Nat) : n < 10 ^ ndz n := by
  unfold ndz; split
  · subst_vars; simp
  · exact Lib.lt_pow_nDigits n
theorem nDigits_le_of_lt : ∀ (k n : Nat), n < 10 ^ k → 1 ≤ k → nDigits n ≤ k
  | 0, _, _, h => by omega
  | k + 1, n, h, _ => by
    by_cases h10 : n < 10
    · rw [Lib.nDigits_small h10]; omega
    · rw [Lib.nDigits_big h10]
      have hk : 1 ≤ k := by
        apply Classical.byContradiction; intro hn
        obtain rfl : k = 0 := by omega
        simp at h; omega
      have := nDigits_le_of_lt k (n / 10) (by rw [Nat.pow_succ] at h; omega) hk
      omega
theorem ndz_gt {n k : Nat} (h : 0 < n / 10 ^ k) : k < ndz n := by
  apply Classical.byContradiction
  intro hn
  have h1 := lt_pow_ndz n
  have h2 : 10 ^ ndz n ≤ 10 ^ k := Nat.pow_le_pow_right (by decide) (by omega)
  rw [Nat.div_eq_of_lt (by omega)] at h; cases h
theorem ndz_le {n k : Nat} (h : n / 10 ^ k = 0) : ndz n ≤ k := by
  unfold ndz
  split
  · omega
  · rename_i h0
    have hlt : n < 10 ^ k := by
      rcases Nat.div_eq_zero_iff.1 h with h | h
      · have := Nat.pow_pos (n := k) (show 0 < 10 by decide); omega
      · exact h
    apply nDigits_le_of_lt k n hlt
    apply Classical.byContradiction; intro hn
    obtain rfl : k = 0 := by omega
    simp at hlt; omega
/-- The reference's Num. -/
def numL (n least : Nat) : List UInt8 := pad n (max least (ndz n))
theorem numL_one (n : Nat) : numL n 1 = decDigits n := by
  rw [dec_pad]; unfold numL ndz
  split
  · subst_vars; rw [Lib.nDigits_small (by omega)]; rfl
  · have := Lib.nDigits_pos n
    rw [show max 1 (nDigits n) = nDigits n by omega]
theorem numL_of_lt {n k : Nat} (h : n < 10 ^ k) : numL n k = pad n k := by
  unfold numL
  rw [show max k (ndz n) = k from Nat.max_eq_left (ndz_le (Nat.div_eq_of_lt h))]
theorem pad_add (x : Nat) (k : Nat) : ∀ j, j ≤ k → pad (10 ^ k + x) j = pad x j
  | 0, _ => rfl
  | j + 1, h => by
    rw [pad_succ, pad_succ, pad_add x k j (by omega)]
    congr 1
    unfold dg
    congr 2
    have : 10 ^ k = 10 ^ (k - j - 1) * 10 * 10 ^ j := by
      rw [← Nat.pow_succ, ← Nat.pow_add]; congr 1; omega
    rw [this, Nat.add_comm, Nat.add_mul_div_right _ _ (Nat.pow_pos (by decide))]
    omega
theorem nDigits_seven {x : Nat} (h : x < 1000000) : nDigits (1000000 + x) = 7 :=
  Lib.nDigits_unique 6 _ (by omega) (by omega)
theorem rest_pad {x : Nat} (h : x < 1000000) : (decDigits (1000000 + x)).drop 1 = pad x 6 := by
  rw [dec_pad, nDigits_seven h, pad_succ]
  exact pad_add x 6 6 (Nat.le_refl _)

theorem trimRightB_length (l : List UInt8) (c : UInt8) : (trimRightB l c).length ≤ l.length := by
  unfold trimRightB
  rw [List.length_reverse]
  have := (List.dropWhile_suffix (l := l.reverse) (· == c)).length_le
  simpa using this

/-- 2.1: the text of a number. -/
def textL (n : Int) : List UInt8 :=
  if okN n = true then (if n < 0 then [45] else []) ++ decDigits (n.natAbs / 1000000) ++ (if n.natAbs % 1000000 = 0 then [] else 46 :: trimRightB (pad (n.natAbs % 1000000) 6) 48) else []
end Go.Proofs.YtglmofeeggjemaaGreatDoor.Dp
namespace Go.Proofs.YtglmofeeggjemaaGreatDoor.Dp
open Go.Lib (dg nDigits decDigits trimRightB)

theorem foldl_val (l : List UInt8) : ∀ v, l.foldl (fun v c => v * 10 + (c.toNat - 48)) v = v * 10 ^ l.length + val l := by
  induction l with
  | nil => intro v; simp [val]
  | cons c l ih =>
    intro v
    unfold val
    simp only [List.foldl_cons, List.length_cons]
    rw [ih, ih (0 * 10 + (c.toNat - 48)), Nat.pow_succ, Nat.add_mul, Nat.zero_mul, Nat.zero_add, Nat.mul_assoc, Nat.mul_comm 10, Nat.add_assoc]
theorem val_cons (c : UInt8) (l : List UInt8) : val (c :: l) = (c.toNat - 48) * 10 ^ l.length + val l := by
  have := foldl_val l (0 * 10 + (c.toNat - 48))
  rw [Nat.zero_mul, Nat.zero_add] at this
  unfold val
  rw [List.foldl_cons, Nat.zero_mul, Nat.zero_add, this]; rfl
theorem val_append (a b : List UInt8) : val (a ++ b) = val a * 10 ^ b.length + val b := by
  have := foldl_val b (val a)
  rw [← this]; unfold val; rw [List.foldl_append]
theorem val_pad (n : Nat) : ∀ k, val (pad n k) = n % 10 ^ k
  | 0 => by simp [pad_zero, val_nil, Nat.mod_one]
  | k + 1 => by
    rw [pad_succ, val_cons, val_pad n k, dg_toNat, pad_length, Nat.pow_succ, Nat.mod_mul]
    rw [show 48 + n / 10 ^ k % 10 - 48 = n / 10 ^ k % 10 by omega, Nat.mul_comm, Nat.add_comm]
theorem val_zeros (m : Nat) : val (List.replicate m 48) = 0 := by
  induction m with
  | zero => rfl
  | succ m ih => rw [List.replicate_succ, val_cons, ih]; simp
theorem digits_pad (n k : Nat) : ∀ c ∈ pad n k, isD c = true := by
  intro c hc
  obtain ⟨t, _, rfl⟩ := List.mem_map.1 hc
  exact isD_dg _ _
theorem takeWhile_all {α : Type} (p : α → Bool) (l : List α) : ∀ b ∈ l.takeWhile p, p b = true := by
  induction l with
  | nil => intro b hb; cases hb
  | cons a l ih =>
    intro b hb
    rw [List.takeWhile_cons] at hb
    split at hb
    · rename_i h
      rcases List.mem_cons.1 hb with rfl | h2
      · exact h
      · exact ih b h2
    · cases hb
theorem trim_split (l : List UInt8) (c : UInt8) : ∃ m, l = trimRightB l c ++ List.replicate m c := by
  unfold trimRightB
  have h := List.takeWhile_append_dropWhile (p := (· == c)) (l := l.reverse)
  refine ⟨(l.reverse.takeWhile (· == c)).length, ?_⟩
  have h2 : l.reverse.takeWhile (· == c) = List.replicate (l.reverse.takeWhile (· == c)).length c := by
    apply List.eq_replicate_iff.2
    refine ⟨rfl, fun b hb => ?_⟩
    have := takeWhile_all (· == c) _ b hb
    simpa using this
  have h3 := congrArg List.reverse h
  rw [List.reverse_append, List.reverse_reverse, h2, List.reverse_replicate] at h3
  rw [h3]
theorem val_trim (l : List UInt8) : val l = val (trimRightB l 48) * 10 ^ (l.length - (trimRightB l 48).length) := by
  obtain ⟨m, hm⟩ := trim_split l 48
  have h1 := congrArg val hm
  rw [val_append, val_zeros, List.length_replicate, Nat.add_zero] at h1
  have h2 := congrArg List.length hm
  rw [List.length_append, List.length_replicate] at h2
  rw [show l.length - (trimRightB l 48).length = m by omega]
  exact h1
theorem digits_trim {l : List UInt8} (h : ∀ c ∈ l, isD c = true) : ∀ c ∈ trimRightB l 48, isD c = true := by
  obtain ⟨m, hm⟩ := trim_split l 48
  intro c hc
  apply h
  rw [hm]
  exact List.mem_append_left _ hc

theorem nd_digits (D : List UInt8) (h : ∀ c ∈ D, isD c = true) (r : List UInt8) : nd (D ++ r) = D.length + nd r := by
  induction D with
  | nil => simp
  | cons c D ih =>
    rw [List.cons_append, nd_cons, if_pos (h c (by simp)), ih (fun d hd => h d (by simp [hd])), List.length_cons]; omega
theorem nd_point (t : List UInt8) : nd (46 :: t) = 0 := by rw [nd_cons]; rfl
theorem decU_whole (D : List UInt8) (h : ∀ c ∈ D, isD c = true) : decU D = if D.length ≤ 6 ∧ D.length ≠ 0 then some (val D * 1000000) else none := by
  have hn : nd D = D.length := by have := nd_digits D h []; simpa [nd_nil] using this
  unfold decU
  rw [hn, List.drop_length]
theorem decU_point (D F : List UInt8) (h : ∀ c ∈ D, isD c = true) (hF : ∀ c ∈ F, isD c = true) :
    decU (D ++ 46 :: F) = if D.length ≤ 6 ∧ F.length ≤ 6 ∧ D.length + F.length ≠ 0 then some (val D * 1000000 + val F * 10 ^ (6 - F.length)) else none := by
  have hn : nd (D ++ 46 :: F) = D.length := by rw [nd_digits D h, nd_point]; rfl
  have hf : nd F = F.length := by have := nd_digits F hF []; simpa [nd_nil] using this
  unfold decU
  rw [hn, List.drop_left, List.take_left]
  simp only
  rw [hf]
  by_cases hg : D.length ≤ 6 ∧ F.length ≤ 6 ∧ D.length + F.length ≠ 0
  · rw [if_pos hg, if_pos ⟨rfl, hg.1, hg.2.1, rfl, hg.2.2⟩]
  · rw [if_neg hg, if_neg (fun h => hg ⟨h.2.1, h.2.2.1, h.2.2.2.2⟩)]
/-- A text that denotes a number without a sign: digits, or digits with one point. -/
theorem decU_form {l : List UInt8} {n : Nat} (h : decU l = some n) :
    (∀ c ∈ l, isD c = true) ∨ ∃ D F, l = D ++ 46 :: F ∧ (∀ c ∈ D, isD c = true) ∧ (∀ c ∈ F, isD c = true) := by
  unfold decU at h
  split at h
  · rename_i hd
    left
    have h1 : l.length ≤ nd l := List.drop_eq_nil_iff.1 hd
    have := take_nd l (nd l) (Nat.le_refl _)
    rwa [List.take_of_length_le h1] at this
  · rename_i c t hd
    split at h
    · rename_i hg
      right
      refine ⟨l.take (nd l), t, ?_, take_nd l (nd l) (Nat.le_refl _), ?_⟩
      · have h46 : c = 46 := UInt8.toNat_inj.1 hg.1
        subst h46
        rw [← hd]; exact (List.take_append_drop _ _).symm
      · have := take_nd t (nd t) (Nat.le_refl _)
        rwa [List.take_of_length_le (by omega)] at this
    · cases h
theorem decU_lt {l : List UInt8} {n : Nat} (h : decU l = some n) : n < 1000000000000 := by
  rcases decU_form h with hd | ⟨D, F, rfl, hD, hF⟩
  · rw [decU_whole l hd] at h
    split at h
    · rename_i hg
      injection h with h
      have h1 := val_lt l hd
      have h2 : 10 ^ l.length ≤ 10 ^ 6 := Nat.pow_le_pow_right (by decide) hg.1
      omega
    · cases h
  · rw [decU_point D F hD hF] at h
    split at h
    · rename_i hg
      injection h with h
      have h1 := val_lt D hD
      have h2 : 10 ^ D.length ≤ 10 ^ 6 := Nat.pow_le_pow_right (by decide) hg.1
      have h3 := val_lt F hF
      have h4 : val F * 10 ^ (6 - F.length) < 10 ^ F.length * 10 ^ (6 - F.length) := Nat.mul_lt_mul_of_pos_right h3 (Nat.pow_pos (by decide))
      rw [← Nat.pow_add, show F.length + (6 - F.length) = 6 by omega] at h4
      omega
    · cases h
theorem dec_ok {l : List UInt8} {n : Int} (h : dec l = some n) : okN n = true := by
  unfold dec at h
  cases hu : decU (strip l).2 with
  | none => rw [hu] at h; cases h
  | some m =>
    have hm := decU_lt hu
    rw [hu] at h
    have h' : (if (strip l).1 = true then -(m : Int) else (m : Int)) = n := by simpa using h
    rw [okN_iff, ← h']
    split <;> omega

theorem strip_digit {c : UInt8} (h : isD c = true) (r : List UInt8) : strip (c :: r) = (false, c :: r) := by
  have := (isD_iff c).1 h
  simp only [strip]
  rw [if_neg (by omega), if_neg (by omega)]
theorem strip_minus (r : List UInt8) : strip (45 :: r) = (true, r) := rfl
theorem strip_plus (r : List UInt8) : strip (43 :: r) = (false, r) := rfl

/-- The text without its sign. -/
def bodyL (a : Nat) : List UInt8 := decDigits (a / 1000000) ++ (if a % 1000000 = 0 then [] else 46 :: trimRightB (pad (a % 1000000) 6) 48)
theorem textL_nonneg (a : Nat) (ha : a < 1000000000000) : textL (a : Int) = bodyL a := by
  unfold textL bodyL
  rw [if_pos ((okN_iff _).2 ⟨by omega, by omega⟩), if_neg (by omega)]
  simp
theorem textL_minus (a : Nat) (h0 : 0 < a) (ha : a < 1000000000000) : textL (-(a : Int)) = 45 :: bodyL a := by
  unfold textL bodyL
  rw [if_pos ((okN_iff _).2 ⟨by omega, by omega⟩), if_pos (by omega)]
  simp
theorem nDigits_le6 {x : Nat} (h : x < 1000000) : nDigits x ≤ 6 := nDigits_le_of_lt 6 x (by simpa using h) (by decide)
theorem decU_body (a : Nat) (ha : a < 1000000000000) : decU (bodyL a) = some a := by
  have hw : a / 1000000 < 1000000 := by omega
  have hl : (decDigits (a / 1000000)).length ≤ 6 ∧ (decDigits (a / 1000000)).length ≠ 0 := by
    rw [Lib.decDigits_length]
    have := Lib.nDigits_pos (a / 1000000)
    exact ⟨nDigits_le6 hw, by omega⟩
  have hd : ∀ c ∈ decDigits (a / 1000000), isD c = true := by rw [dec_pad]; exact digits_pad _ _
  have hv : val (decDigits (a / 1000000)) = a / 1000000 := by
    rw [dec_pad, val_pad]
    exact Nat.mod_eq_of_lt (Lib.lt_pow_nDigits _)
  unfold bodyL
  by_cases hf : a % 1000000 = 0
  · rw [if_pos hf, List.append_nil, decU_whole _ hd, if_pos hl, hv]
    congr 1; omega
  · rw [if_neg hf, decU_point _ _ hd (digits_trim (digits_pad _ _))]
    have h6 : (trimRightB (pad (a % 1000000) 6) 48).length ≤ 6 := by
      have := trimRightB_length (pad (a % 1000000) 6) 48
      rwa [pad_length] at this
    rw [if_pos ⟨hl.1, h6, by omega⟩, hv]
    have ht := val_trim (pad (a % 1000000) 6)
    rw [pad_length, val_pad, Nat.mod_eq_of_lt (show a % 1000000 < 10 ^ 6 by have := Nat.mod_lt a (show 0 < 1000000 by decide); simpa using this)] at ht
    rw [← ht]
    congr 1; omega
theorem body_head (a : Nat) : ∃ c r, bodyL a = c :: r ∧ isD c = true := by
  have hp := Lib.nDigits_pos (a / 1000000)
  unfold bodyL
  rw [dec_pad]
  obtain ⟨k, hk⟩ : ∃ k, nDigits (a / 1000000) = k + 1 := ⟨nDigits (a / 1000000) - 1, by omega⟩
  rw [hk, pad_succ]
  exact ⟨_, _, rfl, isD_dg _ _⟩
theorem body_length (a : Nat) (ha : a < 1000000000000) : (bodyL a).length ≤ 13 := by
  unfold bodyL
  have h1 : (decDigits (a / 1000000)).length ≤ 6 := by rw [Lib.decDigits_length]; exact nDigits_le6 (by omega)
  have h2 : (trimRightB (pad (a % 1000000) 6) 48).length ≤ 6 := by
    have := trimRightB_length (pad (a % 1000000) 6) 48
    rwa [pad_length] at this
  rw [List.length_append]
  split
  · simp; omega
  · simp; omega
theorem strip_body (a : Nat) : strip (bodyL a) = (false, bodyL a) := by
  obtain ⟨c, r, h, hc⟩ := body_head a
  rw [h]; exact strip_digit hc r
theorem dec_body (a : Nat) (ha : a < 1000000000000) : dec (bodyL a) = some (a : Int) := by
  unfold dec; rw [strip_body]; simp [decU_body a ha]
theorem dec_plus_body (a : Nat) (ha : a < 1000000000000) : dec (43 :: bodyL a) = some (a : Int) := by
  unfold dec; rw [strip_plus]; simp [decU_body a ha]
theorem dec_minus_body (a : Nat) (ha : a < 1000000000000) : dec (45 :: bodyL a) = some (-(a : Int)) := by
  unfold dec; rw [strip_minus]; simp [decU_body a ha]
theorem dec_text {n : Int} (h : okN n = true) : dec (textL n) = some n := by
  have hb := (okN_iff n).1 h
  by_cases hn : n < 0
  · obtain ⟨a, rfl⟩ : ∃ a : Nat, n = -(a : Int) := ⟨n.natAbs, by omega⟩
    rw [textL_minus a (by omega) (by omega)]
    exact dec_minus_body a (by omega)
  · obtain ⟨a, rfl⟩ : ∃ a : Nat, n = (a : Int) := ⟨n.natAbs, by omega⟩
    rw [textL_nonneg a (by omega)]
    exact dec_body a (by omega)
theorem text_inj {n m : Int} (h : okN n = true) (h' : okN m = true) (e : textL n = textL m) : n = m := by
  have h1 := dec_text h
  rw [e, dec_text h'] at h1
  injection h1 with h1; exact h1.symm
theorem text_length {n : Int} (h : okN n = true) : (textL n).length ≤ 14 := by
  have hb := (okN_iff n).1 h
  by_cases hn : n < 0
  · obtain ⟨a, rfl⟩ : ∃ a : Nat, n = -(a : Int) := ⟨n.natAbs, by omega⟩
    rw [textL_minus a (by omega) (by omega)]
    have := body_length a (by omega)
    simp; omega
  · obtain ⟨a, rfl⟩ : ∃ a : Nat, n = (a : Int) := ⟨n.natAbs, by omega⟩
    rw [textL_nonneg a (by omega)]
    have := body_length a (by omega)
    omega

/-! ### Texts that denote no number -/
theorem decU_not_mem {l : List UInt8} {c : UInt8} (hc : c ∈ l) (hd : isD c = false) (hp : c ≠ 46) : decU l = none := by
  cases h : decU l with
  | none => rfl
  | some n =>
    exfalso
    rcases decU_form h with h1 | ⟨D, F, rfl, hD, hF⟩
    · rw [h1 c hc] at hd; cases hd
    · rcases List.mem_append.1 hc with h1 | h1
      · rw [hD c h1] at hd; cases hd
      · rcases List.mem_cons.1 h1 with h2 | h2
        · exact hp h2
        · rw [hF c h2] at hd; cases hd
theorem strip_snd_mem {l : List UInt8} {c : UInt8} (hc : c ∈ l) (h43 : c ≠ 43) (h45 : c ≠ 45) : c ∈ (strip l).2 := by
  cases l with
  | nil => cases hc
  | cons d r =>
    simp only [strip]
    have hr : c ≠ d → c ∈ r := fun h => (List.mem_cons.1 hc).resolve_left h
    split
    · rename_i h; exact hr (fun e => h43 (by rw [e]; exact UInt8.toNat_inj.1 h))
    · split
      · rename_i h; exact hr (fun e => h45 (by rw [e]; exact UInt8.toNat_inj.1 h))
      · exact hc
theorem dec_blank (l : List UInt8) : dec (l ++ [32]) = none := by
  unfold dec
  rw [decU_not_mem (c := 32) (strip_snd_mem (by simp) (by decide) (by decide)) (by decide) (by decide)]; rfl
theorem count_digits {D : List UInt8} (h : ∀ c ∈ D, isD c = true) : D.count 46 = 0 := by
  apply List.count_eq_zero.2
  intro hm
  have := h 46 hm
  revert this; decide
theorem decU_points {l : List UInt8} (h : 2 ≤ l.count 46) : decU l = none := by
  cases hd : decU l with
  | none => rfl
  | some n =>
    exfalso
    rcases decU_form hd with h1 | ⟨D, F, rfl, hD, hF⟩
    · rw [count_digits h1] at h; omega
    · rw [List.count_append, List.count_cons, count_digits hD, count_digits hF] at h
      simp at h
theorem strip_count (l : List UInt8) : (strip l).2.count 46 = l.count 46 := by
  cases l with
  | nil => rfl
  | cons d r =>
    simp only [strip]
    split
    · rename_i h
      have : d = 43 := UInt8.toNat_inj.1 h
      subst this; simp
    · split
      · rename_i h
        have : d = 45 := UInt8.toNat_inj.1 h
        subst this; simp
      · rfl
theorem dec_points (l : List UInt8) : dec (l ++ [46, 46]) = none := by
  unfold dec
  rw [decU_points (by rw [strip_count, List.count_append]; simp)]; rfl
end Go.Proofs.YtglmofeeggjemaaGreatDoor.Dp
namespace Go.Proofs.YtglmofeeggjemaaGreatDoor.Ep
open Go.Proofs.YtglmofeeggjemaaGreatDoor.Dp

/-- What is left to be read, the operations so far, the error. -/
structure St where
  r : List UInt8
  ops : List (Int × Int)
  e : Nat
def hd (r : List UInt8) : UInt8 := r.headD 0
def put (st : St) (k n : Int) : St := if st.e = 0 then ⟨st.r, st.ops ++ [(k, n)], 0⟩ else st
def varN (D : List UInt8) : Nat := D.foldl (fun n c => min (10 * n + (c.toNat - 48)) 100) 0
def varV (st : St) : St :=
  if varN ((st.r.drop 1).take (nd (st.r.drop 1))) < 1 ∨ 99 < varN ((st.r.drop 1).take (nd (st.r.drop 1))) ∨ hd (st.r.drop 1) = 48 then ⟨st.r, st.ops, 3⟩
  else ⟨(st.r.drop 1).drop (nd (st.r.drop 1)), st.ops ++ [(2, (varN ((st.r.drop 1).take (nd (st.r.drop 1))) : Int))], 0⟩
/-- How long a number is: digits, at most one point, digits. -/
def numLen (r : List UInt8) : Nat := if hd (r.drop (nd r)) = 46 then nd r + 1 + nd (r.drop (nd r + 1)) else nd r
def numV (st : St) : St :=
  match dec (st.r.take (numLen st.r)) with
  | none => ⟨st.r, st.ops, 3⟩
  | some n => ⟨st.r.drop (numLen st.r), st.ops ++ [(1, n)], 0⟩
def isSign (c : UInt8) : Bool := c == 43 || c == 45 || c == 40
def leafV (st : St) : St := if hd st.r = 36 then varV st else if (hd st.r == 46 || isD (hd st.r)) = true then numV st else ⟨st.r, st.ops, 3⟩
def opP (c : UInt8) : Option Nat := if c = 120 ∨ c = 88 then some 5 else if c = 47 then some 6 else none
def opS (c : UInt8) : Option Nat := if c = 43 then some 3 else if c = 45 then some 4 else none
/-- Operands with signs between them, from the left. -/
def loopV (op : UInt8 → Option Nat) (f : St → St) : Nat → St → St
  | 0, st => st
  | k + 1, st => if st.e = 0 then (match op (hd st.r) with | none => st | some q => loopV op f k (put (f ⟨st.r.drop 1, st.ops, 0⟩) q 0)) else st
def prodV (f : St → St) (st : St) : St := loopV opP f (st.r.length + 1) (f st)
def sumV (f : St → St) (st : St) : St := loopV opS (prodV f) (st.r.length + 1) (prodV f st)
/-- What stands in parentheses, the closing one. -/
def shutV (st : St) : St := if st.e = 0 then (if hd st.r = 41 then ⟨st.r.drop 1, st.ops, 0⟩ else ⟨st.r, st.ops, 3⟩) else st
def innerV (f : St → St) (c : UInt8) (st : St) : St :=
  if c = 40 then shutV (sumV f st) else if c = 45 then put (f st) 7 0 else f st
def factorV : Nat → St → St
  | 0, st => if isSign (hd st.r) = true then ⟨st.r, st.ops, 6⟩ else leafV st
  | d + 1, st => if isSign (hd st.r) = true then innerV (factorV d) (hd st.r) ⟨st.r.drop 1, st.ops, st.e⟩ else leafV st
/-- 12.2: the operations, the place, the error. -/
def endV (st : St) : Nat := if st.e = 0 then (if st.r = [] then 0 else 3) else st.e
def runV (s : List UInt8) : St := sumV (factorV 30) ⟨s, [], 0⟩
def parseV (s : List UInt8) : List (Int × Int) × Nat × Nat :=
  if 300 < s.length then ([], 0, 6) else if endV (runV s) = 0 then ((runV s).ops, 0, 0) else ([], s.length - (runV s).r.length, endV (runV s))

/-! ### What is left grows no longer -/
theorem put_r (st : St) (k n : Int) : (put st k n).r = st.r := by unfold put; split <;> rfl
theorem varV_le (st : St) : (varV st).r.length ≤ st.r.length := by
  unfold varV; split
  · exact Nat.le_refl _
  · simp only [List.length_drop]; omega
theorem numV_le (st : St) : (numV st).r.length ≤ st.r.length := by
  unfold numV; split
  · exact Nat.le_refl _
  · simp
theorem leafV_le (st : St) : (leafV st).r.length ≤ st.r.length := by
  unfold leafV; split
  · exact varV_le st
  · split
    · exact numV_le st
    · exact Nat.le_refl _
/-- f leaves no more than there was. -/
def Down (f : St → St) : Prop := ∀ st, (f st).r.length ≤ st.r.length
theorem loopV_le {op : UInt8 → Option Nat} {f : St → St} (hf : Down f) : ∀ k st, (loopV op f k st).r.length ≤ st.r.length
  | 0, st => Nat.le_refl _
  | k + 1, st => by
    rw [loopV]
    split
    · split
      · exact Nat.le_refl _
      · rename_i q _
        have h1 := loopV_le (op := op) hf k (put (f ⟨st.r.drop 1, st.ops, 0⟩) q 0)
        rw [put_r] at h1
        have h2 := hf ⟨st.r.drop 1, st.ops, 0⟩
        simp only [List.length_drop] at h2
        omega
    · exact Nat.le_refl _
theorem prodV_le {f : St → St} (hf : Down f) : Down (prodV f) := fun st => Nat.le_trans (loopV_le hf _ _) (hf st)
theorem sumV_le {f : St → St} (hf : Down f) : Down (sumV f) := fun st => Nat.le_trans (loopV_le (prodV_le hf) _ _) (prodV_le hf st)
theorem shutV_le (st : St) : (shutV st).r.length ≤ st.r.length := by
  unfold shutV; split
  · split
    · simp
    · exact Nat.le_refl _
  · exact Nat.le_refl _
theorem innerV_le {f : St → St} (hf : Down f) (c : UInt8) : Down (innerV f c) := fun st => by
  unfold innerV; split
  · exact Nat.le_trans (shutV_le _) (sumV_le hf st)
  · split
    · rw [put_r]; exact hf st
    · exact hf st
theorem factorV_le : ∀ d, Down (factorV d)
  | 0, st => by
    rw [factorV]; split
    · exact Nat.le_refl _
    · exact leafV_le st
  | d + 1, st => by
    rw [factorV]; split
    · have := innerV_le (factorV_le d) (hd st.r) ⟨st.r.drop 1, st.ops, st.e⟩
      simp only [List.length_drop] at this; omega
    · exact leafV_le st

theorem loop_stop {op : UInt8 → Option Nat} {f : St → St} (k : Nat) {st : St} (h : st.e = 0 → op (hd st.r) = none) : loopV op f k st = st := by
  cases k with
  | zero => rfl
  | succ k =>
    rw [loopV]
    split
    · rename_i he
      rw [h he]
    · rfl
theorem loop_step {op : UInt8 → Option Nat} {f : St → St} (k : Nat) {st : St} {q : Nat} (he : st.e = 0) (h : op (hd st.r) = some q) : loopV op f (k + 1) st = loopV op f k (put (f ⟨st.r.drop 1, st.ops, 0⟩) q 0) := by
  rw [loopV, if_pos he, h]
theorem op_ne {op : UInt8 → Option Nat} (h0 : op 0 = none) {r : List UInt8} {q : Nat} (h : op (hd r) = some q) : r ≠ [] := by
  rintro rfl
  rw [show hd [] = 0 from rfl, h0] at h; cases h
/-- Enough rounds are enough. -/
theorem loop_fuel {op : UInt8 → Option Nat} (h0 : op 0 = none) {f : St → St} (hf : Down f) : ∀ (k m : Nat) (st : St), st.r.length < k → st.r.length < m → loopV op f k st = loopV op f m st
  | 0, _, _, h, _ => by omega
  | _, 0, _, _, h => by omega
  | k + 1, m + 1, st, hk, hm => by
    rw [loopV, loopV]
    split
    · split
      · rfl
      · rename_i q hq
        have hne := op_ne h0 hq
        have hlt : 0 < st.r.length := List.length_pos_iff.2 hne
        have h2 := hf ⟨st.r.drop 1, st.ops, 0⟩
        simp only [List.length_drop] at h2
        exact loop_fuel h0 hf k m _ (by rw [put_r]; omega) (by rw [put_r]; omega)
    · rfl

/-! ### The grammar -/
inductive T where
  | num (n : Nat)
  | var (n : Nat)
  | neg (t : T)
  | bin (k : Nat) (a b : T)
def opsT : T → List (Int × Int)
  | .num n => [(1, (n : Int))]
  | .var n => [(2, (n : Int))]
  | .neg t => opsT t ++ [(7, 0)]
  | .bin k a b => opsT a ++ (opsT b ++ [((k : Int), 0)])
/-- Digits, with at most one point. -/
def NumLit (u : List UInt8) : Prop := u ≠ [] ∧ ((∀ c ∈ u, isD c = true) ∨ ∃ D F, u = D ++ 46 :: F ∧ (∀ c ∈ D, isD c = true) ∧ ∀ c ∈ F, isD c = true)
/-- Level 0: a factor; 1: a product; 2: a sum; within d parentheses and signs. -/
inductive G : Nat → Nat → List UInt8 → T → Prop where
  | num {d : Nat} {u : List UInt8} {n : Nat} : NumLit u → dec u = some (n : Int) → G 0 d u (.num n)
  | var {d : Nat} {u : List UInt8} {n : Nat} : (∀ c ∈ u, isD c = true) → varN u = n → 1 ≤ n → n ≤ 99 → hd u ≠ 48 → G 0 d (36 :: u) (.var n)
  | plus {d : Nat} {u : List UInt8} {t : T} : G 0 d u t → G 0 (d + 1) (43 :: u) t
  | neg {d : Nat} {u : List UInt8} {t : T} : G 0 d u t → G 0 (d + 1) (45 :: u) (.neg t)
  | par {d : Nat} {u : List UInt8} {t : T} : G 2 d u t → G 0 (d + 1) (40 :: (u ++ [41])) t
  | pone {d : Nat} {u : List UInt8} {t : T} : G 0 d u t → G 1 d u t
  | pop {d : Nat} {u v : List UInt8} {c : UInt8} {k : Nat} {a b : T} : G 1 d u a → G 0 d v b → opP c = some k → G 1 d (u ++ c :: v) (.bin k a b)
  | sone {d : Nat} {u : List UInt8} {t : T} : G 1 d u t → G 2 d u t
  | sop {d : Nat} {u v : List UInt8} {c : UInt8} {k : Nat} {a b : T} : G 2 d u a → G 1 d v b → opS c = some k → G 2 d (u ++ c :: v) (.bin k a b)

/-- What may follow. -/
def stop0 (r : List UInt8) : Prop := isD (hd r) = false ∧ hd r ≠ 46
theorem nd_stop0 {u r : List UInt8} (hu : ∀ c ∈ u, isD c = true) (hr : isD (hd r) = false) : nd (u ++ r) = u.length := by
  rw [nd_digits u hu]
  cases r with
  | nil => simp [nd_nil]
  | cons c r =>
    rw [nd_cons, if_neg (by rw [show c = hd (c :: r) from rfl, hr]; decide)]; rfl
theorem opP_some {c : UInt8} {k : Nat} (h : opP c = some k) : isD c = false ∧ c ≠ 46 := by
  unfold opP at h
  split at h
  · rename_i hc
    rcases hc with rfl | rfl <;> decide
  · split at h
    · rename_i hc; subst hc; decide
    · cases h
theorem opS_some {c : UInt8} {k : Nat} (h : opS c = some k) : isD c = false ∧ c ≠ 46 ∧ opP c = none := by
  unfold opS at h
  split at h
  · rename_i hc; subst hc; decide
  · split at h
    · rename_i hc; subst hc; decide
    · cases h
theorem digit_leaf {c : UInt8} (h : isD c = true) : isSign c = false ∧ c ≠ 36 := by
  have h1 := (isD_iff c).1 h
  refine ⟨?_, ?_⟩
  · unfold isSign
    simp only [Bool.or_eq_false_iff, beq_eq_false_iff_ne]
    refine ⟨⟨?_, ?_⟩, ?_⟩ <;> (rintro rfl; revert h1; decide)
  · rintro rfl; revert h1; decide
theorem num_len {u r : List UInt8} (hu : NumLit u) (hr : stop0 r) : numLen (u ++ r) = u.length := by
  unfold numLen
  rcases hu.2 with hD | ⟨D, F, rfl, hD, hF⟩
  · rw [nd_stop0 hD hr.1, List.drop_left, if_neg hr.2]
  · have h1 : nd ((D ++ 46 :: F) ++ r) = D.length := by
      rw [List.append_assoc]
      exact nd_stop0 hD (by show isD 46 = false; decide)
    rw [h1]
    have h2 : ((D ++ 46 :: F) ++ r).drop D.length = 46 :: (F ++ r) := by rw [List.append_assoc, List.drop_left]; rfl
    have h3 : ((D ++ 46 :: F) ++ r).drop (D.length + 1) = F ++ r := by rw [← List.drop_drop, h2]; rfl
    rw [h2, h3, if_pos (show hd (46 :: (F ++ r)) = 46 from rfl), nd_stop0 hF hr.1]
    simp; omega
theorem lit_head {u : List UInt8} (hu : NumLit u) (r : List UInt8) : (hd (u ++ r) = 46 ∨ isD (hd (u ++ r)) = true) := by
  obtain ⟨hne, h⟩ := hu
  cases u with
  | nil => exact absurd rfl hne
  | cons c u =>
    show c = 46 ∨ isD c = true
    rcases h with h | ⟨D, F, h, hD, _⟩
    · exact .inr (h c (by simp))
    · cases D with
      | nil => injection h with h _; exact .inl h
      | cons x D => injection h with h _; exact .inr (by rw [h]; exact hD x (by simp))
theorem leaf_num {u r : List UInt8} {n : Nat} (hu : NumLit u) (hn : dec u = some (n : Int)) (hr : stop0 r) (ops : List (Int × Int)) (e : Nat) : isSign (hd (u ++ r)) = false ∧ leafV ⟨u ++ r, ops, e⟩ = ⟨r, ops ++ [(1, (n : Int))], 0⟩ := by
  have hh := lit_head hu r
  have hs : isSign (hd (u ++ r)) = false ∧ hd (u ++ r) ≠ 36 := by
    rcases hh with h | h
    · rw [h]; decide
    · exact digit_leaf h
  refine ⟨hs.1, ?_⟩
  unfold leafV
  rw [if_neg hs.2, if_pos (by rcases hh with h | h <;> simp [h])]
  unfold numV
  simp only [num_len hu hr, List.take_left, List.drop_left, hn]
theorem leaf_var {u r : List UInt8} {n : Nat} (hu : ∀ c ∈ u, isD c = true) (hn : varN u = n) (h1 : 1 ≤ n) (h2 : n ≤ 99) (h3 : hd u ≠ 48) (hr : isD (hd r) = false) (ops : List (Int × Int)) (e : Nat) : leafV ⟨36 :: u ++ r, ops, e⟩ = ⟨r, ops ++ [(2, (n : Int))], 0⟩ := by
  have hd1 : (36 :: u ++ r).drop 1 = u ++ r := rfl
  unfold leafV
  rw [if_pos (show hd (36 :: u ++ r) = 36 from rfl)]
  unfold varV
  simp only [hd1, nd_stop0 hu hr, List.take_left, List.drop_left, hn]
  rw [if_neg]
  rintro (h | h | h)
  · omega
  · omega
  · cases u with
    | nil => subst hn; revert h1; decide
    | cons c u => exact h3 h

/-- The grammar is what is read. -/
theorem run_G : ∀ {l d : Nat} {u : List UInt8} {t : T}, G l d u t → ∀ (r : List UInt8) (ops : List (Int × Int)), stop0 r →
    (l = 0 → factorV d ⟨u ++ r, ops, 0⟩ = ⟨r, ops ++ opsT t, 0⟩) ∧
    (l = 1 → prodV (factorV d) ⟨u ++ r, ops, 0⟩ = loopV opP (factorV d) (r.length + 1) ⟨r, ops ++ opsT t, 0⟩) ∧
    (l = 2 → opP (hd r) = none → sumV (factorV d) ⟨u ++ r, ops, 0⟩ = loopV opS (prodV (factorV d)) (r.length + 1) ⟨r, ops ++ opsT t, 0⟩) := by
  intro l d u t h
  induction h with
  | @num d u n hu hn =>
    intro r ops hr
    refine ⟨fun _ => ?_, (fun h => by cases h), (fun h => by cases h)⟩
    obtain ⟨h1, h2⟩ := leaf_num hu hn hr ops 0
    cases d <;> (rw [factorV, if_neg (by rw [h1]; decide)]; exact h2)
  | @var d u n hu hn h1 h2 h3 =>
    intro r ops hr
    refine ⟨fun _ => ?_, (fun h => by cases h), (fun h => by cases h)⟩
    cases d <;> (rw [factorV, if_neg (by show ¬ isSign 36 = true; decide)]; exact leaf_var hu hn h1 h2 h3 hr.1 ops 0)
  | @plus d u t _ ih =>
    intro r ops hr
    refine ⟨fun _ => ?_, (fun h => by cases h), (fun h => by cases h)⟩
    rw [factorV, if_pos (by show isSign 43 = true; decide)]
    show innerV (factorV d) 43 ⟨u ++ r, ops, 0⟩ = _
    unfold innerV
    rw [if_neg (by decide), if_neg (by decide)]
    exact (ih r ops hr).1 rfl
  | @neg d u t _ ih =>
    intro r ops hr
    refine ⟨fun _ => ?_, (fun h => by cases h), (fun h => by cases h)⟩
    rw [factorV, if_pos (by show isSign 45 = true; decide)]
    show innerV (factorV d) 45 ⟨u ++ r, ops, 0⟩ = _
    unfold innerV
    rw [if_neg (by decide), if_pos rfl, (ih r ops hr).1 rfl]
    unfold put
    rw [if_pos rfl]
    simp [opsT]
  | @par d u t _ ih =>
    intro r ops hr
    refine ⟨fun _ => ?_, (fun h => by cases h), (fun h => by cases h)⟩
    rw [factorV, if_pos (by show isSign 40 = true; decide)]
    show innerV (factorV d) 40 ⟨(u ++ [41]) ++ r, ops, 0⟩ = _
    unfold innerV
    rw [if_pos rfl, List.append_assoc]
    have hs : stop0 (41 :: r) := ⟨by show isD 41 = false; decide, by show (41 : UInt8) ≠ 46; decide⟩
    have := (ih (41 :: r) ops hs).2.2 rfl (by show opP 41 = none; decide)
    rw [show [41] ++ r = 41 :: r from rfl, this, loop_stop _ (fun _ => by show opS 41 = none; decide)]
    unfold shutV
    rw [if_pos rfl]
    exact (if_pos (show hd (41 :: r) = 41 from rfl)).trans rfl
  | @pone d u t _ ih =>
    intro r ops hr
    refine ⟨(fun h => by cases h), fun _ => ?_, (fun h => by cases h)⟩
    unfold prodV
    rw [(ih r ops hr).1 rfl]
    exact loop_fuel rfl (factorV_le d) _ _ _ (by simp; omega) (by simp)
  | @pop d u v c k a b _ _ hc iha ihb =>
    intro r ops hr
    refine ⟨(fun h => by cases h), fun _ => ?_, (fun h => by cases h)⟩
    have hs : stop0 (c :: (v ++ r)) := ⟨(opP_some hc).1, (opP_some hc).2⟩
    have h1 := (iha (c :: (v ++ r)) ops hs).2.1 rfl
    rw [show (u ++ c :: v) ++ r = u ++ (c :: (v ++ r)) by simp, h1, loop_step _ rfl hc]
    show loopV opP (factorV d) _ (put (factorV d ⟨v ++ r, ops ++ opsT a, 0⟩) k 0) = _
    rw [(ihb r _ hr).1 rfl]
    unfold put
    rw [if_pos rfl]
    simp only [opsT, List.append_assoc]
    exact loop_fuel rfl (factorV_le d) _ _ _ (by simp; omega) (by simp)
  | @sone d u t _ ih =>
    intro r ops hr
    refine ⟨(fun h => by cases h), (fun h => by cases h), fun _ hp => ?_⟩
    unfold sumV
    rw [(ih r ops hr).2.1 rfl, loop_stop (op := opP) _ (st := ⟨r, ops ++ opsT t, 0⟩) (fun _ => hp)]
    exact loop_fuel rfl (prodV_le (factorV_le d)) _ _ _ (by simp; omega) (by simp)
  | @sop d u v c k a b _ _ hc iha ihb =>
    intro r ops hr
    refine ⟨(fun h => by cases h), (fun h => by cases h), fun _ hp => ?_⟩
    obtain ⟨hc1, hc2, hc3⟩ := opS_some hc
    have h1 := (iha (c :: (v ++ r)) ops ⟨hc1, hc2⟩).2.2 rfl hc3
    rw [show (u ++ c :: v) ++ r = u ++ (c :: (v ++ r)) by simp, h1, loop_step _ rfl hc]
    show loopV opS (prodV (factorV d)) _ (put (prodV (factorV d) ⟨v ++ r, ops ++ opsT a, 0⟩) k 0) = _
    rw [(ihb r _ hr).2.1 rfl, loop_stop (op := opP) _ (st := ⟨r, (ops ++ opsT a) ++ opsT b, 0⟩) (fun _ => hp)]
    unfold put
    rw [if_pos rfl]
    simp only [opsT, List.append_assoc]
    exact loop_fuel rfl (prodV_le (factorV_le d)) _ _ _ (by simp; omega) (by simp)

theorem stop_nil : stop0 [] := ⟨by decide, by decide⟩
/-- A sum that is the whole text. -/
theorem parse_G {s : List UInt8} {t : T} (h : G 2 30 s t) (hs : s.length ≤ 300) : parseV s = (opsT t, 0, 0) := by
  have h1 := (run_G h [] [] stop_nil).2.2 rfl rfl
  rw [List.append_nil, loop_stop _ (fun _ => rfl)] at h1
  unfold parseV runV
  rw [if_neg (by omega), h1]
  rfl
end Go.Proofs.YtglmofeeggjemaaGreatDoor.Ep
namespace Go.Proofs.YtglmofeeggjemaaGreatDoor.Ep
open Go.Proofs.YtglmofeeggjemaaGreatDoor.Dp
open Go.Lib (decDigits nDigits)

theorem hd_cons {r : List UInt8} (h : r ≠ []) : r = hd r :: r.drop 1 := by
  cases r with
  | nil => exact absurd rfl h
  | cons c r => rfl
theorem strip_lit {u : List UInt8} (h : hd u = 46 ∨ isD (hd u) = true) (hne : u ≠ []) : strip u = (false, u) := by
  cases u with
  | nil => exact absurd rfl hne
  | cons c u =>
    rcases h with h | h
    · have : c = 46 := h
      subst this
      rfl
    · exact strip_digit h u
theorem num_sound {u : List UInt8} {n : Int} (h : hd u = 46 ∨ isD (hd u) = true) (hne : u ≠ []) (hn : dec u = some n) : ∃ m : Nat, n = (m : Int) ∧ NumLit u := by
  unfold dec at hn
  rw [strip_lit h hne] at hn
  cases hu : decU u with
  | none => rw [hu] at hn; cases hn
  | some m =>
    rw [hu] at hn
    simp at hn
    exact ⟨m, hn.symm, hne, decU_form hu⟩
theorem hd_take {r : List UInt8} {k : Nat} (hk : 0 < k) : hd (r.take k) = hd r := by
  cases r with
  | nil => simp
  | cons c r =>
    obtain ⟨k, rfl⟩ : ∃ j, k = j + 1 := ⟨k - 1, by omega⟩
    rfl
theorem numLen_pos {r : List UInt8} (h : hd r = 46 ∨ isD (hd r) = true) : 0 < numLen r := by
  unfold numLen
  cases r with
  | nil => rcases h with h | h <;> (revert h; decide)
  | cons c r =>
    by_cases hd1 : isD c = true
    · have : 0 < nd (c :: r) := by rw [nd_cons, if_pos hd1]; omega
      split <;> omega
    · have h46 : c = 46 := by
        rcases h with h | h
        · exact h
        · exact absurd h hd1
      subst h46
      have : nd (46 :: r) = 0 := nd_point r
      rw [this]
      rw [if_pos (show hd (List.drop 0 (46 :: r)) = 46 from rfl)]
      omega
theorem leaf_sound {st : St} (h : (leafV st).e = 0) : ∃ u t, st.r = u ++ (leafV st).r ∧ (leafV st).ops = st.ops ++ opsT t ∧ ∀ d, G 0 d u t := by
  unfold leafV at h ⊢
  by_cases h36 : hd st.r = 36
  · rw [if_pos h36] at h ⊢
    unfold varV at h ⊢
    split at h
    · cases h
    · rename_i hc
      rw [if_neg hc]
      have hne : st.r ≠ [] := by intro e; rw [e] at h36; revert h36; decide
      have hr := hd_cons hne
      rw [h36] at hr
      generalize st.r.drop 1 = x at hc hr
      refine ⟨36 :: x.take (nd x), .var (varN (x.take (nd x))), ?_, rfl, fun d => .var (take_nd x _ (Nat.le_refl _)) rfl (by omega) (by omega) ?_⟩
      · rw [hr, List.cons_append, List.take_append_drop]
      · intro h0
        apply hc
        right; right
        by_cases hx : nd x = 0
        · rw [hx, List.take_zero] at h0; exact absurd h0 (by decide)
        · rw [hd_take (by omega)] at h0; exact h0
  · rw [if_neg h36] at h ⊢
    by_cases hn : (hd st.r == 46 || isD (hd st.r)) = true
    · rw [if_pos hn] at h ⊢
      have hlit : hd st.r = 46 ∨ isD (hd st.r) = true := by simpa using hn
      unfold numV at h ⊢
      cases hdec : dec (st.r.take (numLen st.r)) with
      | none => rw [hdec] at h; cases h
      | some n =>
        simp only
        have hp := numLen_pos hlit
        have hne : st.r.take (numLen st.r) ≠ [] := by
          intro e
          have h1 := hd_take (r := st.r) hp
          rw [e] at h1
          rw [← h1] at hlit
          rcases hlit with h | h <;> (revert h; decide)
        obtain ⟨m, rfl, hl⟩ := num_sound (by rw [hd_take hp]; exact hlit) hne hdec
        exact ⟨st.r.take (numLen st.r), .num m, (List.take_append_drop _ _).symm, rfl, fun d => .num hl hdec⟩
    · rw [if_neg hn] at h; cases h

theorem put_e {st : St} {k n : Int} (h : (put st k n).e = 0) : st.e = 0 ∧ (put st k n).ops = st.ops ++ [(k, n)] := by
  unfold put at h ⊢
  split
  · rename_i he; exact ⟨he, rfl⟩
  · rename_i he; rw [if_neg he] at h; exact absurd h he
theorem loop_sound {op : UInt8 → Option Nat} (h0 : op 0 = none) {f : St → St} {lc lf d : Nat} (hf : ∀ st, (f st).e = 0 → ∃ v b, st.r = v ++ (f st).r ∧ (f st).ops = st.ops ++ opsT b ∧ G lf d v b)
    (hc : ∀ {u v : List UInt8} {c : UInt8} {k : Nat} {a b : T}, G lc d u a → G lf d v b → op c = some k → G lc d (u ++ c :: v) (.bin k a b)) :
    ∀ (k : Nat) (st : St) (u r0 : List UInt8) (a : T) (ops0 : List (Int × Int)), r0 = u ++ st.r → st.ops = ops0 ++ opsT a → G lc d u a → (loopV op f k st).e = 0 →
      ∃ u' t, r0 = u' ++ (loopV op f k st).r ∧ (loopV op f k st).ops = ops0 ++ opsT t ∧ G lc d u' t
  | 0, st, u, r0, a, ops0, h1, h2, h3, _ => ⟨u, a, h1, h2, h3⟩
  | k + 1, st, u, r0, a, ops0, h1, h2, h3, he => by
    rw [loopV] at he ⊢
    by_cases hz : st.e = 0
    · rw [if_pos hz] at he ⊢
      cases hq : op (hd st.r) with
      | none => exact ⟨u, a, h1, h2, h3⟩
      | some q =>
        rw [hq] at he
        simp only at he ⊢
        have hr := hd_cons (op_ne h0 hq)
        have hpe : (put (f ⟨st.r.drop 1, st.ops, 0⟩) q 0).e = 0 := by
          apply Classical.byContradiction
          intro hn
          rw [loop_stop _ (fun h => absurd h hn)] at he
          exact hn he
        obtain ⟨hfe, hpo⟩ := put_e hpe
        obtain ⟨v, b, g1, g2, g3⟩ := hf _ hfe
        refine loop_sound h0 hf hc k _ (u ++ hd st.r :: v) r0 (.bin q a b) ops0 ?_ ?_ (hc h3 g3 hq) he
        · rw [put_r, h1, hr, List.append_assoc]
          congr 1
          rw [List.cons_append]
          congr 1
        · rw [hpo, g2, h2]
          simp [opsT]
    · rw [if_neg hz] at he
      exact absurd he hz
theorem prod_sound {d : Nat} {f : St → St} (hf : ∀ st, (f st).e = 0 → ∃ v b, st.r = v ++ (f st).r ∧ (f st).ops = st.ops ++ opsT b ∧ G 0 d v b) (st : St) (h : (prodV f st).e = 0) :
    ∃ v b, st.r = v ++ (prodV f st).r ∧ (prodV f st).ops = st.ops ++ opsT b ∧ G 1 d v b := by
  have hfe : (f st).e = 0 := by
    apply Classical.byContradiction
    intro hn
    unfold prodV at h
    rw [loop_stop _ (fun h => absurd h hn)] at h
    exact hn h
  obtain ⟨v, b, g1, g2, g3⟩ := hf st hfe
  exact loop_sound rfl hf (fun h1 h2 h3 => .pop h1 h2 h3) _ (f st) v st.r b st.ops g1 g2 (.pone g3) h
theorem sum_sound {d : Nat} {f : St → St} (hf : ∀ st, (f st).e = 0 → ∃ v b, st.r = v ++ (f st).r ∧ (f st).ops = st.ops ++ opsT b ∧ G 0 d v b) (st : St) (h : (sumV f st).e = 0) :
    ∃ v b, st.r = v ++ (sumV f st).r ∧ (sumV f st).ops = st.ops ++ opsT b ∧ G 2 d v b := by
  have hfe : (prodV f st).e = 0 := by
    apply Classical.byContradiction
    intro hn
    unfold sumV at h
    rw [loop_stop _ (fun h => absurd h hn)] at h
    exact hn h
  obtain ⟨v, b, g1, g2, g3⟩ := prod_sound hf st hfe
  exact loop_sound rfl (prod_sound hf) (fun h1 h2 h3 => .sop h1 h2 h3) _ (prodV f st) v st.r b st.ops g1 g2 (.sone g3) h
theorem sign_cases {c : UInt8} (h : isSign c = true) : c = 43 ∨ c = 45 ∨ c = 40 := by
  unfold isSign at h
  simp at h
  rcases h with (h | h) | h
  · exact .inl h
  · exact .inr (.inl h)
  · exact .inr (.inr h)
/-- What is read is of the grammar. -/
theorem factor_sound : ∀ (d : Nat) (st : St), (factorV d st).e = 0 → ∃ u t, st.r = u ++ (factorV d st).r ∧ (factorV d st).ops = st.ops ++ opsT t ∧ G 0 d u t
  | 0, st, h => by
    rw [factorV] at h ⊢
    split at h
    · cases h
    · rename_i hs
      rw [if_neg hs]
      obtain ⟨u, t, h1, h2, h3⟩ := leaf_sound h
      exact ⟨u, t, h1, h2, h3 0⟩
  | d + 1, st, h => by
    rw [factorV] at h ⊢
    by_cases hs : isSign (hd st.r) = true
    · rw [if_pos hs] at h ⊢
      have hne : st.r ≠ [] := by intro e; rw [e] at hs; revert hs; decide
      have hr := hd_cons hne
      generalize st.r.drop 1 = x at h hr ⊢
      unfold innerV at h ⊢
      rcases sign_cases hs with hc | hc | hc
      · rw [hc] at h hr ⊢
        rw [if_neg (by decide), if_neg (by decide)] at h ⊢
        obtain ⟨u, t, h1, h2, h3⟩ := factor_sound d _ h
        exact ⟨43 :: u, t, by rw [hr, List.cons_append]; congr 1, h2, .plus h3⟩
      · rw [hc] at h hr ⊢
        rw [if_neg (by decide), if_pos rfl] at h ⊢
        obtain ⟨he, hp⟩ := put_e h
        obtain ⟨u, t, h1, h2, h3⟩ := factor_sound d _ he
        refine ⟨45 :: u, .neg t, by rw [hr, put_r, List.cons_append]; congr 1, ?_, .neg h3⟩
        rw [hp, h2]; simp [opsT]
      · rw [hc] at h hr ⊢
        rw [if_pos rfl] at h ⊢
        have hss := sum_sound (factor_sound d) ⟨x, st.ops, st.e⟩
        generalize sumV (factorV d) ⟨x, st.ops, st.e⟩ = s1 at h hss ⊢
        unfold shutV at h ⊢
        by_cases he : s1.e = 0
        · rw [if_pos he] at h ⊢
          by_cases h41 : hd s1.r = 41
          · rw [if_pos h41] at h ⊢
            obtain ⟨u, t, h1, h2, h3⟩ := hss he
            have hne2 : s1.r ≠ [] := by intro e; rw [e] at h41; revert h41; decide
            have hr2 := hd_cons hne2
            rw [h41] at hr2
            refine ⟨40 :: (u ++ [41]), t, ?_, h2, .par h3⟩
            have h1' : x = u ++ s1.r := h1
            show st.r = 40 :: (u ++ [41]) ++ s1.r.drop 1
            rw [hr, List.cons_append, List.append_assoc, h1']
            congr 2
          · rw [if_neg h41] at h; cases h
        · rw [if_neg he] at h; exact absurd h he
    · rw [if_neg hs] at h ⊢
      obtain ⟨u, t, h1, h2, h3⟩ := leaf_sound h
      exact ⟨u, t, h1, h2, h3 _⟩
theorem parse_sound {s : List UInt8} {l : List (Int × Int)} {at0 : Nat} (h : parseV s = (l, at0, 0)) : ∃ t, l = opsT t ∧ G 2 30 s t ∧ s.length ≤ 300 := by
  unfold parseV at h
  split at h
  · simp at h
  · rename_i hs
    split at h
    · rename_i he
      have hz : (runV s).e = 0 ∧ (runV s).r = [] := by
        unfold endV at he
        split at he
        · rename_i h0
          split at he
          · rename_i h1; exact ⟨h0, h1⟩
          · cases he
        · rename_i h0; exact absurd he h0
      obtain ⟨u, t, h1, h2, h3⟩ := sum_sound (factor_sound 30) ⟨s, [], 0⟩ hz.1
      have hr : (sumV (factorV 30) ⟨s, [], 0⟩).r = [] := hz.2
      rw [hr, List.append_nil] at h1
      have h1' : s = u := h1
      subst h1'
      injection h with h _
      refine ⟨t, ?_, h3, by omega⟩
      rw [← h]
      show (sumV (factorV 30) ⟨s, [], 0⟩).ops = _
      rw [h2]; rfl
    · rename_i he
      simp at h
      exact absurd h.2.2 he
end Go.Proofs.YtglmofeeggjemaaGreatDoor.Ep
namespace Go.Proofs.YtglmofeeggjemaaGreatDoor.Ep
open Go.Proofs.YtglmofeeggjemaaGreatDoor.Dp

/-- Operations and what is left together grow no more. -/
def Cnt (f : St → St) : Prop := ∀ st, (f st).ops.length + (f st).r.length ≤ st.ops.length + st.r.length
theorem put_len (st : St) (k n : Int) : (put st k n).ops.length ≤ st.ops.length + 1 := by
  unfold put; split
  · simp
  · omega
theorem leaf_cnt (st : St) : (leafV st).ops.length + (leafV st).r.length ≤ st.ops.length + st.r.length := by
  unfold leafV
  split
  · rename_i h36
    have hne : st.r ≠ [] := by intro e; rw [e] at h36; exact absurd h36 (by decide)
    have hp := List.length_pos_iff.2 hne
    unfold varV
    split
    · exact Nat.le_refl _
    · simp only [List.length_append, List.length_cons, List.length_nil, List.length_drop]; omega
  · split
    · rename_i hn
      have hlit : hd st.r = 46 ∨ isD (hd st.r) = true := by simpa using hn
      have hp := numLen_pos hlit
      have hne : st.r ≠ [] := by
        intro e; rw [e] at hlit
        rcases hlit with h | h <;> exact absurd h (by decide)
      have hl := List.length_pos_iff.2 hne
      unfold numV
      split
      · exact Nat.le_refl _
      · simp only [List.length_append, List.length_cons, List.length_nil, List.length_drop]; omega
    · exact Nat.le_refl _
theorem loop_cnt {op : UInt8 → Option Nat} (h0 : op 0 = none) {f : St → St} (hf : Cnt f) : ∀ k st, (loopV op f k st).ops.length + (loopV op f k st).r.length ≤ st.ops.length + st.r.length
  | 0, st => Nat.le_refl _
  | k + 1, st => by
    rw [loopV]
    split
    · split
      · exact Nat.le_refl _
      · rename_i q hq
        have hp := List.length_pos_iff.2 (op_ne h0 hq)
        have h1 := loop_cnt h0 hf k (put (f ⟨st.r.drop 1, st.ops, 0⟩) q 0)
        have h2 := put_len (f ⟨st.r.drop 1, st.ops, 0⟩) q 0
        have h3 := hf ⟨st.r.drop 1, st.ops, 0⟩
        rw [put_r] at h1
        simp only [List.length_drop] at h3
        omega
    · exact Nat.le_refl _
theorem prod_cnt {f : St → St} (hf : Cnt f) : Cnt (prodV f) := fun st => Nat.le_trans (loop_cnt rfl hf _ _) (hf st)
theorem sum_cnt {f : St → St} (hf : Cnt f) : Cnt (sumV f) := fun st => Nat.le_trans (loop_cnt rfl (prod_cnt hf) _ _) (prod_cnt hf st)
theorem shut_cnt (st : St) : (shutV st).ops.length + (shutV st).r.length ≤ st.ops.length + st.r.length := by
  unfold shutV; split
  · split
    · simp only [List.length_drop]; omega
    · exact Nat.le_refl _
  · exact Nat.le_refl _
theorem inner_cnt {f : St → St} (hf : Cnt f) (c : UInt8) (st : St) : (innerV f c st).ops.length + (innerV f c st).r.length ≤ st.ops.length + st.r.length + 1 := by
  unfold innerV; split
  · exact Nat.le_trans (Nat.le_trans (shut_cnt _) (sum_cnt hf st)) (Nat.le_succ _)
  · split
    · rw [put_r]
      have h1 := put_len (f st) 7 0
      have h2 := hf st
      omega
    · exact Nat.le_trans (hf st) (Nat.le_succ _)
theorem sign_ne {r : List UInt8} (h : isSign (hd r) = true) : r ≠ [] := by
  intro e; rw [e] at h; exact absurd h (by decide)
theorem factor_cnt : ∀ d, Cnt (factorV d)
  | 0, st => by
    rw [factorV]; split
    · exact Nat.le_refl _
    · exact leaf_cnt st
  | d + 1, st => by
    rw [factorV]; split
    · rename_i hs
      have h1 := inner_cnt (factor_cnt d) (hd st.r) ⟨st.r.drop 1, st.ops, st.e⟩
      have h2 := List.length_pos_iff.2 (sign_ne hs)
      simp only [List.length_drop] at h1
      omega
    · exact leaf_cnt st
end Go.Proofs.YtglmofeeggjemaaGreatDoor.Ep
