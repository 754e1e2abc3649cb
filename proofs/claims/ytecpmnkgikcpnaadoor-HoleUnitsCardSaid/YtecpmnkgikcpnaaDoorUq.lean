/-
  Plain: digits are read as the coordinate that they were told of (3.2). No program in sight.
-/
import Derived.Test.YtecpmnkgikcpnaaDoorUp
namespace Go.Proofs.YtecpmnkgikcpnaaDoor.Up
open Go.Proofs.YtecpmnkgikcpnaaDoor.Dp
open Go.Lib (decDigits nDigits trimRightB dg)

/-- The millionths that digits are. -/
def millV (l : List UInt8) (size d : Nat) (t : Bool) : Nat := val l * (if t then 10 ^ (size - l.length) else 1) * 10 ^ (6 - d)
theorem coordV_no {l : List UInt8} {u i d : Int} {t : Bool} (h : ¬ (fmtOk u i d = true ∧ 1 ≤ (strip l).2.length ∧ ((strip l).2.length : Int) ≤ i + d ∧ nd (strip l).2 = (strip l).2.length)) : coordV l u i d t = none := by
  unfold coordV; rw [if_neg h]
theorem coordV_yes {l : List UInt8} {u : Int} {I D : Nat} {t : Bool} (h : fmtOk u I D = true ∧ 1 ≤ (strip l).2.length ∧ ((strip l).2.length : Int) ≤ (I : Int) + D ∧ nd (strip l).2 = (strip l).2.length) :
    coordV l u I D t = grainV (if (strip l).1 then -((millV (strip l).2 (I + D) D t : Nat) : Int) else ((millV (strip l).2 (I + D) D t : Nat) : Int)) u := by
  unfold coordV; rw [if_pos h]; rfl
theorem val_size {l : List UInt8} (h : nd l = l.length) : val l < 10 ^ l.length := by
  have := val_take_lt l l.length (by omega)
  rwa [List.take_length] at this
theorem nd_all {l : List UInt8} (h : ∀ c ∈ l, isD c = true) : nd l = l.length := by
  have := nd_digits l h []
  simpa [nd_nil] using this

/-! ### The digits of a number -/
theorem dg_high {v k : Nat} (h : nDigits v ≤ k) : dg v k = 48 := by
  have h1 := Lib.lt_pow_nDigits v
  have h2 : 10 ^ nDigits v ≤ 10 ^ k := Nat.pow_le_pow_right (by decide) h
  unfold dg
  rw [Nat.div_eq_of_lt (by omega)]; rfl
theorem pad_more (v m : Nat) : pad v (nDigits v + m) = List.replicate m 48 ++ decDigits v := by
  induction m with
  | zero => rw [dec_pad]; rfl
  | succ m ih => rw [← Nat.add_assoc, pad_succ, dg_high (by omega), ih, List.replicate_succ]; rfl
theorem pad_dec {v size : Nat} (h : nDigits v ≤ size) : pad v size = List.replicate (size - nDigits v) 48 ++ decDigits v := by
  have := pad_more v (size - nDigits v)
  rwa [show nDigits v + (size - nDigits v) = size by omega] at this
theorem digits_dec (v : Nat) : ∀ c ∈ decDigits v, isD c = true := by rw [dec_pad]; exact digits_pad _ _
theorem val_dec (v : Nat) : val (decDigits v) = v := by rw [dec_pad, val_pad]; exact Nat.mod_eq_of_lt (Lib.lt_pow_nDigits _)
theorem fits_iff {v size : Nat} (hs : 1 ≤ size) : nDigits v ≤ size ↔ v < 10 ^ size := by
  constructor
  · intro h
    have h1 := Lib.lt_pow_nDigits v
    have h2 : 10 ^ nDigits v ≤ 10 ^ size := Nat.pow_le_pow_right (by decide) h
    omega
  · intro h; exact nDigits_le_of_lt size v h hs
theorem digits_num (v size : Nat) (t : Bool) : ∀ c ∈ numL' v size t, isD c = true := by
  unfold numL'
  split
  · split
    · intro c hc
      rw [List.mem_singleton.1 hc]; decide
    · exact digits_trim (digits_pad _ _)
  · exact digits_dec v
theorem num_length {v size : Nat} {t : Bool} (hs : 1 ≤ size) (h : v < 10 ^ size) : 1 ≤ (numL' v size t).length ∧ (numL' v size t).length ≤ size := by
  unfold numL'
  split
  · split
    · exact ⟨Nat.le_refl _, hs⟩
    · rename_i hne
      have h1 := trimRightB_length (pad v size) 48
      rw [pad_length] at h1
      refine ⟨?_, h1⟩
      cases hx : trimRightB (pad v size) 48 with
      | nil => exact absurd hx hne
      | cons _ _ => simp
  · rw [Lib.decDigits_length]
    exact ⟨Lib.nDigits_pos v, (fits_iff hs).2 h⟩
theorem val_num {v size : Nat} {t : Bool} (_hs : 1 ≤ size) (h : v < 10 ^ size) : val (numL' v size t) * (if t then 10 ^ (size - (numL' v size t).length) else 1) = v := by
  unfold numL'
  cases t with
  | false => simp [val_dec]
  | true =>
    simp only [if_true]
    have hv := val_trim (pad v size)
    rw [pad_length, val_pad, Nat.mod_eq_of_lt h] at hv
    split
    · rename_i hx
      rw [hx] at hv
      rw [hv]; simp [val]
    · exact hv.symm
theorem mill_num {v size d : Nat} {t : Bool} (hs : 1 ≤ size) (h : v < 10 ^ size) : millV (numL' v size t) size d t = v * 10 ^ (6 - d) := by
  unfold millV; rw [val_num hs h]
theorem strip_digits {l : List UInt8} (h : ∀ c ∈ l, isD c = true) : strip l = (false, l) := by
  cases l with
  | nil => rfl
  | cons c r => exact strip_digit (h c (by simp)) r
theorem grainV_scale {m u : Int} (hu : u = 1 ∨ u = 2) (h1 : -536870912 ≤ m * per u) (h2 : m * per u ≤ 536870912) : grainV m u = some (m * per u) := by
  unfold grainV
  rw [if_pos]
  refine ⟨?_, hu, h1, h2⟩
  rw [okN_iff]
  rcases per_cases hu with h | h
  · rw [h] at h1 h2; omega
  · rw [h] at h1 h2; omega
theorem step_eq (u : Int) (D : Nat) : lastG u (D : Int) = per u * ((10 ^ (6 - D) : Nat) : Int) := by
  unfold lastG; rw [Int.toNat_natCast]

/-- What the digits of a number of steps are read as. -/
theorem coord_num {u : Int} {I D : Nat} {t : Bool} (hf : fmtOk u I D = true) {v : Nat} (h : v < 10 ^ (I + D)) :
    (coordV (numL' v (I + D) t) u I D t = grainV ((v * 10 ^ (6 - D) : Nat) : Int) u) ∧ (coordV (45 :: numL' v (I + D) t) u I D t = grainV (-((v * 10 ^ (6 - D) : Nat) : Int)) u) := by
  have hs : 1 ≤ I + D := by have := (fmtOk_iff _ _ _).1 hf; omega
  have hl := num_length (t := t) hs h
  have hd := digits_num v (I + D) t
  have hsd := strip_digits hd
  constructor
  · rw [coordV_yes ⟨hf, by rw [hsd]; exact hl.1, by rw [hsd]; simp only; omega, by rw [hsd]; exact nd_all hd⟩, hsd]
    simp only [Bool.false_eq_true, if_false]
    rw [mill_num hs h]
  · rw [coordV_yes ⟨hf, by rw [strip_minus]; exact hl.1, by rw [strip_minus]; simp only; omega, by rw [strip_minus]; exact nd_all hd⟩, strip_minus]
    simp only [if_true]
    rw [mill_num hs h]
theorem steps_grain {u : Int} {D v : Nat} (hu : u = 1 ∨ u = 2) (hb : (v : Int) * lastG u D ≤ 536870912) :
    grainV ((v * 10 ^ (6 - D) : Nat) : Int) u = some ((v : Int) * lastG u D) ∧ grainV (-((v * 10 ^ (6 - D) : Nat) : Int)) u = some (-((v : Int) * lastG u D)) := by
  have e : ((v * 10 ^ (6 - D) : Nat) : Int) * per u = (v : Int) * lastG u D := by
    rw [step_eq, Int.natCast_mul, Int.mul_assoc]
    congr 1
    exact Int.mul_comm _ _
  have h0 : 0 ≤ (v : Int) * lastG u D := Int.mul_nonneg (by omega) (Int.le_of_lt (step_pos hu D))
  constructor
  · rw [← e] at hb h0 ⊢
    exact grainV_scale hu (by omega) hb
  · have e2 : -((v * 10 ^ (6 - D) : Nat) : Int) * per u = -((v : Int) * lastG u D) := by rw [← e, Int.neg_mul]
    rw [← e2]
    exact grainV_scale hu (by rw [e2]; omega) (by rw [e2]; omega)

/-- 3.2: digits are read as what they were told of. -/
theorem coord_digits {g u : Int} {I D : Nat} {t : Bool} {L : List UInt8} (h : digitsV g u I D t = some L) : coordV L u I D t = some g := by
  unfold digitsV at h
  split at h
  · rename_i hc
    obtain ⟨hf, h1, h2, h3, h4⟩ := hc
    have hu := ((fmtOk_iff _ _ _).1 hf).1
    have hsize : ((I : Int) + (D : Int)).toNat = I + D := by omega
    rw [hsize] at h h4
    injection h with h
    have hsp := step_pos hu D
    obtain ⟨S, hS⟩ : ∃ S, lastG u (D : Int) = S := ⟨_, rfl⟩
    obtain ⟨q, hq⟩ : ∃ q, g / lastG u (D : Int) = q := ⟨_, rfl⟩
    have hg : g = q * lastG u (D : Int) := by
      rw [← hq]
      exact (Int.ediv_mul_cancel (Int.dvd_of_emod_eq_zero h3)).symm
    rw [hq] at h h4
    have hcn := coord_num (t := t) hf h4
    by_cases hneg : g < 0
    · have hqn : q < 0 := by
        apply Classical.byContradiction; intro hn
        have := Int.mul_nonneg (a := q) (b := lastG u (D : Int)) (by omega) (by omega)
        omega
      have hqa : (q.natAbs : Int) = -q := by omega
      have hb : (q.natAbs : Int) * lastG u (D : Int) ≤ 536870912 := by
        rw [hqa, Int.neg_mul, ← hg]; omega
      rw [if_pos hneg] at h
      rw [← h]
      show coordV (45 :: numL' q.natAbs (I + D) t) u I D t = some g
      rw [hcn.2, (steps_grain hu hb).2, hqa, Int.neg_mul, Int.neg_neg, ← hg]
    · have hqn : 0 ≤ q := by
        apply Classical.byContradiction; intro hn
        have := Int.mul_neg_of_neg_of_pos (a := q) (b := lastG u (D : Int)) (by omega) hsp
        omega
      have hqa : (q.natAbs : Int) = q := by omega
      have hb : (q.natAbs : Int) * lastG u (D : Int) ≤ 536870912 := by rw [hqa, ← hg]; omega
      rw [if_neg hneg] at h
      rw [← h]
      show coordV (numL' q.natAbs (I + D) t) u I D t = some g
      rw [hcn.1, (steps_grain hu hb).1, hqa, ← hg]
  · cases h
theorem digits_length {g u : Int} {I D : Nat} {t : Bool} {L : List UInt8} (h : digitsV g u I D t = some L) : 1 ≤ L.length ∧ L.length ≤ 1 + (I + D) := by
  unfold digitsV at h
  split at h
  · rename_i hc
    obtain ⟨hf, h1, h2, h3, h4⟩ := hc
    have hs : 1 ≤ I + D := by have := (fmtOk_iff _ _ _).1 hf; omega
    have hsize : ((I : Int) + (D : Int)).toNat = I + D := by omega
    rw [hsize] at h h4
    injection h with h
    have hl := num_length (t := t) hs h4
    rw [← h, List.length_append]
    split <;> simp <;> omega
  · cases h
theorem step_ge (u : Int) (hu : u = 1 ∨ u = 2) (D : Nat) : 10 ≤ lastG u D := by
  rw [step_eq]
  have h1 : 1 ≤ 10 ^ (6 - D) := Nat.one_le_pow _ _ (by decide)
  rcases per_cases hu with h | h <;> rw [h] <;> omega
theorem digits_off {g u : Int} {I D : Nat} {t : Bool} (hu : u = 1 ∨ u = 2) (h : g % lastG u D = 0) : digitsV (g + 1) u I D t = none := by
  have h10 := step_ge u hu D
  unfold digitsV
  rw [if_neg]
  rintro ⟨_, _, _, h3, _⟩
  have := Int.add_emod g 1 (lastG u (D : Int))
  rw [h, h3, Int.zero_add, Int.emod_emod, Int.emod_eq_of_lt (by decide) (by omega)] at this
  cases this
theorem digits_same {g u : Int} {I D : Nat} (t : Bool) : (digitsV g u I D t).isSome = (digitsV g u I D false).isSome := by
  unfold digitsV
  split <;> rfl
end Go.Proofs.YtecpmnkgikcpnaaDoor.Up
