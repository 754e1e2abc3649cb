/-
  Plain: fractions in lowest terms (chapter 12.1): a ratio has one; sums commute, a quotient times its divisor is the dividend. No program in sight.
-/
import Derived.Test.YtkfjmcdfamhiaaaDoorFr
namespace Go.Proofs.YtkfjmcdfamhiaaaDoor.Fr

theorem pos_mul_neg {a d : Int} (hd : 0 < d) : a * d < 0 ↔ a < 0 := by
  constructor
  · intro h
    apply Classical.byContradiction
    intro hn
    have := Int.mul_nonneg (show 0 ≤ a by omega) (show 0 ≤ d by omega)
    omega
  · intro h
    exact Int.mul_neg_of_neg_of_pos h hd
/-- What is in the ratio of a fraction in lowest terms is made to it. -/
theorem make_of {a b n d : Int} (hg : good n d = true) (hb : b ≠ 0) (h : a * d = n * b) : makeV a b = (n, d, 0) := by
  unfold good at hg
  simp only [Bool.and_eq_true, decide_eq_true_eq] at hg
  obtain ⟨⟨hd1, hd2, hn1, hn2⟩, hc⟩ := hg
  have hab : a.natAbs * d.natAbs = n.natAbs * b.natAbs := by rw [← Int.natAbs_mul, ← Int.natAbs_mul, h]
  have hdp : 0 < d.natAbs := by omega
  have hbp : 0 < b.natAbs := by omega
  have hdvd : d.natAbs ∣ b.natAbs := by
    have h1 : d.natAbs ∣ n.natAbs * b.natAbs := ⟨a.natAbs, by rw [← hab, Nat.mul_comm]⟩
    have hcc : Nat.Coprime d.natAbs n.natAbs := by
      show Nat.gcd _ _ = 1
      rw [Nat.gcd_comm]; exact hc
    exact hcc.dvd_of_dvd_mul_left h1
  obtain ⟨g, hg⟩ := hdvd
  have hgp : 0 < g := by
    apply Nat.pos_of_ne_zero
    rintro rfl
    simp at hg; omega
  have hag : a.natAbs = n.natAbs * g := by
    have h2 : a.natAbs * d.natAbs = (n.natAbs * g) * d.natAbs := by rw [hab, hg]; ac_rfl
    exact Nat.eq_of_mul_eq_mul_right hdp h2
  have hgcd : Nat.gcd a.natAbs b.natAbs = g := by
    rw [hag, hg, Nat.gcd_mul_right, hc, Nat.one_mul]
  unfold makeV
  rw [if_neg hb, hgcd, hag, hg, Nat.mul_div_cancel _ hgp, Nat.mul_div_cancel _ hgp, if_neg (by omega)]
  have hdd : ((d.natAbs : Nat) : Int) = d := by omega
  have hs : a < 0 ↔ n * b < 0 := by rw [← h]; exact (pos_mul_neg (by omega)).symm
  rw [hdd]
  congr 1
  by_cases hn0 : n = 0
  · subst hn0; simp
  · by_cases hbn : b < 0
    · have h3 : n * b < 0 ↔ 0 < n := by
        have e : n * b = (-n) * (-b) := by rw [Int.neg_mul_neg]
        rw [e]
        have := pos_mul_neg (a := -n) (d := -b) (by omega)
        omega
      rw [h3] at hs
      by_cases han : a < 0
      · rw [if_neg (by simp [han, hbn])]; have := hs.1 han; omega
      · rw [if_pos (by simp [han, hbn])]; have : ¬ 0 < n := fun h => han (hs.2 h); omega
    · have h3 : n * b < 0 ↔ n < 0 := pos_mul_neg (by omega)
      rw [h3] at hs
      by_cases han : a < 0
      · rw [if_pos (by simp [han, hbn])]; have := hs.1 han; omega
      · rw [if_neg (by simp [han, hbn])]; have : ¬ n < 0 := fun h => han (hs.2 h); omega
/-- What is made is in lowest terms, and in the same ratio. -/
theorem make_good {a b p q : Int} (h : makeV a b = (p, q, 0)) : good p q = true ∧ b ≠ 0 ∧ p * b = a * q := by
  unfold makeV at h
  split at h
  · simp at h
  · rename_i hb
    split at h
    · simp at h
    · rename_i hm
      have hbp : 0 < b.natAbs := by omega
      have hgp := gcd_pos a.natAbs hbp
      have hco := Nat.coprime_div_gcd_div_gcd hgp
      have hA : a.natAbs = a.natAbs / Nat.gcd a.natAbs b.natAbs * Nat.gcd a.natAbs b.natAbs := (Nat.div_mul_cancel (Nat.gcd_dvd_left _ _)).symm
      have hB : b.natAbs = b.natAbs / Nat.gcd a.natAbs b.natAbs * Nat.gcd a.natAbs b.natAbs := (Nat.div_mul_cancel (Nat.gcd_dvd_right _ _)).symm
      generalize Nat.gcd a.natAbs b.natAbs = g at *
      generalize a.natAbs / g = x at *
      generalize b.natAbs / g = y at *
      have hy : 0 < y := by
        apply Nat.pos_of_ne_zero
        rintro rfl
        simp at hB; omega
      simp only [Prod.mk.injEq, and_true] at h
      obtain ⟨h1, h2⟩ := h
      have hpn : p.natAbs = x := by rw [← h1]; split <;> omega
      have hqn : q.natAbs = y := by rw [← h2]; rfl
      refine ⟨?_, hb, ?_⟩
      · unfold good
        simp only [Bool.and_eq_true, decide_eq_true_eq]
        refine ⟨⟨by omega, by omega, by omega, by omega⟩, by rw [hpn, hqn]; exact hco⟩
      · have hA' : (a.natAbs : Int) = x * g := by rw [hA]; simp
        have hB' : (b.natAbs : Int) = y * g := by rw [hB]; simp
        rw [← h2, ← h1]
        by_cases ha : a < 0 <;> by_cases hbn : b < 0
        · rw [if_neg (by simp [ha, hbn]), show a = -(x * g : Int) by omega, show b = -(y * g : Int) by omega, Int.mul_neg, Int.neg_mul]
          congr 1; ac_rfl
        · rw [if_pos (by simp [ha, hbn]), show a = -(x * g : Int) by omega, show b = (y * g : Int) by omega, Int.neg_mul, Int.neg_mul]
          congr 1; ac_rfl
        · rw [if_pos (by simp [ha, hbn]), show a = (x * g : Int) by omega, show b = -(y * g : Int) by omega, Int.neg_mul, Int.mul_neg, Int.neg_neg]
          ac_rfl
        · rw [if_neg (by simp [ha, hbn]), show a = (x * g : Int) by omega, show b = (y * g : Int) by omega]
          ac_rfl
theorem do_comm (n d m e : Int) : doV 3 n d m e = doV 3 m e n d := by
  unfold doV
  by_cases h : good n d = true ∧ good m e = true
  · rw [if_pos h, if_pos rfl, if_pos ⟨h.2, h.1⟩, if_pos rfl, Int.add_comm, Int.mul_comm d e]
  · rw [if_neg h, if_neg (fun h2 => h ⟨h2.2, h2.1⟩)]
theorem do_quo {n d m e : Int} (h1 : good n d = true) (h2 : good m e = true) : doV 6 n d m e = makeV (n * e) (d * m) := by
  unfold doV
  rw [if_pos ⟨h1, h2⟩, if_neg (by decide), if_neg (by decide), if_neg (by decide), if_pos rfl]
theorem do_mul {n d m e : Int} (h1 : good n d = true) (h2 : good m e = true) : doV 5 n d m e = makeV (n * m) (d * e) := by
  unfold doV
  rw [if_pos ⟨h1, h2⟩, if_neg (by decide), if_neg (by decide), if_pos rfl]
theorem do_add {n d m e : Int} (h1 : good n d = true) (h2 : good m e = true) : doV 3 n d m e = makeV (n * e + m * d) (d * e) := by
  unfold doV
  rw [if_pos ⟨h1, h2⟩, if_pos rfl]
theorem do_sub {n d m e : Int} (h1 : good n d = true) (h2 : good m e = true) : doV 4 n d m e = makeV (n * e - m * d) (d * e) := by
  unfold doV
  rw [if_pos ⟨h1, h2⟩, if_neg (by decide), if_pos rfl]
theorem make_ten (a b : Int) : (makeV a b).2.2 = 10 ↔ b = 0 := by
  unfold makeV
  split
  · simp_all
  · split
    · simp_all
    · simp_all
/-- No divisor just if it is nought. -/
theorem quo_ten {n d m e : Int} (h1 : good n d = true) (h2 : good m e = true) : (doV 6 n d m e).2.2 = 10 ↔ m = 0 := by
  rw [do_quo h1 h2, make_ten, Int.mul_eq_zero]
  have := (good_in h1).1
  constructor
  · rintro (h | h)
    · omega
    · exact h
  · exact .inr
/-- A quotient times its divisor is what it was. -/
theorem quo_back {n d m e p q : Int} (h1 : good n d = true) (h2 : good m e = true) (h : doV 6 n d m e = (p, q, 0)) : doV 5 p q m e = (n, d, 0) := by
  rw [do_quo h1 h2] at h
  obtain ⟨hg, hb, hc⟩ := make_good h
  rw [do_mul hg h2]
  refine make_of h1 ?_ ?_
  · have a := (good_in hg).1
    have b := (good_in h2).1
    exact Int.ne_of_gt (Int.mul_pos (by omega) (by omega))
  · have e1 : p * m * d = p * (d * m) := by ac_rfl
    have e2 : n * (q * e) = n * e * q := by ac_rfl
    rw [e1, e2, hc]
/-- A rational of two numbers. -/
def ratV (a b : Int) : Int × Int := if (makeV (a.tmod 1073741825) (b.tmod 1073741825)).2.1 = 0 then (a.tmod 100, 1) else ((makeV (a.tmod 1073741825) (b.tmod 1073741825)).1, (makeV (a.tmod 1073741825) (b.tmod 1073741825)).2.1)
theorem tmod_in (a : Int) (m : Int) (hm : 0 < m) : -m < a.tmod m ∧ a.tmod m < m := by
  refine ⟨?_, Int.tmod_lt_of_pos _ hm⟩
  have := Int.lt_tmod_of_pos a hm
  exact this
theorem ratV_good (a b : Int) : good (ratV a b).1 (ratV a b).2 = true := by
  unfold ratV
  have ha := tmod_in a 1073741825 (by decide)
  have hb := tmod_in b 1073741825 (by decide)
  have hc := tmod_in a 100 (by decide)
  generalize a.tmod 1073741825 = x at *
  generalize b.tmod 1073741825 = y at *
  generalize a.tmod 100 = z at *
  obtain ⟨p, q, e, hm⟩ : ∃ p q e, makeV x y = (p, q, e) := ⟨_, _, _, rfl⟩
  rw [hm]
  dsimp only
  split
  · unfold good
    simp only [Bool.and_eq_true, decide_eq_true_eq]
    exact ⟨⟨by omega, by omega, by omega, by omega⟩, Nat.gcd_one_right _⟩
  · rename_i hq
    have he : e = 0 := by
      unfold makeV at hm
      split at hm
      · simp only [Prod.mk.injEq] at hm; omega
      · split at hm
        · simp only [Prod.mk.injEq] at hm; omega
        · simp only [Prod.mk.injEq] at hm; omega
    subst he
    exact (make_good hm).1
end Go.Proofs.YtkfjmcdfamhiaaaDoor.Fr
