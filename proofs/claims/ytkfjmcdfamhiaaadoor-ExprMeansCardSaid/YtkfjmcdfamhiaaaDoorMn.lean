/-
  Plain: what an expression of small numbers means (chapter 12.3): a tree's value as a ratio; the eleven texts of the statement. No program in sight.
-/
import Derived.Test.YtkfjmcdfamhiaaaDoorFl
import Derived.Test.YtkfjmcdfamhiaaaDoorEv
import Derived.Test.YtkfjmcdfamhiaaaDoorTv
namespace Go.Proofs.YtkfjmcdfamhiaaaDoor.Mn
open Go.Proofs.YtkfjmcdfamhiaaaDoor.Dp Go.Proofs.YtkfjmcdfamhiaaaDoor.Fr Go.Proofs.YtkfjmcdfamhiaaaDoor.Ep Go.Proofs.YtkfjmcdfamhiaaaDoor.Tx
open Go.Lib (decDigits trimRightB)

theorem make_small {p q : Int} (hq : 0 < q) (hq2 : q ≤ 1073741824) (hp : -1073741824 ≤ p) (hp2 : p ≤ 1073741824) : (makeV p q).2.2 = 0 := by
  unfold makeV
  rw [if_neg (by omega)]
  have h1 := Nat.div_le_self p.natAbs (Nat.gcd p.natAbs q.natAbs)
  have h2 := Nat.div_le_self q.natAbs (Nat.gcd p.natAbs q.natAbs)
  rw [if_neg (by omega)]
/-- Two ratios that are one. -/
theorem make_ratio {a b p q : Int} (hb : b ≠ 0) (h0 : (makeV p q).2.2 = 0) (h : a * q = p * b) : makeV a b = makeV p q := by
  obtain ⟨N, D, e, hm⟩ : ∃ N D e, makeV p q = (N, D, e) := ⟨_, _, _, rfl⟩
  rw [hm] at h0 ⊢
  have h0' : e = 0 := h0
  subst h0'
  obtain ⟨hg, hqn, hc⟩ := make_good hm
  refine make_of hg hb ?_
  have e1 : (a * D) * q = (N * b) * q := by
    have : (a * D) * q = (a * q) * D := by ac_rfl
    rw [this, h]
    have : (N * b) * q = (N * q) * b := by ac_rfl
    rw [this, hc]
    ac_rfl
  exact Int.eq_of_mul_eq_mul_right hqn e1

/-- A tree's operations leave the ratio p / q on the stack. -/
structure Vl (vars : List (Int × Int)) (t : T) (p q : Int) : Prop where
  q0 : 0 < q
  ok : (makeV p q).2.2 = 0
  run : ∀ l st, Fr.runV vars (opsT t ++ l) st = Fr.runV vars l (st ++ [((makeV p q).1, (makeV p q).2.1)])
theorem Vl.eval {vars : List (Int × Int)} {t : T} {p q : Int} (h : Vl vars t p q) : evalV vars (opsT t) = makeV p q := by
  have := h.run [] []
  rw [List.append_nil] at this
  unfold evalV
  rw [this]
  show (_, _, 0) = _
  rw [← h.ok]
theorem run_one {vars l st : List (Int × Int)} {k n : Int} {st' : List (Int × Int)} (h : stepV vars st k n = (st', 0)) : Fr.runV vars ((k, n) :: l) st = Fr.runV vars l st' := by
  rw [Fr.runV, h, if_pos rfl]
theorem step_to {vars st : List (Int × Int)} {k n N D : Int} (h1 : kn k n = true) (h2 : tk k ≤ st.length) (h3 : opV vars st k n = (N, D, 0)) : stepV vars st k n = (st.take (st.length - tk k) ++ [(N, D)], 0) := by
  unfold stepV
  rw [if_neg (by rintro (h | h); · rw [h1] at h; cases h
                 · omega), h3]
  rfl
theorem trip {x : Int × Int × Nat} (h : x.2.2 = 0) : x = (x.1, x.2.1, 0) := by rw [← h]
theorem Vl.num {vars : List (Int × Int)} {n : Nat} {p q : Int} (hn : n < 1000000000000) (hq : 0 < q) (h0 : (makeV p q).2.2 = 0) (h : (n : Int) * q = p * 1000000) : Vl vars (.num n) p q := by
  refine ⟨hq, h0, fun l st => ?_⟩
  have hm : makeV (n : Int) 1000000 = makeV p q := make_ratio (by decide) h0 h
  have hk : kn 1 (n : Int) = true := by
    unfold kn
    rw [if_pos rfl]
    simp only [Bool.and_eq_true, decide_eq_true_eq, okN_iff]
    omega
  have hs := step_to (vars := vars) (st := st) hk (Nat.zero_le _) (N := (makeV p q).1) (D := (makeV p q).2.1) (by unfold opV; rw [if_pos rfl, hm]; exact trip h0)
  show Fr.runV vars ((1, (n : Int)) :: l) st = _
  rw [run_one hs, show st.length - tk 1 = st.length from rfl, List.take_length]
theorem Vl.var {vars : List (Int × Int)} {i : Nat} {p : Int} (hi : 1 ≤ i ∧ i ≤ 99) (hv : Fr.varV vars (i : Int) = (p, 1)) (hp : -1073741824 ≤ p) (hp2 : p ≤ 1073741824) : Vl vars (.var i) p 1 := by
  have hg : good p 1 = true := by
    unfold good
    simp only [Bool.and_eq_true, decide_eq_true_eq]
    exact ⟨⟨by omega, by omega, hp, hp2⟩, Nat.gcd_one_right _⟩
  have hm : makeV p 1 = (p, 1, 0) := make_of hg (by decide) rfl
  refine ⟨by decide, by rw [hm], fun l st => ?_⟩
  have hk : kn 2 (i : Int) = true := by
    unfold kn
    rw [if_neg (by decide), if_pos rfl]
    simp only [decide_eq_true_eq]
    omega
  have hs := step_to (vars := vars) (st := st) hk (Nat.zero_le _) (N := p) (D := 1) (by unfold opV; rw [if_neg (by decide), if_pos rfl, hv]; simp [hg])
  show Fr.runV vars ((2, (i : Int)) :: l) st = _
  rw [run_one hs, show st.length - tk 2 = st.length from rfl, List.take_length, hm]
theorem neg_make {p q : Int} (h0 : (makeV p q).2.2 = 0) : makeV (-p) q = (-(makeV p q).1, (makeV p q).2.1, 0) := by
  obtain ⟨N, D, e, hm⟩ : ∃ N D e, makeV p q = (N, D, e) := ⟨_, _, _, rfl⟩
  rw [hm] at h0 ⊢
  have h0' : e = 0 := h0
  subst h0'
  obtain ⟨hg, hqn, hc⟩ := make_good hm
  have hg2 : good (-N) D = true := by
    unfold good at hg ⊢
    simp only [Bool.and_eq_true, decide_eq_true_eq] at hg ⊢
    obtain ⟨⟨a1, a2, a3, a4⟩, a5⟩ := hg
    exact ⟨⟨a1, a2, by omega, by omega⟩, by rw [Int.natAbs_neg]; exact a5⟩
  exact make_of hg2 hqn (by rw [Int.neg_mul, Int.neg_mul, hc])
theorem Vl.neg {vars : List (Int × Int)} {t : T} {p q r : Int} (h : Vl vars t p q) (hr : r = -p) : Vl vars (.neg t) r q := by
  subst hr
  have hm := neg_make h.ok
  refine ⟨h.q0, by rw [hm], fun l st => ?_⟩
  show Fr.runV vars (opsT t ++ [(7, 0)] ++ l) st = _
  rw [List.append_assoc, h.run, hm]
  generalize makeV p q = m
  have hs := step_to (vars := vars) (st := st ++ [(m.1, m.2.1)]) (k := 7) (n := 0) (by decide) (by show 1 ≤ _; simp) (N := -m.1) (D := m.2.1) (by unfold opV top; rw [if_neg (by decide), if_neg (by decide), if_pos rfl]; simp [List.getD])
  show Fr.runV vars ((7, 0) :: l) _ = _
  rw [run_one hs]
  congr 1
  have : (st ++ [(m.1, m.2.1)]).length - tk 7 = st.length := by show _ - 1 = _; simp
  rw [this, List.take_left]
theorem Vl.bin {vars : List (Int × Int)} {t u : T} {k : Nat} {p1 q1 p2 q2 p q : Int} (hk : 3 ≤ k ∧ k ≤ 6) (h1 : Vl vars t p1 q1) (h2 : Vl vars u p2 q2) (hq : 0 < q) (h0 : (makeV p q).2.2 = 0)
    (h : doV (k : Int) (makeV p1 q1).1 (makeV p1 q1).2.1 (makeV p2 q2).1 (makeV p2 q2).2.1 = makeV p q) : Vl vars (.bin k t u) p q := by
  refine ⟨hq, h0, fun l st => ?_⟩
  show Fr.runV vars (opsT t ++ (opsT u ++ [((k : Int), 0)]) ++ l) st = _
  rw [List.append_assoc, List.append_assoc, h1.run, h2.run]
  generalize makeV p1 q1 = m1 at h ⊢
  generalize makeV p2 q2 = m2 at h ⊢
  have htk : tk (k : Int) = 2 := by unfold tk; rw [if_neg (by omega), if_neg (by omega)]
  have hkn : kn (k : Int) 0 = true := by
    unfold kn
    rw [if_neg (by omega), if_neg (by omega), if_pos (by omega)]; rfl
  have hs := step_to (vars := vars) (st := st ++ [(m1.1, m1.2.1)] ++ [(m2.1, m2.2.1)]) (k := (k : Int)) (n := 0) hkn (by rw [htk]; simp) (N := (makeV p q).1) (D := (makeV p q).2.1) (by
    unfold opV top
    rw [if_neg (by omega), if_neg (by omega), if_neg (by omega)]
    have e1 : (st ++ [(m1.1, m1.2.1)] ++ [(m2.1, m2.2.1)]).length - 2 = st.length := by simp
    have e2 : (st ++ [(m1.1, m1.2.1)] ++ [(m2.1, m2.2.1)]).length - 1 = (st ++ [(m1.1, m1.2.1)]).length := by simp
    have g1 : (st ++ [(m1.1, m1.2.1)] ++ [(m2.1, m2.2.1)]).getD st.length (0, 0) = (m1.1, m1.2.1) := by rw [List.append_assoc]; simp [List.getD]
    have g2 : (st ++ [(m1.1, m1.2.1)] ++ [(m2.1, m2.2.1)]).getD (st ++ [(m1.1, m1.2.1)]).length (0, 0) = (m2.1, m2.2.1) := by simp [List.getD]
    rw [e1, e2, g1, g2]
    show doV (k : Int) m1.1 m1.2.1 m2.1 m2.2.1 = _
    rw [h]
    exact trip h0)
  show Fr.runV vars (((k : Int), 0) :: l) _ = _
  rw [run_one hs, htk]
  congr 1
  have : (st ++ [(m1.1, m1.2.1)] ++ [(m2.1, m2.2.1)]).length - 2 = st.length := by simp
  rw [this, List.append_assoc, List.take_left]
/-- The two operands of an operation. -/
theorem parts {p q : Int} (h0 : (makeV p q).2.2 = 0) : good (makeV p q).1 (makeV p q).2.1 = true ∧ (makeV p q).1 * q = p * (makeV p q).2.1 := by
  have := make_good (trip h0)
  exact ⟨this.1, this.2.2⟩
theorem Vl.mul {vars : List (Int × Int)} {t u : T} {p1 q1 p2 q2 p q : Int} (h1 : Vl vars t p1 q1) (h2 : Vl vars u p2 q2) (hq : 0 < q) (h0 : (makeV p q).2.2 = 0) (h : p1 * p2 * q = p * (q1 * q2)) : Vl vars (.bin 5 t u) p q := by
  refine Vl.bin (by decide) h1 h2 hq h0 ?_
  obtain ⟨g1, c1⟩ := parts h1.ok
  obtain ⟨g2, c2⟩ := parts h2.ok
  have i1 := (good_in g1).1
  have i2 := (good_in g2).1
  have a1 := h1.q0
  have a2 := h2.q0
  generalize (makeV p1 q1).1 = n1 at *
  generalize (makeV p1 q1).2.1 = d1 at *
  generalize (makeV p2 q2).1 = n2 at *
  generalize (makeV p2 q2).2.1 = d2 at *
  show doV 5 n1 d1 n2 d2 = _
  rw [do_mul g1 g2]
  refine make_ratio (Int.ne_of_gt (Int.mul_pos (by omega) (by omega))) h0 ?_
  have hz : (n1 * n2 * q) * (q1 * q2) = (p * (d1 * d2)) * (q1 * q2) := by
    have e1 : (n1 * n2 * q) * (q1 * q2) = (n1 * q1) * (n2 * q2) * q := by ac_rfl
    have e2 : (p * (d1 * d2)) * (q1 * q2) = (p * (q1 * q2)) * (d1 * d2) := by ac_rfl
    rw [e1, e2, c1, c2, ← h]
    ac_rfl
  exact Int.eq_of_mul_eq_mul_right (Int.ne_of_gt (Int.mul_pos a1 a2)) hz
theorem Vl.quo {vars : List (Int × Int)} {t u : T} {p1 q1 p2 q2 p q : Int} (h1 : Vl vars t p1 q1) (h2 : Vl vars u p2 q2) (hp : p2 ≠ 0) (hq : 0 < q) (h0 : (makeV p q).2.2 = 0) (h : p1 * q2 * q = p * (q1 * p2)) : Vl vars (.bin 6 t u) p q := by
  refine Vl.bin (by decide) h1 h2 hq h0 ?_
  obtain ⟨g1, c1⟩ := parts h1.ok
  obtain ⟨g2, c2⟩ := parts h2.ok
  have i1 := (good_in g1).1
  have i2 := (good_in g2).1
  have a1 := h1.q0
  have a2 := h2.q0
  generalize (makeV p1 q1).1 = n1 at *
  generalize (makeV p1 q1).2.1 = d1 at *
  generalize (makeV p2 q2).1 = n2 at *
  generalize (makeV p2 q2).2.1 = d2 at *
  have hn2 : n2 ≠ 0 := by
    rintro rfl
    rw [Int.zero_mul] at c2
    rcases Int.mul_eq_zero.1 c2.symm with h | h
    · exact hp h
    · omega
  show doV 6 n1 d1 n2 d2 = _
  rw [do_quo g1 g2]
  refine make_ratio (Int.mul_ne_zero (by omega) hn2) h0 ?_
  have hz : (n1 * d2 * q) * (q1 * p2) = (p * (d1 * n2)) * (q1 * p2) := by
    have e1 : (n1 * d2 * q) * (q1 * p2) = (n1 * q1) * (p2 * d2) * q := by ac_rfl
    have e2 : (p * (d1 * n2)) * (q1 * p2) = (p * (q1 * p2)) * (d1 * n2) := by ac_rfl
    rw [e1, e2, c1, ← c2, ← h]
    ac_rfl
  exact Int.eq_of_mul_eq_mul_right (Int.mul_ne_zero (by omega) hp) hz
theorem Vl.add {vars : List (Int × Int)} {t u : T} {p1 q1 p2 q2 p q : Int} (h1 : Vl vars t p1 q1) (h2 : Vl vars u p2 q2) (hq : 0 < q) (h0 : (makeV p q).2.2 = 0) (h : (p1 * q2 + p2 * q1) * q = p * (q1 * q2)) : Vl vars (.bin 3 t u) p q := by
  refine Vl.bin (by decide) h1 h2 hq h0 ?_
  obtain ⟨g1, c1⟩ := parts h1.ok
  obtain ⟨g2, c2⟩ := parts h2.ok
  have i1 := (good_in g1).1
  have i2 := (good_in g2).1
  have a1 := h1.q0
  have a2 := h2.q0
  generalize (makeV p1 q1).1 = n1 at *
  generalize (makeV p1 q1).2.1 = d1 at *
  generalize (makeV p2 q2).1 = n2 at *
  generalize (makeV p2 q2).2.1 = d2 at *
  show doV 3 n1 d1 n2 d2 = _
  rw [do_add g1 g2]
  refine make_ratio (Int.ne_of_gt (Int.mul_pos (by omega) (by omega))) h0 ?_
  have hz : ((n1 * d2 + n2 * d1) * q) * (q1 * q2) = (p * (d1 * d2)) * (q1 * q2) := by
    have e2 : (p * (d1 * d2)) * (q1 * q2) = (p * (q1 * q2)) * (d1 * d2) := by ac_rfl
    have e1 : ((n1 * d2 + n2 * d1) * q) * (q1 * q2) = ((n1 * q1) * (d2 * q2) + (n2 * q2) * (d1 * q1)) * q := by
      rw [Int.add_mul, Int.add_mul, Int.add_mul]
      congr 1 <;> ac_rfl
    rw [e2, ← h, e1, c1, c2, Int.add_mul, Int.add_mul, Int.add_mul]
    congr 1 <;> ac_rfl
  exact Int.eq_of_mul_eq_mul_right (Int.ne_of_gt (Int.mul_pos a1 a2)) hz
theorem Vl.sub {vars : List (Int × Int)} {t u : T} {p1 q1 p2 q2 p q : Int} (h1 : Vl vars t p1 q1) (h2 : Vl vars u p2 q2) (hq : 0 < q) (h0 : (makeV p q).2.2 = 0) (h : (p1 * q2 - p2 * q1) * q = p * (q1 * q2)) : Vl vars (.bin 4 t u) p q := by
  refine Vl.bin (by decide) h1 h2 hq h0 ?_
  obtain ⟨g1, c1⟩ := parts h1.ok
  obtain ⟨g2, c2⟩ := parts h2.ok
  have i1 := (good_in g1).1
  have i2 := (good_in g2).1
  have a1 := h1.q0
  have a2 := h2.q0
  generalize (makeV p1 q1).1 = n1 at *
  generalize (makeV p1 q1).2.1 = d1 at *
  generalize (makeV p2 q2).1 = n2 at *
  generalize (makeV p2 q2).2.1 = d2 at *
  show doV 4 n1 d1 n2 d2 = _
  rw [do_sub g1 g2]
  refine make_ratio (Int.ne_of_gt (Int.mul_pos (by omega) (by omega))) h0 ?_
  have hz : ((n1 * d2 - n2 * d1) * q) * (q1 * q2) = (p * (d1 * d2)) * (q1 * q2) := by
    have e2 : (p * (d1 * d2)) * (q1 * q2) = (p * (q1 * q2)) * (d1 * d2) := by ac_rfl
    have e1 : ((n1 * d2 - n2 * d1) * q) * (q1 * q2) = ((n1 * q1) * (d2 * q2) - (n2 * q2) * (d1 * q1)) * q := by
      rw [Int.sub_mul, Int.sub_mul, Int.sub_mul]
      congr 1 <;> ac_rfl
    rw [e2, ← h, e1, c1, c2, Int.sub_mul, Int.sub_mul, Int.sub_mul]
    congr 1 <;> ac_rfl
  exact Int.eq_of_mul_eq_mul_right (Int.ne_of_gt (Int.mul_pos a1 a2)) hz

/-! ### The eleven texts -/
theorem text_whole (n : Nat) (h : n < 1000000) : textL ((n * 1000000 : Nat) : Int) = decDigits n := by
  rw [textL_nonneg _ (by omega)]
  unfold bodyL
  rw [Nat.mul_div_cancel _ (by decide), Nat.mul_mod_left, if_pos rfl, List.append_nil]
theorem text_half (n : Nat) (h : n < 1000000) : textL ((n * 1000000 + 500000 : Nat) : Int) = decDigits n ++ [46, 53] := by
  rw [textL_nonneg _ (by omega)]
  unfold bodyL
  rw [show (n * 1000000 + 500000) / 1000000 = n by omega, show (n * 1000000 + 500000) % 1000000 = 500000 by omega, if_neg (by decide)]
  rw [show trimRightB (pad 500000 6) 48 = [53] by decide +kernel]
theorem gn (d n : Nat) (h : n ≤ 256) : G 0 d (decDigits n) (.num (n * 1000000)) := by
  have := text_lit (n * 1000000) (by omega)
  rw [text_whole n (by omega)] at this
  exact .num this.1 this.2
theorem gh (d n : Nat) (h : n ≤ 256) : G 0 d (decDigits n ++ [46, 53]) (.num (n * 1000000 + 500000)) := by
  have := text_lit (n * 1000000 + 500000) (by omega)
  rw [text_half n (by omega)] at this
  exact .num this.1 this.2
theorem len_num (n : Nat) (h : n ≤ 256) : (decDigits n).length ≤ 6 := by
  rw [Lib.decDigits_length]; exact nDigits_le6 (by omega)
theorem vn (vars : List (Int × Int)) (n : Nat) (h : n ≤ 256) : Vl vars (.num (n * 1000000)) n 1 :=
  Vl.num (by omega) (by decide) (make_small (by decide) (by decide) (by omega) (by omega)) (by omega)
/-- A text, and the ratio that it means. -/
structure Mean (vars : List (Int × Int)) (s : List UInt8) (n d : Int) : Prop where
  tree : ∃ t, G 2 30 s t ∧ Vl vars t n d
  len : s.length ≤ 100
  n0 : -1073741824 ≤ n
  n1 : n ≤ 1073741824
  d1 : d ≤ 1073741824
theorem Mean.mk' {vars : List (Int × Int)} {s s' : List UInt8} {n d : Int} {t : T} (hs : s = s') (hG : G 2 30 s' t) (hv : Vl vars t n d) (hl : s.length ≤ 100) (h0 : -1073741824 ≤ n) (h1 : n ≤ 1073741824) (h2 : d ≤ 1073741824) : Mean vars s n d :=
  ⟨⟨t, by rw [hs]; exact hG, hv⟩, hl, h0, h1, h2⟩
def vs (a b c : Nat) : List (Int × Int) := [((a : Int), 1), ((b : Int), 1), ((c : Int), 1)]
section
variable {a b c : Nat}
theorem prod_in (hb : b ≤ 255) (hc : c ≤ 256) : 0 ≤ (b : Int) * c ∧ (b : Int) * c ≤ 65280 := by
  have h : b * c ≤ 255 * 256 := Nat.mul_le_mul hb hc
  have e : ((b * c : Nat) : Int) = (b : Int) * c := by simp
  omega
theorem prod_ab (ha : a ≤ 255) (hb : b ≤ 255) : 0 ≤ (a : Int) * b ∧ (a : Int) * b ≤ 65280 := by
  have h : a * b ≤ 255 * 256 := Nat.mul_le_mul ha (by omega)
  have e : ((a * b : Nat) : Int) = (a : Int) * b := by simp
  omega
theorem prod_s (ha : a ≤ 255) (hb : b ≤ 255) (hc : c ≤ 256) : 0 ≤ ((a : Int) + b) * c ∧ ((a : Int) + b) * c ≤ 130560 := by
  have h : (a + b) * c ≤ 510 * 256 := Nat.mul_le_mul (by omega) hc
  have e : (((a + b) * c : Nat) : Int) = ((a : Int) + b) * c := by simp
  omega
theorem mean0 (ha : a ≤ 255) (hb : b ≤ 255) (hc : c ≤ 256) : Mean (vs a b c) (decDigits a ++ [43] ++ decDigits b ++ [120] ++ decDigits c) (a + b * c) 1 := by
  have h := prod_in hb hc
  have l1 := len_num a (by omega)
  have l2 := len_num b (by omega)
  have l3 := len_num c hc
  refine .mk' (s' := decDigits a ++ 43 :: (decDigits b ++ 120 :: decDigits c)) (by simp) (.sop (.sone (.pone (gn 30 a (by omega)))) (.pop (.pone (gn 30 b (by omega))) (gn 30 c hc) rfl) rfl) ?_ (by simp; omega) (by omega) (by omega) (by decide)
  exact Vl.add (vn _ a (by omega)) (Vl.mul (p := (b : Int) * c) (q := 1) (vn _ b (by omega)) (vn _ c hc) (by decide) (make_small (by decide) (by decide) (by omega) (by omega)) (by simp)) (by decide) (make_small (by decide) (by decide) (by omega) (by omega)) (by simp)
theorem mean1 (ha : a ≤ 255) (hb : b ≤ 255) (hc : c ≤ 256) : Mean (vs a b c) ([40] ++ decDigits a ++ [43] ++ decDigits b ++ [41, 120] ++ decDigits c) ((a + b) * c) 1 := by
  have h := prod_s ha hb hc
  have l1 := len_num a (by omega)
  have l2 := len_num b (by omega)
  have l3 := len_num c hc
  refine .mk' (s' := (40 :: ((decDigits a ++ 43 :: decDigits b) ++ [41])) ++ 120 :: decDigits c) (by simp) (.sone (.pop (.pone (.par (d := 29) (.sop (.sone (.pone (gn 29 a (by omega)))) (.pone (gn 29 b (by omega))) rfl))) (gn 30 c hc) rfl)) ?_ (by simp; omega) (by omega) (by omega) (by decide)
  exact Vl.mul (Vl.add (p := (a : Int) + b) (q := 1) (vn _ a (by omega)) (vn _ b (by omega)) (by decide) (make_small (by decide) (by decide) (by omega) (by omega)) (by simp)) (vn _ c hc) (by decide) (make_small (by decide) (by decide) (by omega) (by omega)) (by simp)
theorem mean2 (ha : a ≤ 255) (hb : b ≤ 255) (hc : c ≤ 256) : Mean (vs a b c) (decDigits a ++ [45] ++ decDigits b ++ [45] ++ decDigits c) (a - b - c) 1 := by
  have l1 := len_num a (by omega)
  have l2 := len_num b (by omega)
  have l3 := len_num c hc
  refine .mk' (s' := (decDigits a ++ 45 :: decDigits b) ++ 45 :: decDigits c) (by simp) (.sop (.sop (.sone (.pone (gn 30 a (by omega)))) (.pone (gn 30 b (by omega))) rfl) (.pone (gn 30 c hc)) rfl) ?_ (by simp; omega) (by omega) (by omega) (by decide)
  exact Vl.sub (Vl.sub (p := (a : Int) - b) (q := 1) (vn _ a (by omega)) (vn _ b (by omega)) (by decide) (make_small (by decide) (by decide) (by omega) (by omega)) (by omega)) (vn _ c hc) (by decide) (make_small (by decide) (by decide) (by omega) (by omega)) (by omega)
theorem mean3 (ha : a ≤ 255) (hb : b ≤ 255) (hc : c ≤ 256) : Mean (vs a b c) (decDigits a ++ [45, 40] ++ decDigits b ++ [45] ++ decDigits c ++ [41]) (a - b + c) 1 := by
  have l1 := len_num a (by omega)
  have l2 := len_num b (by omega)
  have l3 := len_num c hc
  refine .mk' (s' := decDigits a ++ 45 :: (40 :: ((decDigits b ++ 45 :: decDigits c) ++ [41]))) (by simp) (.sop (.sone (.pone (gn 30 a (by omega)))) (.pone (.par (d := 29) (.sop (.sone (.pone (gn 29 b (by omega)))) (.pone (gn 29 c hc)) rfl))) rfl) ?_ (by simp; omega) (by omega) (by omega) (by decide)
  exact Vl.sub (vn _ a (by omega)) (Vl.sub (p := (b : Int) - c) (q := 1) (vn _ b (by omega)) (vn _ c hc) (by decide) (make_small (by decide) (by decide) (by omega) (by omega)) (by omega)) (by decide) (make_small (by decide) (by decide) (by omega) (by omega)) (by omega)
theorem mean5 (ha : a ≤ 255) (hb : b ≤ 255) (hc : c ≤ 256) (hc1 : 1 ≤ c) : Mean (vs a b c) (decDigits a ++ [88] ++ decDigits b ++ [47] ++ decDigits c) (a * b) c := by
  have h := prod_ab ha hb
  have l1 := len_num a (by omega)
  have l2 := len_num b (by omega)
  have l3 := len_num c hc
  refine .mk' (s' := (decDigits a ++ 88 :: decDigits b) ++ 47 :: decDigits c) (by simp) (.sone (.pop (.pop (.pone (gn 30 a (by omega))) (gn 30 b (by omega)) rfl) (gn 30 c hc) rfl)) ?_ (by simp; omega) (by omega) (by omega) (by omega)
  exact Vl.quo (Vl.mul (p := (a : Int) * b) (q := 1) (vn _ a (by omega)) (vn _ b (by omega)) (by decide) (make_small (by decide) (by decide) (by omega) (by omega)) (by simp)) (vn _ c hc) (by omega) (by omega) (make_small (by omega) (by omega) (by omega) (by omega)) (by simp)
theorem mean6 (ha : a ≤ 255) (hb : b ≤ 255) : Mean (vs a b c) ([45] ++ decDigits a ++ [120, 45] ++ decDigits b) (a * b) 1 := by
  have h := prod_ab ha hb
  have l1 := len_num a (by omega)
  have l2 := len_num b (by omega)
  refine .mk' (s' := (45 :: decDigits a) ++ 120 :: (45 :: decDigits b)) (by simp) (.sone (.pop (.pone (.neg (gn 29 a (by omega)))) (.neg (gn 29 b (by omega))) rfl)) ?_ (by simp; omega) (by omega) (by omega) (by decide)
  exact Vl.mul (Vl.neg (vn _ a (by omega)) rfl) (Vl.neg (vn _ b (by omega)) rfl) (by decide) (make_small (by decide) (by decide) (by omega) (by omega)) (by simp [Int.neg_mul_neg])
theorem mean7 (ha : a ≤ 255) (hb : b ≤ 255) : Mean (vs a b c) ([45, 45] ++ decDigits a ++ [45, 43] ++ decDigits b) (a - b) 1 := by
  have l1 := len_num a (by omega)
  have l2 := len_num b (by omega)
  refine .mk' (s' := (45 :: 45 :: decDigits a) ++ 45 :: (43 :: decDigits b)) (by simp) (.sop (.sone (.pone (.neg (.neg (gn 28 a (by omega)))))) (.pone (.plus (gn 29 b (by omega)))) rfl) ?_ (by simp; omega) (by omega) (by omega) (by decide)
  exact Vl.sub (Vl.neg (r := (a : Int)) (Vl.neg (vn _ a (by omega)) rfl) (by omega)) (vn _ b (by omega)) (by decide) (make_small (by decide) (by decide) (by omega) (by omega)) (by omega)
theorem v1 (ha : a ≤ 255) : Vl (vs a b c) (.var 1) a 1 := Vl.var (by decide) rfl (by omega) (by omega)
theorem v2 (hb : b ≤ 255) : Vl (vs a b c) (.var 2) b 1 := Vl.var (by decide) rfl (by omega) (by omega)
theorem v3 (hc : c ≤ 256) : Vl (vs a b c) (.var 3) c 1 := Vl.var (by decide) rfl (by omega) (by omega)
theorem gv (d n : Nat) (h1 : 1 ≤ n) (h2 : n ≤ 9) : G 0 d (36 :: two n) (.var n) := by
  obtain ⟨f1, f2, f3, _⟩ := two_facts ⟨n, by omega⟩ h1
  exact .var f1 f2 h1 (by omega) f3
theorem mean8 (ha : a ≤ 255) (hb : b ≤ 255) (hc : c ≤ 256) : Mean (vs a b c) [36, 49, 43, 36, 50, 120, 36, 51] (a + b * c) 1 := by
  have h := prod_in hb hc
  refine .mk' (s' := (36 :: two 1) ++ 43 :: ((36 :: two 2) ++ 120 :: (36 :: two 3))) (by decide) (.sop (.sone (.pone (gv 30 1 (by decide) (by decide)))) (.pop (.pone (gv 30 2 (by decide) (by decide))) (gv 30 3 (by decide) (by decide)) rfl) rfl) ?_ (by decide) (by omega) (by omega) (by decide)
  exact Vl.add (v1 ha) (Vl.mul (p := (b : Int) * c) (q := 1) (v2 hb) (v3 hc) (by decide) (make_small (by decide) (by decide) (by omega) (by omega)) (by simp)) (by decide) (make_small (by decide) (by decide) (by omega) (by omega)) (by simp)
theorem mean9 (ha : a ≤ 255) : Mean (vs a b c) ([36, 57, 43] ++ decDigits a ++ [46, 53]) (2 * a + 1) 2 := by
  have l1 := len_num a (by omega)
  refine .mk' (s' := (36 :: two 9) ++ 43 :: (decDigits a ++ [46, 53])) (by simp [show two 9 = [57] by decide]) (.sop (.sone (.pone (gv 30 9 (by decide) (by decide)))) (.pone (gh 30 a (by omega))) rfl) ?_ (by simp; omega) (by omega) (by omega) (by decide)
  exact Vl.add (p1 := 0) (q1 := 1) (p2 := 2 * (a : Int) + 1) (q2 := 2) (Vl.var (by decide) rfl (by decide) (by decide)) (Vl.num (by omega) (by decide) (make_small (by decide) (by decide) (by omega) (by omega)) (by omega)) (by decide) (make_small (by decide) (by decide) (by omega) (by omega)) (by omega)
theorem mean4 (ha : a ≤ 255) (hc : c ≤ 256) (hc1 : 1 ≤ c) : Mean (vs a b c) (decDigits a ++ [47] ++ decDigits c ++ [47, 50]) a (2 * c) := by
  have l1 := len_num a (by omega)
  have l3 := len_num c hc
  have h2 : decDigits 2 = [50] := Lib.decDigits_one (by decide)
  refine .mk' (s' := (decDigits a ++ 47 :: decDigits c) ++ 47 :: decDigits 2) (by rw [h2]; simp) (.sone (.pop (.pop (.pone (gn 30 a (by omega))) (gn 30 c hc) rfl) (gn 30 2 (by decide)) rfl)) ?_ (by simp; omega) (by omega) (by omega) (by omega)
  exact Vl.quo (Vl.quo (p := (a : Int)) (q := c) (vn _ a (by omega)) (vn _ c hc) (by omega) (by omega) (make_small (by omega) (by omega) (by omega) (by omega)) (by simp)) (vn _ 2 (by decide)) (by decide) (by omega) (make_small (by omega) (by omega) (by omega) (by omega)) (by rw [Int.mul_one, Int.mul_comm (c : Int)]; rfl)
theorem mean10 (ha : a ≤ 255) (hb : b ≤ 255) (hc : c ≤ 256) (hc1 : 1 ≤ c) : Mean (vs a b c) [45, 40, 36, 49, 45, 36, 50, 41, 47, 36, 51] (b - a) c := by
  refine .mk' (s' := (45 :: (40 :: (((36 :: two 1) ++ 45 :: (36 :: two 2)) ++ [41]))) ++ 47 :: (36 :: two 3)) (by decide) (.sone (.pop (.pone (.neg (.par (d := 28) (.sop (.sone (.pone (gv 28 1 (by decide) (by decide)))) (.pone (gv 28 2 (by decide) (by decide))) rfl)))) (gv 30 3 (by decide) (by decide)) rfl)) ?_ (by decide) (by omega) (by omega) (by omega)
  exact Vl.quo (Vl.neg (r := (b : Int) - a) (Vl.sub (p := (a : Int) - b) (q := 1) (v1 ha) (v2 hb) (by decide) (make_small (by decide) (by decide) (by omega) (by omega)) (by omega)) (by omega)) (v3 hc) (by omega) (by omega) (make_small (by omega) (by omega) (by omega) (by omega)) (by simp)
end
end Go.Proofs.YtkfjmcdfamhiaaaDoor.Mn
