/-
  Plain: a number's text denotes it; which texts denote numbers (2.1, 2.2). No program in sight.
-/
import Derived.Test.YtecpmnkgikcpnaaDoorDt
namespace Go.Proofs.YtecpmnkgikcpnaaDoor.Dp
open Go.Lib (dg nDigits decDigits trimRightB)

theorem foldl_val (l : List UInt8) : ∀ v, l.foldl (fun v c => v * 10 + (c.toNat - 48)) v = v * 10 ^ l.length + val l := by
  induction l with
  | nil => intro v; simp [val]
  | cons c l ih =>
    intro v
    unfold val
    simp only [List.foldl_cons, List.length_cons]
    rw [ih, ih (0 * 10 + (c.toNat - 48)), Nat.pow_succ, Nat.add_mul, Nat.zero_mul, Nat.zero_add, Nat.mul_assoc, Nat.mul_comm 10, Nat.add_assoc]
theorem val_cons (c : UInt8) (l : List UInt8) : val (c :: l) = (c.toNat - 48) * 10 ^ l.length + val l := by
  have := foldl_val l (0 * 10 + (c.toNat - 48))
  rw [Nat.zero_mul, Nat.zero_add] at this
  unfold val
  rw [List.foldl_cons, Nat.zero_mul, Nat.zero_add, this]; rfl
theorem val_append (a b : List UInt8) : val (a ++ b) = val a * 10 ^ b.length + val b := by
  have := foldl_val b (val a)
  rw [← this]; unfold val; rw [List.foldl_append]
theorem val_pad (n : Nat) : ∀ k, val (pad n k) = n % 10 ^ k
  | 0 => by simp [pad_zero, val_nil, Nat.mod_one]
  | k + 1 => by
    rw [pad_succ, val_cons, val_pad n k, dg_toNat, pad_length, Nat.pow_succ, Nat.mod_mul]
    rw [show 48 + n / 10 ^ k % 10 - 48 = n / 10 ^ k % 10 by omega, Nat.mul_comm, Nat.add_comm]
theorem val_zeros (m : Nat) : val (List.replicate m 48) = 0 := by
  induction m with
  | zero => rfl
  | succ m ih => rw [List.replicate_succ, val_cons, ih]; simp
theorem digits_pad (n k : Nat) : ∀ c ∈ pad n k, isD c = true := by
  intro c hc
  obtain ⟨t, _, rfl⟩ := List.mem_map.1 hc
  exact isD_dg _ _
theorem takeWhile_all {α : Type} (p : α → Bool) (l : List α) : ∀ b ∈ l.takeWhile p, p b = true := by
  induction l with
  | nil => intro b hb; cases hb
  | cons a l ih =>
    intro b hb
    rw [List.takeWhile_cons] at hb
    split at hb
    · rename_i h
      rcases List.mem_cons.1 hb with rfl | h2
      · exact h
      · exact ih b h2
    · cases hb
theorem trim_split (l : List UInt8) (c : UInt8) : ∃ m, l = trimRightB l c ++ List.replicate m c := by
  unfold trimRightB
  have h := List.takeWhile_append_dropWhile (p := (· == c)) (l := l.reverse)
  refine ⟨(l.reverse.takeWhile (· == c)).length, ?_⟩
  have h2 : l.reverse.takeWhile (· == c) = List.replicate (l.reverse.takeWhile (· == c)).length c := by
    apply List.eq_replicate_iff.2
    refine ⟨rfl, fun b hb => ?_⟩
    have := takeWhile_all (· == c) _ b hb
    simpa using this
  have h3 := congrArg List.reverse h
  rw [List.reverse_append, List.reverse_reverse, h2, List.reverse_replicate] at h3
  rw [h3]
theorem val_trim (l : List UInt8) : val l = val (trimRightB l 48) * 10 ^ (l.length - (trimRightB l 48).length) := by
  obtain ⟨m, hm⟩ := trim_split l 48
  have h1 := congrArg val hm
  rw [val_append, val_zeros, List.length_replicate, Nat.add_zero] at h1
  have h2 := congrArg List.length hm
  rw [List.length_append, List.length_replicate] at h2
  rw [show l.length - (trimRightB l 48).length = m by omega]
  exact h1
theorem digits_trim {l : List UInt8} (h : ∀ c ∈ l, isD c = true) : ∀ c ∈ trimRightB l 48, isD c = true := by
  obtain ⟨m, hm⟩ := trim_split l 48
  intro c hc
  apply h
  rw [hm]
  exact List.mem_append_left _ hc

theorem nd_digits (D : List UInt8) (h : ∀ c ∈ D, isD c = true) (r : List UInt8) : nd (D ++ r) = D.length + nd r := by
  induction D with
  | nil => simp
  | cons c D ih =>
    rw [List.cons_append, nd_cons, if_pos (h c (by simp)), ih (fun d hd => h d (by simp [hd])), List.length_cons]; omega
theorem nd_point (t : List UInt8) : nd (46 :: t) = 0 := by rw [nd_cons]; rfl
theorem decU_whole (D : List UInt8) (h : ∀ c ∈ D, isD c = true) : decU D = if D.length ≤ 6 ∧ D.length ≠ 0 then some (val D * 1000000) else none := by
  have hn : nd D = D.length := by have := nd_digits D h []; simpa [nd_nil] using this
  unfold decU
  rw [hn, List.drop_length]
theorem decU_point (D F : List UInt8) (h : ∀ c ∈ D, isD c = true) (hF : ∀ c ∈ F, isD c = true) :
    decU (D ++ 46 :: F) = if D.length ≤ 6 ∧ F.length ≤ 6 ∧ D.length + F.length ≠ 0 then some (val D * 1000000 + val F * 10 ^ (6 - F.length)) else none := by
  have hn : nd (D ++ 46 :: F) = D.length := by rw [nd_digits D h, nd_point]; rfl
  have hf : nd F = F.length := by have := nd_digits F hF []; simpa [nd_nil] using this
  unfold decU
  rw [hn, List.drop_left, List.take_left]
  simp only
  rw [hf]
  by_cases hg : D.length ≤ 6 ∧ F.length ≤ 6 ∧ D.length + F.length ≠ 0
  · rw [if_pos hg, if_pos ⟨rfl, hg.1, hg.2.1, rfl, hg.2.2⟩]
  · rw [if_neg hg, if_neg (fun h => hg ⟨h.2.1, h.2.2.1, h.2.2.2.2⟩)]
/-- A text that denotes a number without a sign: digits, or digits with one point. -/
theorem decU_form {l : List UInt8} {n : Nat} (h : decU l = some n) :
    (∀ c ∈ l, isD c = true) ∨ ∃ D F, l = D ++ 46 :: F ∧ (∀ c ∈ D, isD c = true) ∧ (∀ c ∈ F, isD c = true) := by
  unfold decU at h
  split at h
  · rename_i hd
    left
    have h1 : l.length ≤ nd l := List.drop_eq_nil_iff.1 hd
    have := take_nd l (nd l) (Nat.le_refl _)
    rwa [List.take_of_length_le h1] at this
  · rename_i c t hd
    split at h
    · rename_i hg
      right
      refine ⟨l.take (nd l), t, ?_, take_nd l (nd l) (Nat.le_refl _), ?_⟩
      · have h46 : c = 46 := UInt8.toNat_inj.1 hg.1
        subst h46
        rw [← hd]; exact (List.take_append_drop _ _).symm
      · have := take_nd t (nd t) (Nat.le_refl _)
        rwa [List.take_of_length_le (by omega)] at this
    · cases h
theorem decU_lt {l : List UInt8} {n : Nat} (h : decU l = some n) : n < 1000000000000 := by
  rcases decU_form h with hd | ⟨D, F, rfl, hD, hF⟩
  · rw [decU_whole l hd] at h
    split at h
    · rename_i hg
      injection h with h
      have h1 := val_lt l hd
      have h2 : 10 ^ l.length ≤ 10 ^ 6 := Nat.pow_le_pow_right (by decide) hg.1
      omega
    · cases h
  · rw [decU_point D F hD hF] at h
    split at h
    · rename_i hg
      injection h with h
      have h1 := val_lt D hD
      have h2 : 10 ^ D.length ≤ 10 ^ 6 := Nat.pow_le_pow_right (by decide) hg.1
      have h3 := val_lt F hF
      have h4 : val F * 10 ^ (6 - F.length) < 10 ^ F.length * 10 ^ (6 - F.length) := Nat.mul_lt_mul_of_pos_right h3 (Nat.pow_pos (by decide))
      rw [← Nat.pow_add, show F.length + (6 - F.length) = 6 by omega] at h4
      omega
    · cases h
theorem dec_ok {l : List UInt8} {n : Int} (h : dec l = some n) : okN n = true := by
  unfold dec at h
  cases hu : decU (strip l).2 with
  | none => rw [hu] at h; cases h
  | some m =>
    have hm := decU_lt hu
    rw [hu] at h
    have h' : (if (strip l).1 = true then -(m : Int) else (m : Int)) = n := by simpa using h
    rw [okN_iff, ← h']
    split <;> omega

theorem strip_digit {c : UInt8} (h : isD c = true) (r : List UInt8) : strip (c :: r) = (false, c :: r) := by
  have := (isD_iff c).1 h
  simp only [strip]
  rw [if_neg (by omega), if_neg (by omega)]
theorem strip_minus (r : List UInt8) : strip (45 :: r) = (true, r) := rfl
theorem strip_plus (r : List UInt8) : strip (43 :: r) = (false, r) := rfl

/-- The text without its sign. -/
def bodyL (a : Nat) : List UInt8 := decDigits (a / 1000000) ++ (if a % 1000000 = 0 then [] else 46 :: trimRightB (pad (a % 1000000) 6) 48)
theorem textL_nonneg (a : Nat) (ha : a < 1000000000000) : textL (a : Int) = bodyL a := by
  unfold textL bodyL
  rw [if_pos ((okN_iff _).2 ⟨by omega, by omega⟩), if_neg (by omega)]
  simp
theorem textL_minus (a : Nat) (h0 : 0 < a) (ha : a < 1000000000000) : textL (-(a : Int)) = 45 :: bodyL a := by
  unfold textL bodyL
  rw [if_pos ((okN_iff _).2 ⟨by omega, by omega⟩), if_pos (by omega)]
  simp
theorem nDigits_le6 {x : Nat} (h : x < 1000000) : nDigits x ≤ 6 := nDigits_le_of_lt 6 x (by simpa using h) (by decide)
theorem decU_body (a : Nat) (ha : a < 1000000000000) : decU (bodyL a) = some a := by
  have hw : a / 1000000 < 1000000 := by omega
  have hl : (decDigits (a / 1000000)).length ≤ 6 ∧ (decDigits (a / 1000000)).length ≠ 0 := by
    rw [Lib.decDigits_length]
    have := Lib.nDigits_pos (a / 1000000)
    exact ⟨nDigits_le6 hw, by omega⟩
  have hd : ∀ c ∈ decDigits (a / 1000000), isD c = true := by rw [dec_pad]; exact digits_pad _ _
  have hv : val (decDigits (a / 1000000)) = a / 1000000 := by
    rw [dec_pad, val_pad]
    exact Nat.mod_eq_of_lt (Lib.lt_pow_nDigits _)
  unfold bodyL
  by_cases hf : a % 1000000 = 0
  · rw [if_pos hf, List.append_nil, decU_whole _ hd, if_pos hl, hv]
    congr 1; omega
  · rw [if_neg hf, decU_point _ _ hd (digits_trim (digits_pad _ _))]
    have h6 : (trimRightB (pad (a % 1000000) 6) 48).length ≤ 6 := by
      have := trimRightB_length (pad (a % 1000000) 6) 48
      rwa [pad_length] at this
    rw [if_pos ⟨hl.1, h6, by omega⟩, hv]
    have ht := val_trim (pad (a % 1000000) 6)
    rw [pad_length, val_pad, Nat.mod_eq_of_lt (show a % 1000000 < 10 ^ 6 by have := Nat.mod_lt a (show 0 < 1000000 by decide); simpa using this)] at ht
    rw [← ht]
    congr 1; omega
theorem body_head (a : Nat) : ∃ c r, bodyL a = c :: r ∧ isD c = true := by
  have hp := Lib.nDigits_pos (a / 1000000)
  unfold bodyL
  rw [dec_pad]
  obtain ⟨k, hk⟩ : ∃ k, nDigits (a / 1000000) = k + 1 := ⟨nDigits (a / 1000000) - 1, by omega⟩
  rw [hk, pad_succ]
  exact ⟨_, _, rfl, isD_dg _ _⟩
theorem body_length (a : Nat) (ha : a < 1000000000000) : (bodyL a).length ≤ 13 := by
  unfold bodyL
  have h1 : (decDigits (a / 1000000)).length ≤ 6 := by rw [Lib.decDigits_length]; exact nDigits_le6 (by omega)
  have h2 : (trimRightB (pad (a % 1000000) 6) 48).length ≤ 6 := by
    have := trimRightB_length (pad (a % 1000000) 6) 48
    rwa [pad_length] at this
  rw [List.length_append]
  split
  · simp; omega
  · simp; omega
theorem strip_body (a : Nat) : strip (bodyL a) = (false, bodyL a) := by
  obtain ⟨c, r, h, hc⟩ := body_head a
  rw [h]; exact strip_digit hc r
theorem dec_body (a : Nat) (ha : a < 1000000000000) : dec (bodyL a) = some (a : Int) := by
  unfold dec; rw [strip_body]; simp [decU_body a ha]
theorem dec_plus_body (a : Nat) (ha : a < 1000000000000) : dec (43 :: bodyL a) = some (a : Int) := by
  unfold dec; rw [strip_plus]; simp [decU_body a ha]
theorem dec_minus_body (a : Nat) (ha : a < 1000000000000) : dec (45 :: bodyL a) = some (-(a : Int)) := by
  unfold dec; rw [strip_minus]; simp [decU_body a ha]
theorem dec_text {n : Int} (h : okN n = true) : dec (textL n) = some n := by
  have hb := (okN_iff n).1 h
  by_cases hn : n < 0
  · obtain ⟨a, rfl⟩ : ∃ a : Nat, n = -(a : Int) := ⟨n.natAbs, by omega⟩
    rw [textL_minus a (by omega) (by omega)]
    exact dec_minus_body a (by omega)
  · obtain ⟨a, rfl⟩ : ∃ a : Nat, n = (a : Int) := ⟨n.natAbs, by omega⟩
    rw [textL_nonneg a (by omega)]
    exact dec_body a (by omega)
theorem text_inj {n m : Int} (h : okN n = true) (h' : okN m = true) (e : textL n = textL m) : n = m := by
  have h1 := dec_text h
  rw [e, dec_text h'] at h1
  injection h1 with h1; exact h1.symm
theorem text_length {n : Int} (h : okN n = true) : (textL n).length ≤ 14 := by
  have hb := (okN_iff n).1 h
  by_cases hn : n < 0
  · obtain ⟨a, rfl⟩ : ∃ a : Nat, n = -(a : Int) := ⟨n.natAbs, by omega⟩
    rw [textL_minus a (by omega) (by omega)]
    have := body_length a (by omega)
    simp; omega
  · obtain ⟨a, rfl⟩ : ∃ a : Nat, n = (a : Int) := ⟨n.natAbs, by omega⟩
    rw [textL_nonneg a (by omega)]
    have := body_length a (by omega)
    omega

/-! ### Texts that denote no number -/
theorem decU_not_mem {l : List UInt8} {c : UInt8} (hc : c ∈ l) (hd : isD c = false) (hp : c ≠ 46) : decU l = none := by
  cases h : decU l with
  | none => rfl
  | some n =>
    exfalso
    rcases decU_form h with h1 | ⟨D, F, rfl, hD, hF⟩
    · rw [h1 c hc] at hd; cases hd
    · rcases List.mem_append.1 hc with h1 | h1
      · rw [hD c h1] at hd; cases hd
      · rcases List.mem_cons.1 h1 with h2 | h2
        · exact hp h2
        · rw [hF c h2] at hd; cases hd
theorem strip_snd_mem {l : List UInt8} {c : UInt8} (hc : c ∈ l) (h43 : c ≠ 43) (h45 : c ≠ 45) : c ∈ (strip l).2 := by
  cases l with
  | nil => cases hc
  | cons d r =>
    simp only [strip]
    have hr : c ≠ d → c ∈ r := fun h => (List.mem_cons.1 hc).resolve_left h
    split
    · rename_i h; exact hr (fun e => h43 (by rw [e]; exact UInt8.toNat_inj.1 h))
    · split
      · rename_i h; exact hr (fun e => h45 (by rw [e]; exact UInt8.toNat_inj.1 h))
      · exact hc
theorem dec_blank (l : List UInt8) : dec (l ++ [32]) = none := by
  unfold dec
  rw [decU_not_mem (c := 32) (strip_snd_mem (by simp) (by decide) (by decide)) (by decide) (by decide)]; rfl
theorem count_digits {D : List UInt8} (h : ∀ c ∈ D, isD c = true) : D.count 46 = 0 := by
  apply List.count_eq_zero.2
  intro hm
  have := h 46 hm
  revert this; decide
theorem decU_points {l : List UInt8} (h : 2 ≤ l.count 46) : decU l = none := by
  cases hd : decU l with
  | none => rfl
  | some n =>
    exfalso
    rcases decU_form hd with h1 | ⟨D, F, rfl, hD, hF⟩
    · rw [count_digits h1] at h; omega
    · rw [List.count_append, List.count_cons, count_digits hD, count_digits hF] at h
      simp at h
theorem strip_count (l : List UInt8) : (strip l).2.count 46 = l.count 46 := by
  cases l with
  | nil => rfl
  | cons d r =>
    simp only [strip]
    split
    · rename_i h
      have : d = 43 := UInt8.toNat_inj.1 h
      subst this; simp
    · split
      · rename_i h
        have : d = 45 := UInt8.toNat_inj.1 h
        subst this; simp
      · rfl
theorem dec_points (l : List UInt8) : dec (l ++ [46, 46]) = none := by
  unfold dec
  rw [decU_points (by rw [strip_count, List.count_append]; simp)]; rfl
end Go.Proofs.YtecpmnkgikcpnaaDoor.Dp
