/-
  Plain: the text of an expression's operations, as a machine; it is of the grammar, no deeper than what was read and not much longer (chapter 12.2, 12.4). No program in sight.
-/
import Derived.Test.YtkfjmcdfamhiaaaDoorTx
import Derived.Test.YtkfjmcdfamhiaaaDoorEr
namespace Go.Proofs.YtkfjmcdfamhiaaaDoor.Tx
open Go.Proofs.YtkfjmcdfamhiaaaDoor.Dp Go.Proofs.YtkfjmcdfamhiaaaDoor.Fr Go.Proofs.YtkfjmcdfamhiaaaDoor.Ep
open Go.Lib (decDigits nDigits trimRightB dg)

/-- From the top: the i-th of the stack. -/
def topP (st : List P) (i : Nat) : P := st.getD (st.length - i) ([], 0, 0)
/-- An operation's text and its depth. -/
def rawV (st : List P) (k n : Int) : List UInt8 × Int :=
  if k = 1 then (textL n, 0) else if k = 2 then (36 :: decDigits n.toNat, 0)
  else if k = 7 then (45 :: (insideV (topP st 1) 3).1, (insideV (topP st 1) 3).2.2 + 1)
  else ((pairV k (topP st 2) (topP st 1)).1, (pairV k (topP st 2) (topP st 1)).2.2)
def fits (r : List UInt8 × Int) : Bool := decide (r.1.length ≤ 300) && decide (r.2 ≤ 30)
def endT (st : List P) : Option (List UInt8) := match st with
  | [x] => some x.1
  | _ => none
def nextT (st : List P) (k n : Int) : List P := st.take (st.length - tk k) ++ [((rawV st k n).1, rk k, (rawV st k n).2)]
def runT : List (Int × Int) → List P → Option (List UInt8)
  | [], st => endT st
  | o :: l, st => if fits (rawV st o.1 o.2) = true then runT l (nextT st o.1 o.2) else none
def textV (l : List (Int × Int)) : Option (List UInt8) := runT l []
/-- All are operations that Parse may give, and there are operands enough. -/
def Fit : List (Int × Int) → Nat → Prop
  | [], n => n = 1
  | o :: l, n => kn o.1 o.2 = true ∧ tk o.1 ≤ n ∧ Fit l (n - tk o.1 + 1)

/-! ### Trees -/
def WF : T → Prop
  | .num n => n < 1000000000000
  | .var n => 1 ≤ n ∧ n ≤ 99
  | .neg t => WF t
  | .bin k a b => (3 ≤ k ∧ k ≤ 6) ∧ WF a ∧ WF b
def pcT : T → P
  | .num n => (textL n, 3, 0)
  | .var n => (36 :: decDigits n, 3, 0)
  | .neg t => (45 :: (insideV (pcT t) 3).1, 3, (insideV (pcT t) 3).2.2 + 1)
  | .bin k a b => ((pairV k (pcT a) (pcT b)).1, rk k, (pairV k (pcT a) (pcT b)).2.2)
def allFit : T → Bool
  | .num n => fits ((pcT (.num n)).1, (pcT (.num n)).2.2)
  | .var n => fits ((pcT (.var n)).1, (pcT (.var n)).2.2)
  | .neg t => allFit t && fits ((pcT (.neg t)).1, (pcT (.neg t)).2.2)
  | .bin k a b => allFit a && (allFit b && fits ((pcT (.bin k a b)).1, (pcT (.bin k a b)).2.2))
theorem fit_T : ∀ (t : T) (l : List (Int × Int)) (n : Nat), WF t → Fit l (n + 1) → Fit (opsT t ++ l) n
  | .num m, l, n, h, hl => by
    have h' : m < 1000000000000 := h
    refine ⟨?_, Nat.zero_le _, hl⟩
    show kn 1 (m : Int) = true
    unfold kn
    rw [if_pos rfl]
    simp only [Bool.and_eq_true, decide_eq_true_eq, okN_iff]
    omega
  | .var m, l, n, h, hl => by
    have h' : 1 ≤ m ∧ m ≤ 99 := h
    refine ⟨?_, Nat.zero_le _, hl⟩
    show kn 2 (m : Int) = true
    unfold kn
    rw [if_neg (by decide), if_pos rfl]
    simp only [decide_eq_true_eq]
    omega
  | .neg t, l, n, h, hl => by
    show Fit (opsT t ++ [(7, 0)] ++ l) n
    rw [List.append_assoc]
    refine fit_T t _ _ h ⟨by decide, by show 1 ≤ n + 1; omega, ?_⟩
    show Fit l (n + 1 - 1 + 1)
    exact hl
  | .bin k a b, l, n, h, hl => by
    obtain ⟨hk, ha, hb⟩ : (3 ≤ k ∧ k ≤ 6) ∧ WF a ∧ WF b := h
    show Fit (opsT a ++ (opsT b ++ [((k : Int), 0)]) ++ l) n
    rw [List.append_assoc, List.append_assoc]
    have hk' : k = 3 ∨ k = 4 ∨ k = 5 ∨ k = 6 := by omega
    refine fit_T a _ _ ha (fit_T b _ _ hb ?_)
    rcases hk' with rfl | rfl | rfl | rfl <;> exact ⟨by decide, by show 2 ≤ n + 1 + 1; omega, hl⟩
theorem top_one (st : List P) (p : P) : topP (st ++ [p]) 1 = p := by simp [topP, List.getD]
theorem top_one2 (st : List P) (p q : P) : topP (st ++ [p] ++ [q]) 1 = q := top_one _ q
theorem top_two (st : List P) (p q : P) : topP (st ++ [p] ++ [q]) 2 = p := by
  unfold topP
  rw [show (st ++ [p] ++ [q]).length - 2 = st.length by simp, List.append_assoc]
  simp [List.getD]
theorem run_T : ∀ (t : T) (l : List (Int × Int)) (st : List P), WF t → runT (opsT t ++ l) st = if allFit t = true then runT l (st ++ [pcT t]) else none
  | .num m, l, st, h => by
    show (if fits (rawV st 1 (m : Int)) = true then runT l (nextT st 1 (m : Int)) else none) = _
    have e : rawV st 1 (m : Int) = (textL m, 0) := rfl
    have e2 : nextT st 1 (m : Int) = st ++ [pcT (.num m)] := by
      unfold nextT; rw [e, show tk 1 = 0 from rfl, show rk 1 = 3 from rfl, Nat.sub_zero, List.take_length, pcT]
    rw [e, e2, allFit, pcT]
  | .var m, l, st, h => by
    show (if fits (rawV st 2 (m : Int)) = true then runT l (nextT st 2 (m : Int)) else none) = _
    have e : rawV st 2 (m : Int) = (36 :: decDigits m, 0) := rfl
    have e2 : nextT st 2 (m : Int) = st ++ [pcT (.var m)] := by
      unfold nextT; rw [e]; show st.take (st.length - 0) ++ _ = _; rw [Nat.sub_zero, List.take_length]; rfl
    rw [e, e2]; rfl
  | .neg t, l, st, h => by
    show runT (opsT t ++ [(7, 0)] ++ l) st = _
    rw [List.append_assoc, run_T t _ _ h]
    cases hf : allFit t with
    | false => simp [allFit, hf]
    | true =>
      rw [if_pos rfl]
      show (if fits (rawV (st ++ [pcT t]) 7 0) = true then runT l (nextT (st ++ [pcT t]) 7 0) else none) = _
      have e : rawV (st ++ [pcT t]) 7 0 = (45 :: (insideV (pcT t) 3).1, (insideV (pcT t) 3).2.2 + 1) := by
        unfold rawV
        rw [if_neg (by decide), if_neg (by decide), if_pos rfl, top_one]
      have e2 : nextT (st ++ [pcT t]) 7 0 = st ++ [pcT (.neg t)] := by
        unfold nextT; rw [e]
        show (st ++ [pcT t]).take ((st ++ [pcT t]).length - 1) ++ _ = _
        rw [show (st ++ [pcT t]).length - 1 = st.length by simp, List.take_left]; rfl
      rw [e, e2]
      simp only [allFit, hf, Bool.true_and]
      rfl
  | .bin k a b, l, st, h => by
    obtain ⟨hk, ha, hb⟩ : (3 ≤ k ∧ k ≤ 6) ∧ WF a ∧ WF b := h
    show runT (opsT a ++ (opsT b ++ [((k : Int), 0)]) ++ l) st = _
    rw [List.append_assoc, List.append_assoc, run_T a _ _ ha]
    cases hfa : allFit a with
    | false => simp [allFit, hfa]
    | true =>
      rw [if_pos rfl, run_T b _ _ hb]
      cases hfb : allFit b with
      | false => simp [allFit, hfa, hfb]
      | true =>
        rw [if_pos rfl]
        show (if fits (rawV (st ++ [pcT a] ++ [pcT b]) k 0) = true then runT l (nextT (st ++ [pcT a] ++ [pcT b]) k 0) else none) = _
        have e : rawV (st ++ [pcT a] ++ [pcT b]) k 0 = ((pairV k (pcT a) (pcT b)).1, (pairV k (pcT a) (pcT b)).2.2) := by
          unfold rawV
          rw [if_neg (by omega), if_neg (by omega), if_neg (by omega), top_two, top_one2]
        have e2 : nextT (st ++ [pcT a] ++ [pcT b]) k 0 = st ++ [pcT (.bin k a b)] := by
          unfold nextT; rw [e]
          have h2 : tk (k : Int) = 2 := by unfold tk; rw [if_neg (by omega), if_neg (by omega)]
          rw [h2, show (st ++ [pcT a] ++ [pcT b]).length - 2 = st.length by simp, List.append_assoc, List.take_left]; rfl
        rw [e, e2]
        simp only [allFit, hfa, hfb, Bool.true_and]
        rfl
theorem text_T (t : T) (h : WF t) : textV (opsT t) = if allFit t = true then some (pcT t).1 else none := by
  have := run_T t [] [] h
  rw [List.append_nil] at this
  unfold textV
  rw [this]; rfl
theorem fit_all (t : T) (h : WF t) : Fit (opsT t) 0 := by
  have := fit_T t [] 0 h rfl
  rwa [List.append_nil] at this
theorem allFit_top : ∀ (t : T), allFit t = true → (pcT t).1.length ≤ 300 ∧ (pcT t).2.2 ≤ 30 := by
  intro t h
  cases t <;> simp only [allFit, Bool.and_eq_true, fits, decide_eq_true_eq] at h
  · exact h
  · exact h
  · exact h.2
  · exact h.2.2

/-! ### What is printed is of the grammar -/
theorem G_mono {l d : Nat} {u : List UInt8} {t : T} (h : G l d u t) : ∀ {e : Nat}, d ≤ e → G l e u t := by
  induction h with
  | num h1 h2 => intro e _; exact .num h1 h2
  | var h1 h2 h3 h4 h5 => intro e _; exact .var h1 h2 h3 h4 h5
  | plus _ ih => intro e he; obtain ⟨f, rfl⟩ : ∃ f, e = f + 1 := ⟨e - 1, by omega⟩; exact .plus (ih (by omega))
  | neg _ ih => intro e he; obtain ⟨f, rfl⟩ : ∃ f, e = f + 1 := ⟨e - 1, by omega⟩; exact .neg (ih (by omega))
  | par _ ih => intro e he; obtain ⟨f, rfl⟩ : ∃ f, e = f + 1 := ⟨e - 1, by omega⟩; exact .par (ih (by omega))
  | pone _ ih => intro e he; exact .pone (ih he)
  | pop _ _ hc iha ihb => intro e he; exact .pop (iha he) (ihb he) hc
  | sone _ ih => intro e he; exact .sone (ih he)
  | sop _ _ hc iha ihb => intro e he; exact .sop (iha he) (ihb he) hc
theorem G_up {l d : Nat} {u : List UInt8} {t : T} (h : G l d u t) : ∀ {m : Nat}, l ≤ m → m ≤ 2 → G m d u t := by
  intro m h1 h2
  by_cases h0 : l = m
  · exact h0 ▸ h
  · have : (l = 0 ∧ m = 1) ∨ (l = 0 ∧ m = 2) ∨ (l = 1 ∧ m = 2) := by omega
    rcases this with ⟨rfl, rfl⟩ | ⟨rfl, rfl⟩ | ⟨rfl, rfl⟩
    · exact .pone h
    · exact .sone (.pone h)
    · exact .sone h
theorem text_lit (n : Nat) (h : n < 1000000000000) : NumLit (textL n) ∧ dec (textL n) = some (n : Int) := by
  refine ⟨?_, dec_text ((okN_iff _).2 ⟨by omega, by omega⟩)⟩
  rw [textL_nonneg n h]
  refine ⟨?_, decU_form (decU_body n h)⟩
  obtain ⟨c, r, h1, _⟩ := body_head n
  rw [h1]; simp
/-- The digits of a number of one or two. -/
def two (n : Nat) : List UInt8 := if n < 10 then [UInt8.ofNat (48 + n % 10)] else [UInt8.ofNat (48 + n / 10 % 10), UInt8.ofNat (48 + n % 10)]
theorem dec_two {n : Nat} (h : n ≤ 99) : decDigits n = two n := by
  unfold two
  rw [dec_pad]
  by_cases h10 : n < 10
  · rw [if_pos h10, Lib.nDigits_small h10]
    show [dg n 0] = _
    rw [dg_mod]; simp
  · rw [if_neg h10, Lib.nDigits_big (by omega), Lib.nDigits_small (by omega), pad_succ, pad_succ, pad_zero, dg_mod, dg_mod]; simp
theorem two_facts : ∀ n : Fin 100, 1 ≤ n.val → (∀ c ∈ two n.val, isD c = true) ∧ varN (two n.val) = n.val ∧ hd (two n.val) ≠ 48 ∧ (two n.val).length ≤ 2 ∧ (n.val < 10 → (two n.val).length = 1) := by decide +kernel
theorem inside_G {t : T} {p : P} {D : Nat} (h1 : G (3 - p.2.1).toNat D p.1 t) (h2 : p.2.2 = D) (hr : 1 ≤ p.2.1 ∧ p.2.1 ≤ 3) (least : Int) (hl : 1 ≤ least ∧ least ≤ 3) : ∃ E : Nat, (insideV p least).2.2 = E ∧ G (3 - least).toNat E (insideV p least).1 t := by
  unfold insideV
  by_cases h : least ≤ p.2.1
  · rw [if_pos h]
    exact ⟨D, h2, G_up h1 (by omega) (by omega)⟩
  · rw [if_neg h]
    refine ⟨D + 1, by show _ + 1 = _; rw [h2]; rfl, ?_⟩
    exact G_up (G.par (G_up h1 (by omega) (Nat.le_refl _))) (Nat.zero_le _) (by omega)
theorem print_G : ∀ (t : T), WF t → (1 ≤ (pcT t).2.1 ∧ (pcT t).2.1 ≤ 3) ∧ ∃ D : Nat, (pcT t).2.2 = D ∧ G (3 - (pcT t).2.1).toNat D (pcT t).1 t
  | .num n, h => by
    have h' : n < 1000000000000 := h
    obtain ⟨h1, h2⟩ := text_lit n h'
    have hG : G 0 0 (textL n) (.num n) := .num h1 h2
    rw [pcT]
    generalize textL (n : Int) = X at hG
    exact ⟨by show (1 : Int) ≤ 3 ∧ (3 : Int) ≤ 3; decide, 0, rfl, hG⟩
  | .var n, h => by
    obtain ⟨h1, h2⟩ : 1 ≤ n ∧ n ≤ 99 := h
    refine ⟨by show (1 : Int) ≤ 3 ∧ (3 : Int) ≤ 3; decide, 0, rfl, ?_⟩
    obtain ⟨f1, f2, f3, _⟩ := two_facts ⟨n, by omega⟩ h1
    show G 0 0 (36 :: decDigits n) _
    rw [dec_two h2]
    exact .var f1 f2 h1 h2 f3
  | .neg t, h => by
    obtain ⟨hr, D, hD, hG⟩ := print_G t h
    obtain ⟨E, hE, hG2⟩ := inside_G hG hD hr 3 (by decide)
    refine ⟨by show (1 : Int) ≤ 3 ∧ (3 : Int) ≤ 3; decide, E + 1, by show _ + 1 = _; rw [hE]; rfl, ?_⟩
    exact .neg hG2
  | .bin k a b, h => by
    obtain ⟨hk, ha, hb⟩ : (3 ≤ k ∧ k ≤ 6) ∧ WF a ∧ WF b := h
    obtain ⟨hra, D, hD, hGa⟩ := print_G a ha
    obtain ⟨hrb, F, hF, hGb⟩ := print_G b hb
    have hk' : k = 3 ∨ k = 4 ∨ k = 5 ∨ k = 6 := by omega
    rcases hk' with rfl | rfl | rfl | rfl
    · obtain ⟨E1, hE1, g1⟩ := inside_G hGa hD hra 1 (by decide)
      obtain ⟨E2, hE2, g2⟩ := inside_G hGb hF hrb 2 (by decide)
      refine ⟨by show (1 : Int) ≤ 1 ∧ (1 : Int) ≤ 3; decide, max E1 E2, ?_, ?_⟩
      · show max (insideV (pcT a) 1).2.2 (insideV (pcT b) 2).2.2 = _; rw [hE1, hE2]; omega
      · exact .sop (G_mono g1 (Nat.le_max_left _ _)) (G_mono g2 (Nat.le_max_right _ _)) rfl
    · obtain ⟨E1, hE1, g1⟩ := inside_G hGa hD hra 1 (by decide)
      obtain ⟨E2, hE2, g2⟩ := inside_G hGb hF hrb 2 (by decide)
      refine ⟨by show (1 : Int) ≤ 1 ∧ (1 : Int) ≤ 3; decide, max E1 E2, ?_, ?_⟩
      · show max (insideV (pcT a) 1).2.2 (insideV (pcT b) 2).2.2 = _; rw [hE1, hE2]; omega
      · exact .sop (G_mono g1 (Nat.le_max_left _ _)) (G_mono g2 (Nat.le_max_right _ _)) rfl
    · obtain ⟨E1, hE1, g1⟩ := inside_G hGa hD hra 2 (by decide)
      obtain ⟨E2, hE2, g2⟩ := inside_G hGb hF hrb 3 (by decide)
      refine ⟨by show (1 : Int) ≤ 2 ∧ (2 : Int) ≤ 3; decide, max E1 E2, ?_, ?_⟩
      · show max (insideV (pcT a) 2).2.2 (insideV (pcT b) 3).2.2 = _; rw [hE1, hE2]; omega
      · exact .pop (G_mono g1 (Nat.le_max_left _ _)) (G_mono g2 (Nat.le_max_right _ _)) rfl
    · obtain ⟨E1, hE1, g1⟩ := inside_G hGa hD hra 2 (by decide)
      obtain ⟨E2, hE2, g2⟩ := inside_G hGb hF hrb 3 (by decide)
      refine ⟨by show (1 : Int) ≤ 2 ∧ (2 : Int) ≤ 3; decide, max E1 E2, ?_, ?_⟩
      · show max (insideV (pcT a) 2).2.2 (insideV (pcT b) 3).2.2 = _; rw [hE1, hE2]; omega
      · exact .pop (G_mono g1 (Nat.le_max_left _ _)) (G_mono g2 (Nat.le_max_right _ _)) rfl

/-! ### No deeper, not much longer -/
theorem pad_mod (n : Nat) : ∀ (k j : Nat), k ≤ j → pad n k = pad (n % 10 ^ j) k
  | 0, _, _ => rfl
  | k + 1, j, h => by
    rw [pad_succ, pad_succ, pad_mod n k j (by omega), dg_mod, dg_mod]
    congr 3
    have : 10 ^ j = 10 ^ k * (10 * 10 ^ (j - k - 1)) := by rw [← Nat.pow_succ', ← Nat.pow_add]; congr 1; omega
    rw [this, Nat.mod_mul, Nat.add_mul_div_left _ _ (Nat.pow_pos (by decide)), Nat.div_eq_of_lt (Nat.mod_lt _ (Nat.pow_pos (by decide))), Nat.zero_add, Nat.mod_mul_right_mod]
theorem pad_val : ∀ (L : List UInt8), (∀ c ∈ L, isD c = true) → pad (val L) L.length = L
  | [], _ => rfl
  | c :: L, h => by
    have hc := (isD_iff c).1 (h c (by simp))
    have hL : ∀ d ∈ L, isD d = true := fun d hd => h d (by simp [hd])
    have hlt := val_lt L hL
    rw [val_cons, List.length_cons, pad_succ, pad_mod _ L.length L.length (Nat.le_refl _), Nat.add_comm, Nat.add_mul_mod_self_right, Nat.mod_eq_of_lt hlt, pad_val L hL, dg_mod]
    congr 1
    rw [Nat.add_mul_div_right _ _ (Nat.pow_pos (by decide)), Nat.div_eq_of_lt hlt, Nat.zero_add, Nat.mod_eq_of_lt (by omega)]
    apply UInt8.toNat_inj.1
    rw [UInt8.toNat_ofNat']
    omega
theorem trim_zeros (F : List UInt8) (m : Nat) : (trimRightB (F ++ List.replicate m 48) 48).length ≤ F.length := by
  unfold trimRightB
  rw [List.length_reverse, List.reverse_append, List.reverse_replicate]
  have h : ∀ (m : Nat) (L : List UInt8), ((List.replicate m 48 ++ L).dropWhile (· == 48)).length ≤ L.length := by
    intro m L
    induction m with
    | zero =>
      have := (List.dropWhile_suffix (l := L) (· == 48)).length_le
      simpa using this
    | succ m ih => rw [List.replicate_succ, List.cons_append, List.dropWhile_cons_of_pos (by decide)]; exact ih
  have := h m F.reverse
  rwa [List.length_reverse] at this
theorem lit_len {u : List UInt8} {n : Nat} (hu : NumLit u) (hn : dec u = some (n : Int)) : n < 1000000000000 ∧ (textL n).length ≤ 2 * u.length := by
  have hlt : n < 1000000000000 := by have := (okN_iff _).1 (dec_ok hn); omega
  refine ⟨hlt, ?_⟩
  have hne := hu.1
  have hp := List.length_pos_iff.2 hne
  have hd : decU u = some n := by
    have hs : strip u = (false, u) := strip_lit (by have := lit_head hu []; rwa [List.append_nil] at this) hne
    unfold dec at hn
    rw [hs] at hn
    cases h : decU u with
    | none => rw [h] at hn; cases hn
    | some m => rw [h] at hn; simp at hn; congr 1; omega
  rw [textL_nonneg n hlt]
  unfold bodyL
  rcases hu.2 with hD | ⟨D, F, rfl, hD, hF⟩
  · rw [decU_whole u hD] at hd
    split at hd
    · injection hd with hd
      have h1 := val_lt u hD
      have hv : n / 1000000 = val u := by omega
      have hm : n % 1000000 = 0 := by omega
      rw [hv, if_pos hm, List.append_nil, Lib.decDigits_length]
      have := nDigits_le_of_lt u.length (val u) h1 hp
      omega
    · cases hd
  · rw [decU_point D F hD hF] at hd
    split at hd
    · rename_i hg
      injection hd with hd
      have h1 := val_lt D hD
      have h3 := val_lt F hF
      have h4 : val F * 10 ^ (6 - F.length) < 10 ^ F.length * 10 ^ (6 - F.length) := Nat.mul_lt_mul_of_pos_right h3 (Nat.pow_pos (by decide))
      rw [← Nat.pow_add, show F.length + (6 - F.length) = 6 by omega] at h4
      have hv : n / 1000000 = val D := by omega
      have hm : n % 1000000 = val F * 10 ^ (6 - F.length) := by omega
      rw [hv, hm, List.length_append, Lib.decDigits_length]
      have hnd : nDigits (val D) ≤ D.length + 1 := nDigits_le_of_lt (D.length + 1) (val D) (Nat.lt_of_lt_of_le h1 (Nat.pow_le_pow_right (by decide) (by omega))) (by omega)
      have hF6 : F.length ≤ 6 := hg.2.1
      have hpad : pad (val F * 10 ^ (6 - F.length)) 6 = F ++ List.replicate (6 - F.length) 48 := by
        have hz : ∀ c ∈ F ++ List.replicate (6 - F.length) 48, isD c = true := by
          intro c hc
          rcases List.mem_append.1 hc with h | h
          · exact hF c h
          · rw [(List.mem_replicate.1 h).2]; decide
        have := pad_val _ hz
        rw [val_append, val_zeros, List.length_append, List.length_replicate, Nat.add_zero, show F.length + (6 - F.length) = 6 by omega] at this
        exact this
      rw [hpad]
      have ht := trim_zeros F (6 - F.length)
      simp only [List.length_append, List.length_cons]
      split
      · simp; omega
      · simp only [List.length_cons]; omega
    · cases hd
theorem varN_one {u : List UInt8} (h : u.length ≤ 1) (hd : ∀ c ∈ u, isD c = true) : varN u ≤ 9 := by
  match u, h with
  | [], _ => decide
  | [c], _ =>
    have := (isD_iff c).1 (hd c (by simp))
    unfold varN
    simp only [List.foldl_cons, List.foldl_nil]
    omega
theorem fits_of {u : List UInt8} {d : Int} (h1 : u.length ≤ 300) (h2 : d ≤ 30) : fits (u, d) = true := by
  unfold fits; simp only [Bool.and_eq_true, decide_eq_true_eq]; exact ⟨h1, h2⟩
theorem inside_len (p : P) (least : Int) : (insideV p least).1.length ≤ p.1.length + 2 ∧ (insideV p least).2.2 ≤ p.2.2 + 1 := by
  unfold insideV
  split
  · exact ⟨by omega, by omega⟩
  · refine ⟨by simp, Int.le_refl _⟩
theorem inside_self {p : P} {least : Int} (h : least ≤ p.2.1) : insideV p least = p := by unfold insideV; rw [if_pos h]
theorem opP_kind {c : UInt8} {k : Nat} (h : opP c = some k) : k = 5 ∨ k = 6 := by
  unfold opP at h
  split at h
  · injection h with h; omega
  · split at h
    · injection h with h; omega
    · cases h
theorem opS_kind {c : UInt8} {k : Nat} (h : opS c = some k) : k = 3 ∨ k = 4 := by
  unfold opS at h
  split at h
  · injection h with h; omega
  · split at h
    · injection h with h; omega
    · cases h
theorem bound_G {l d : Nat} {u : List UInt8} {t : T} (h : G l d u t) : u.length ≤ 150 → d ≤ 30 →
    WF t ∧ allFit t = true ∧ ∀ least : Int, 1 ≤ least → least ≤ 3 - (l : Int) → (insideV (pcT t) least).1.length ≤ 2 * u.length ∧ (insideV (pcT t) least).2.2 ≤ (d : Int) := by
  induction h with
  | @num d u n hu hn =>
    intro h1 h2
    obtain ⟨g1, g2⟩ := lit_len hu hn
    rw [allFit, pcT]
    refine ⟨g1, ?_⟩
    generalize textL (n : Int) = X at g2 ⊢
    refine ⟨fits_of (by show X.length ≤ 300; omega) (by show (0 : Int) ≤ 30; decide), fun least _ h4 => ?_⟩
    rw [inside_self (by show least ≤ 3; omega)]
    exact ⟨g2, by show (0 : Int) ≤ d; omega⟩
  | @var d u n hu hn h1 h2 h3 =>
    intro h4 h5
    obtain ⟨f1, f2, f3, f4, f5⟩ := two_facts ⟨n, by omega⟩ h1
    have hl : (36 :: decDigits n).length ≤ (36 :: u).length := by
      rw [dec_two h2]
      simp only [List.length_cons]
      by_cases h10 : n < 10
      · have := f5 h10
        have : u.length ≠ 0 := by
          intro h0
          have := List.eq_nil_of_length_eq_zero h0
          subst this
          have : n = 0 := hn.symm
          omega
        simp only at *
        omega
      · have : ¬ u.length ≤ 1 := fun h => by have := varN_one h hu; omega
        simp only at *
        omega
    refine ⟨⟨h1, h2⟩, fits_of (by show (36 :: decDigits n).length ≤ 300; omega) (by show (0 : Int) ≤ 30; decide), fun least _ h4 => ?_⟩
    rw [inside_self (by show least ≤ 3; omega)]
    exact ⟨by show (36 :: decDigits n).length ≤ _; omega, by show (0 : Int) ≤ d; omega⟩
  | @plus d u t _ ih =>
    intro h1 h2
    simp only [List.length_cons] at h1
    obtain ⟨g1, g2, g3⟩ := ih (by omega) (by omega)
    refine ⟨g1, g2, fun least h3 h4 => ?_⟩
    obtain ⟨a1, a2⟩ := g3 least h3 h4
    simp only [List.length_cons]
    exact ⟨by omega, by omega⟩
  | @neg d u t _ ih =>
    intro h1 h2
    simp only [List.length_cons] at h1
    obtain ⟨g1, g2, g3⟩ := ih (by omega) (by omega)
    obtain ⟨a1, a2⟩ := g3 3 (by decide) (by decide)
    have hl : (45 :: (insideV (pcT t) 3).1).length ≤ 2 * u.length + 1 := by simp only [List.length_cons]; omega
    refine ⟨g1, ?_, fun least h3 h4 => ?_⟩
    · simp only [allFit, Bool.and_eq_true]
      exact ⟨g2, fits_of (by show (45 :: (insideV (pcT t) 3).1).length ≤ 300; omega) (by show (insideV (pcT t) 3).2.2 + 1 ≤ 30; omega)⟩
    · rw [inside_self (by show least ≤ 3; omega)]
      simp only [List.length_cons]
      exact ⟨by show (45 :: (insideV (pcT t) 3).1).length ≤ _; omega, by show (insideV (pcT t) 3).2.2 + 1 ≤ _; omega⟩
  | @par d u t _ ih =>
    intro h1 h2
    simp only [List.length_cons, List.length_append, List.length_nil] at h1
    obtain ⟨g1, g2, g3⟩ := ih (by omega) (by omega)
    obtain ⟨a1, a2⟩ := g3 1 (by decide) (by decide)
    have hs : insideV (pcT t) 1 = pcT t := inside_self (print_G t g1).1.1
    rw [hs] at a1 a2
    refine ⟨g1, g2, fun least h3 h4 => ?_⟩
    obtain ⟨b1, b2⟩ := inside_len (pcT t) least
    simp only [List.length_cons, List.length_append, List.length_nil]
    exact ⟨by omega, by omega⟩
  | @pone d u t _ ih =>
    intro h1 h2
    obtain ⟨g1, g2, g3⟩ := ih h1 h2
    exact ⟨g1, g2, fun least h3 h4 => g3 least h3 (by omega)⟩
  | @pop d u v c k a b _ _ hc iha ihb =>
    intro h1 h2
    simp only [List.length_cons, List.length_append] at h1
    obtain ⟨g1, g2, g3⟩ := iha (by omega) h2
    obtain ⟨e1, e2, e3⟩ := ihb (by omega) h2
    obtain ⟨a1, a2⟩ := g3 2 (by decide) (by decide)
    obtain ⟨b1, b2⟩ := e3 3 (by decide) (by decide)
    have hk := opP_kind hc
    have hkk : rk (k : Int) = 2 := by rcases hk with rfl | rfl <;> rfl
    have hpl : (pairV k (pcT a) (pcT b)).1.length ≤ 2 * u.length + 2 * v.length + 1 ∧ (pairV k (pcT a) (pcT b)).2.2 ≤ d := by
      unfold pairV
      rw [hkk, show (2 : Int) + 1 = 3 from rfl]
      simp only [List.length_append, List.length_cons]
      exact ⟨by omega, Int.max_le.2 ⟨a2, b2⟩⟩
    refine ⟨⟨by omega, g1, e1⟩, ?_, fun least h3 h4 => ?_⟩
    · simp only [allFit, Bool.and_eq_true]
      exact ⟨g2, e2, fits_of (by show (pairV k (pcT a) (pcT b)).1.length ≤ 300; omega) (by show (pairV k (pcT a) (pcT b)).2.2 ≤ 30; omega)⟩
    · rw [inside_self (by show least ≤ rk k; omega)]
      simp only [List.length_append, List.length_cons]
      exact ⟨by show (pairV k (pcT a) (pcT b)).1.length ≤ _; omega, hpl.2⟩
  | @sone d u t _ ih =>
    intro h1 h2
    obtain ⟨g1, g2, g3⟩ := ih h1 h2
    exact ⟨g1, g2, fun least h3 h4 => g3 least h3 (by omega)⟩
  | @sop d u v c k a b _ _ hc iha ihb =>
    intro h1 h2
    simp only [List.length_cons, List.length_append] at h1
    obtain ⟨g1, g2, g3⟩ := iha (by omega) h2
    obtain ⟨e1, e2, e3⟩ := ihb (by omega) h2
    obtain ⟨a1, a2⟩ := g3 1 (by decide) (by decide)
    obtain ⟨b1, b2⟩ := e3 2 (by decide) (by decide)
    have hk := opS_kind hc
    have hkk : rk (k : Int) = 1 := by rcases hk with rfl | rfl <;> rfl
    have hpl : (pairV k (pcT a) (pcT b)).1.length ≤ 2 * u.length + 2 * v.length + 1 ∧ (pairV k (pcT a) (pcT b)).2.2 ≤ d := by
      unfold pairV
      rw [hkk, show (1 : Int) + 1 = 2 from rfl]
      simp only [List.length_append, List.length_cons]
      exact ⟨by omega, Int.max_le.2 ⟨a2, b2⟩⟩
    refine ⟨⟨by omega, g1, e1⟩, ?_, fun least h3 h4 => ?_⟩
    · simp only [allFit, Bool.and_eq_true]
      exact ⟨g2, e2, fits_of (by show (pairV k (pcT a) (pcT b)).1.length ≤ 300; omega) (by show (pairV k (pcT a) (pcT b)).2.2 ≤ 30; omega)⟩
    · rw [inside_self (by show least ≤ rk k; omega)]
      simp only [List.length_append, List.length_cons]
      exact ⟨by show (pairV k (pcT a) (pcT b)).1.length ≤ _; omega, hpl.2⟩
theorem G_wf {l d : Nat} {u : List UInt8} {t : T} (h : G l d u t) : WF t := by
  induction h with
  | num hu hn => exact (lit_len hu hn).1
  | var _ _ h1 h2 _ => exact ⟨h1, h2⟩
  | plus _ ih => exact ih
  | neg _ ih => exact ih
  | par _ ih => exact ih
  | pone _ ih => exact ih
  | pop _ _ hc iha ihb => exact ⟨by have := opP_kind hc; omega, iha, ihb⟩
  | sone _ ih => exact ih
  | sop _ _ hc iha ihb => exact ⟨by have := opS_kind hc; omega, iha, ihb⟩
theorem G_same {u : List UInt8} {t t' : T} {d d' : Nat} (h : G 2 d u t) (h' : G 2 d' u t') : opsT t = opsT t' := by
  have key : ∀ {t : T}, G 2 (max d d') u t → sumV (factorV (max d d')) ⟨u, [], 0⟩ = ⟨[], opsT t, 0⟩ := by
    intro t h
    have h1 := (run_G h [] [] stop_nil).2.2 rfl rfl
    rw [List.append_nil, loop_stop _ (fun _ => rfl)] at h1
    exact h1
  have a := key (G_mono h (Nat.le_max_left _ _))
  rw [key (G_mono h' (Nat.le_max_right _ _))] at a
  injection a with _ a _
  exact a.symm

/-! ### The law: 12.2, 12.4 -/
/-- What is printed of what was read is read as the same; a short text is printed. -/
theorem back_text {s : List UInt8} {l : List (Int × Int)} {a : Nat} (h : parseV s = (l, a, 0)) : Fit l 0 ∧ l.length ≤ 300 ∧
    (∀ x, textV l = some x → parseV x = (l, 0, 0) ∧ x.length ≤ 300) ∧ (textV l = none → 100 < s.length) := by
  obtain ⟨t, rfl, hG, hs⟩ := parse_sound h
  have hw := G_wf hG
  refine ⟨fit_all t hw, ?_, fun x hx => ?_, fun hx => ?_⟩
  · have hp := parse_G hG hs
    have hc := sum_cnt (factor_cnt 30) ⟨s, [], 0⟩
    have h1 := (run_G hG [] [] stop_nil).2.2 rfl rfl
    rw [List.append_nil, loop_stop _ (fun _ => rfl)] at h1
    rw [h1] at hc
    simp at hc
    omega
  · rw [text_T t hw] at hx
    split at hx
    · rename_i hf
      injection hx with hx
      obtain ⟨b1, b2⟩ := allFit_top t hf
      obtain ⟨hr, D, hD, hG2⟩ := print_G t hw
      have hg : G 2 30 (pcT t).1 t := G_mono (G_up hG2 (by omega) (Nat.le_refl _)) (by omega)
      rw [← hx]
      exact ⟨parse_G hg b1, b1⟩
    · cases hx
  · apply Classical.byContradiction
    intro hn
    rw [text_T t hw, if_pos (bound_G hG (by omega) (Nat.le_refl _)).2.1] at hx
    cases hx
/-- With more parentheses it is the same. -/
theorem back_par {x : List UInt8} {l m : List (Int × Int)} {a b : Nat} (h : parseV x = (l, a, 0)) (h2 : parseV (40 :: 40 :: (x ++ [41, 41])) = (m, b, 0)) : l = m := by
  obtain ⟨t, rfl, hG, _⟩ := parse_sound h
  obtain ⟨t', rfl, hG', _⟩ := parse_sound h2
  have g1 : G 0 31 (40 :: (x ++ [41])) t := .par hG
  have g2 : G 0 32 (40 :: ((40 :: (x ++ [41])) ++ [41])) t := .par (.sone (.pone g1))
  have e : 40 :: ((40 :: (x ++ [41])) ++ [41]) = 40 :: 40 :: (x ++ [41, 41]) := by simp
  rw [e] at g2
  exact G_same (.sone (.pone g2)) hG'
end Go.Proofs.YtkfjmcdfamhiaaaDoor.Tx
