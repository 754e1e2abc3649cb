/-
  Plain: every command that a line of a drill file gives can be written, and its line gives it again. No program in sight.
-/
import Derived.Test.YtecpmnkgikcpnaaDoorXa
import Derived.Lib.ItoaMem
namespace Go.Proofs.YtecpmnkgikcpnaaDoor.Xp
open Go.Proofs.YtecpmnkgikcpnaaDoor.Dp
open Go.Lib (decDigits nDigits dg)

/-! ### Digits and their number -/
theorem dg_shift (a x k j : Nat) (h : j < k) : dg (a * 10 ^ k + x) j = dg x j := by
  rw [dg_mod, dg_mod]
  congr 2
  have : a * 10 ^ k = (a * 10 ^ (k - j - 1) * 10) * 10 ^ j := by
    rw [Nat.mul_assoc, Nat.mul_assoc]
    congr 1
    rw [← Nat.mul_assoc, ← Nat.pow_succ, ← Nat.pow_add]; congr 1; omega
  rw [this, Nat.add_comm, Nat.add_mul_div_right _ _ (Nat.pow_pos (by decide))]
  omega
theorem pad_shift (a x k : Nat) : ∀ j, j ≤ k → pad (a * 10 ^ k + x) j = pad x j
  | 0, _ => rfl
  | j + 1, h => by rw [pad_succ, pad_succ, pad_shift a x k j (by omega), dg_shift a x k j (by omega)]
theorem pad_val : ∀ l : List UInt8, (∀ c ∈ l, isD c = true) → pad (val l) l.length = l
  | [], _ => rfl
  | c :: l, h => by
    have hl : ∀ x ∈ l, isD x = true := fun x hx => h x (by simp [hx])
    have hc := (isD_iff c).1 (h c (by simp))
    have hv := val_lt l hl
    have ih := pad_val l hl
    rw [List.length_cons, pad_succ, val_cons, pad_shift _ _ _ _ (Nat.le_refl _), ih]
    congr 1
    rw [dg_mod, Nat.add_comm ((c.toNat - 48) * 10 ^ l.length), Nat.add_mul_div_right _ _ (Nat.pow_pos (by decide)), Nat.div_eq_of_lt hv]
    apply UInt8.toNat_inj.1
    simp; omega
theorem nDigits_val {c : UInt8} {l : List UInt8} (h : ∀ x ∈ c :: l, isD x = true) (h0 : c ≠ 48) : nDigits (val (c :: l)) = l.length + 1 := by
  have hc := (isD_iff c).1 (h c (by simp))
  have hc2 : c.toNat ≠ 48 := fun e => h0 (UInt8.toNat_inj.1 e)
  have hv := val_lt (c :: l) h
  refine Lib.nDigits_unique l.length _ ?_ (by simpa using hv)
  rw [val_cons]
  have : 1 * 10 ^ l.length ≤ (c.toNat - 48) * 10 ^ l.length := Nat.mul_le_mul_right _ (by omega)
  omega
theorem itoa_val {l : List UInt8} (h : ∀ x ∈ l, isD x = true) (h1 : l ≠ []) (h0 : l.headD 0 ≠ 48) : intL (val l : Int) = l := by
  cases l with
  | nil => exact absurd rfl h1
  | cons c l =>
    unfold intL
    rw [Lib.itoa_nonneg, dec_pad, nDigits_val h (by simpa using h0)]
    exact pad_val (c :: l) h
theorem count_itoa {s r : List UInt8} {m n : Nat} (h : countV s m = some (n, r)) : s = intL (n : Int) ++ r ∧ (∀ c ∈ intL (n : Int), isD c = true) ∧ intL (n : Int) ≠ [] ∧ (intL (n : Int)).headD 0 ≠ 48 ∧ n ≤ m ∧ nd r = 0 := by
  unfold countV at h
  split at h
  · cases h
  · rename_i hc
    simp only [Option.some.injEq, Prod.mk.injEq] at h
    obtain ⟨rfl, rfl⟩ := h
    have hd := take_nd s (nd s) (Nat.le_refl _)
    have hle := nd_le s
    have hne : s.take (nd s) ≠ [] := by
      intro e
      have := congrArg List.length e
      rw [List.length_take] at this
      simp at this
      have h2 : nd s ≠ 0 := fun e => hc (.inl e)
      rcases this with h3 | h3
      · exact h2 h3
      · subst h3; exact h2 rfl
    have hh : (s.take (nd s)).headD 0 ≠ 48 := by
      intro e
      refine hc (.inr (.inl ?_))
      cases s with
      | nil => exact absurd rfl (fun h : nd [] = 0 => hc (.inl h))
      | cons c s =>
        cases hn : nd (c :: s) with
        | zero => exact absurd hn fun h => hc (.inl h)
        | succ k => rw [hn] at e; simpa using e
    rw [itoa_val hd hne hh]
    refine ⟨(List.take_append_drop _ _).symm, hd, hne, hh, by omega, ?_⟩
    by_cases hl : nd s < s.length
    · have := (nd_spec s).2 hl
      rw [List.drop_eq_getElem_cons hl, nd_cons, this]; rfl
    · rw [List.drop_eq_nil_of_le (by omega)]; rfl
theorem count_back {D r : List UInt8} (hD : ∀ c ∈ D, isD c = true) (h1 : D ≠ []) (h0 : D.headD 0 ≠ 48) (hr : nd r = 0) {m : Nat} (hm : val D ≤ m) : countV (D ++ r) m = some (val D, r) := by
  have hn : nd (D ++ r) = D.length := by rw [nd_digits D hD r, hr]; rfl
  unfold countV
  rw [hn, List.take_left, List.drop_left, if_neg]
  rintro (h | h | h)
  · exact h1 (List.eq_nil_of_length_eq_zero h)
  · cases D with
    | nil => exact h1 rfl
    | cons c D => exact h0 (by simpa using h)
  · omega
theorem val_intL {s r : List UInt8} {m n : Nat} (h : countV s m = some (n, r)) : val (intL (n : Int)) = n := by
  unfold countV at h
  split at h
  · cases h
  · rename_i hc
    have k := h
    simp only [Option.some.injEq, Prod.mk.injEq] at h
    obtain ⟨rfl, rfl⟩ := h
    have e : s.take (nd s) = intL (val (s.take (nd s)) : Int) := by
      have h2 := (count_itoa (m := m) (s := s) (n := val (s.take (nd s))) (r := s.drop (nd s)) (by unfold countV; rw [if_neg hc])).1
      have h3 : s.take (nd s) ++ s.drop (nd s) = intL (val (s.take (nd s)) : Int) ++ s.drop (nd s) := (List.take_append_drop _ _).trans h2
      exact List.append_cancel_right h3
    rw [← e]

/-! ### A position is what was read -/
theorem coordV_at (c : UInt8) (r : List UInt8) (l : UInt8) : coordV (c :: r) l = if c = l then (r.take (wspan r), r.drop (wspan r), isWay (r.take (wspan r))) else ([], c :: r, true) := rfl
theorem coord_join {s x r : List UInt8} {l : UInt8} (h : coordV s l = (x, r, true)) : s = plc l x ++ r := by
  cases s with
  | nil => simp only [coordV, Prod.mk.injEq] at h; obtain ⟨rfl, rfl, _⟩ := h; rfl
  | cons c s =>
    rw [coordV_at] at h
    by_cases hc : c = l
    · subst hc
      rw [if_pos rfl] at h
      simp only [Prod.mk.injEq] at h
      obtain ⟨rfl, rfl, hw⟩ := h
      have hne : s.take (wspan s) ≠ [] := by intro e; rw [e] at hw; exact absurd hw (by decide)
      unfold plc
      rw [if_neg hne, List.cons_append, List.take_append_drop]
    · rw [if_neg hc] at h
      simp only [Prod.mk.injEq] at h
      obtain ⟨rfl, rfl, _⟩ := h
      rfl
theorem pos_join {s x y r : List UInt8} (h : posV s = some (x, y, r)) : s = plc 88 x ++ plc 89 y ++ r := by
  unfold posV at h
  split at h
  · rename_i hc
    simp only [Option.some.injEq, Prod.mk.injEq] at h
    obtain ⟨rfl, rfl, rfl⟩ := h
    have h1 := coord_join (s := s) (l := 88) (x := (coordV s 88).1) (r := (coordV s 88).2.1) (by rw [← hc.1])
    have h2 := coord_join (s := (coordV s 88).2.1) (l := 89) (x := (coordV (coordV s 88).2.1 89).1) (r := (coordV (coordV s 88).2.1 89).2.1) (by rw [← hc.2.1])
    rw [List.append_assoc, ← h2]
    exact h1
  · cases h

/-! ### A line is its command's line -/
theorem placed_line {s : List UInt8} {k : Int} {d : D} (h : placedV k s = some d) : ∃ x y, d = { kd k with x := x, y := y } ∧ s = plc 88 x ++ plc 89 y := by
  unfold placedV at h
  split at h
  · rename_i x y hp
    simp only [Option.some.injEq] at h
    exact ⟨x, y, h.symm, by have := pos_join hp; simpa using this⟩
  · cases h
theorem again_line {s : List UInt8} {d : D} (h : againV s = some d) : lineV d = 82 :: s ∧ d.nums = [] ∧ d.k = 12 ∧ 0 ≤ d.n ∧ d.n ≤ 9999 := by
  unfold againV at h
  split at h
  · cases h
  · rename_i n r hc
    split at h
    · rename_i x y hp
      simp only [Option.some.injEq] at h
      subst h
      have h1 := count_itoa hc
      have h2 := pos_join hp
      refine ⟨?_, rfl, rfl, by show (0:Int) ≤ (n:Int); omega, by show (n : Int) ≤ 9999; have := h1.2.2.2.2.1; omega⟩
      have e : s = intL (n : Int) ++ plc 88 x ++ plc 89 y := by
        conv => lhs; rw [h1.1, h2]
        simp
      rw [e]
      simp [lineV, kd, D0]
    · cases h
theorem move_line {s : List UInt8} {d : D} (h : moveV s = some d) : lineV d = s ∧ d.nums = [] ∧ d.n = 0 ∧ d.k ≠ 4 := by
  unfold moveV at h
  split at h
  · obtain ⟨x, y, rfl, rfl⟩ := placed_line h
    exact ⟨by simp [lineV, kd, D0], rfl, rfl, by simp [kd]⟩
  · obtain ⟨x, y, rfl, rfl⟩ := placed_line h
    exact ⟨by simp [lineV, kd, D0], rfl, rfl, by simp [kd]⟩
  · cases h
theorem hit_line {s : List UInt8} {d : D} (h : hitV s = some d) : lineV d = s ∧ d.nums = [] ∧ d.n = 0 ∧ d.k ≠ 4 := by
  unfold hitV at h
  split at h
  · cases h
  · rename_i x y hp
    simp only [Option.some.injEq] at h
    subst h
    have := pos_join hp
    exact ⟨by simp [lineV, kd, D0, this], rfl, rfl, by simp [kd]⟩
  · rename_i x y r hp
    split at h
    · rename_i u v hq
      simp only [Option.some.injEq] at h
      subst h
      have h1 := pos_join hp
      have h2 := pos_join hq
      exact ⟨by simp [lineV, kd, D0, h1, h2], rfl, rfl, by simp [kd]⟩
    · cases h
  · cases h
theorem tool_line {s : List UInt8} {d : D} (h : toolV s = some d) : (lineV d = 84 :: s ∧ d.nums = [] ∧ 0 ≤ d.n ∧ d.n ≤ 99) ∨ ∃ (n : Nat) (v : Int) (r : List UInt8), countV s 99 = some (n, 67 :: r) ∧ dec r = some v ∧ d = { kd 4 with n := n, nums := [v] } := by
  unfold toolV at h
  split at h
  · rename_i h0
    subst h0
    simp only [Option.some.injEq] at h
    subst h
    exact .inl (by decide +kernel)
  · split at h
    · cases h
    · rename_i n hc
      simp only [Option.some.injEq] at h
      subst h
      have h1 := count_itoa hc
      refine .inl ⟨?_, rfl, by show (0:Int) ≤ (n:Int); omega, by show (n : Int) ≤ 99; have := h1.2.2.2.2.1; omega⟩
      have e := h1.1
      rw [List.append_nil] at e
      simp [lineV, kd, D0, ← e]
    · rename_i n c r hc
      split at h
      · rename_i h67
        subst h67
        split at h
        · cases h
        · rename_i v hv
          simp only [Option.some.injEq] at h
          exact .inr ⟨n, v, r, hc, hv, h.symm⟩
      · cases h
theorem lookup_mem {α β : Type} [BEq α] [LawfulBEq α] : ∀ {l : List (α × β)} {a : α} {b : β}, l.lookup a = some b → (a, b) ∈ l
  | [], _, _, h => by simp at h
  | (x, y) :: l, a, b, h => by
    rw [List.lookup_cons] at h
    by_cases hx : a == x
    · rw [hx] at h
      simp only [Option.some.injEq] at h
      rw [eq_of_beq hx, h]; simp
    · simp only [hx] at h
      exact List.mem_cons_of_mem _ (lookup_mem h)
theorem fixed_good : ∀ x ∈ fixed, goodV x.2 = true ∧ x.2.nums = [] ∧ 0 ≤ x.2.n ∧ x.2.n ≤ 2 ∧ (lineV x.2).length ≤ x.1.length := by decide +kernel
theorem fixed_T (r : List UInt8) : fixed.lookup (84 :: r) = none := by simp [fixed, List.lookup_cons]
theorem okC_digit {c : UInt8} (h : isD c = true) : okC c = true := by
  have := (isD_iff c).1 h
  simp [okC]; omega
theorem text_okC {v : Int} (h : okN v = true) : (textL v).all okC = true := by
  rw [List.all_eq_true]
  intro c hc
  unfold textL at hc
  rw [if_pos h] at hc
  simp only [List.mem_append] at hc
  rcases hc with (hc | hc) | hc
  · split at hc
    · simp at hc; subst hc; decide
    · simp at hc
  · rw [dec_pad] at hc
    exact okC_digit (digits_pad _ _ c hc)
  · split at hc
    · simp at hc
    · simp only [List.mem_cons] at hc
      rcases hc with rfl | hc
      · decide
      · exact okC_digit (digits_trim (digits_pad _ _) c hc)
theorem cmd_nil : cmdV [] = none := by decide
theorem other_cases {s : List UInt8} {d : D} (h : otherV s = some d) : (lineV d = s ∧ d.nums = [] ∧ 0 ≤ d.n ∧ d.n ≤ 9999) ∨ ∃ (n : Nat) (v : Int) (q r : List UInt8), s = 84 :: q ∧ countV q 99 = some (n, 67 :: r) ∧ dec r = some v ∧ d = { kd 4 with n := n, nums := [v] } := by
  unfold otherV at h
  split at h
  · simp only [Option.some.injEq] at h
    subst h
    exact .inl ⟨by simp [lineV, kd, D0], rfl, by simp [kd, D0], by simp [kd, D0]⟩
  · rcases tool_line h with ⟨h1, h2, h3, h4⟩ | ⟨n, v, r, h1, h2, h3⟩
    · exact .inl ⟨h1, h2, h3, by omega⟩
    · exact .inr ⟨n, v, _, r, rfl, h1, h2, h3⟩
  · have := again_line h
    exact .inl ⟨this.1, this.2.1, this.2.2.2⟩
  · have := move_line h
    exact .inl ⟨this.1, this.2.1, by rw [this.2.2.1]; omega, by rw [this.2.2.1]; omega⟩
  · have := hit_line h
    exact .inl ⟨this.1, this.2.1, by rw [this.2.2.1]; omega, by rw [this.2.2.1]; omega⟩
/-- What a line gives can be written. -/
theorem good_of_cmd {s : List UInt8} {d : D} (h : cmdV s = some d) (hs : ∀ c ∈ s, okC c = true) : goodV d = true ∧ (lineV d).length ≤ s.length + 40 := by
  have h' := h
  unfold cmdV at h
  split at h
  · rename_i e hl
    simp only [Option.some.injEq] at h
    subst h
    have := fixed_good _ (lookup_mem hl)
    exact ⟨this.1, by have := this.2.2.2.2; dsimp only at this; omega⟩
  · rename_i hl
    rcases other_cases h with ⟨h1, _⟩ | ⟨n, v, q, r, rfl, h1, h2, rfl⟩
    · rw [h1]
      refine ⟨?_, by omega⟩
      unfold goodV
      rw [h1]
      have hne : s ≠ [] := by rintro rfl; rw [cmd_nil] at h'; cases h'
      have ha : s.all okC = true := List.all_eq_true.2 hs
      simp [hne, ha, h', -List.all_eq_true]
    · have ci := count_itoa h1
      have vi := val_intL h1
      have hv := dec_ok h2
      have hline : lineV { kd 4 with n := (n : Int), nums := [v] } = 84 :: (intL (n : Int) ++ 67 :: textL v) := by simp [lineV, kd, D0]
      have hlen := text_length hv
      have hcnt := count_back (D := intL (n : Int)) (r := 67 :: textL v) ci.2.1 ci.2.2.1 ci.2.2.2.1 (by rw [nd_cons]; rfl) (m := 99) (by rw [vi]; exact ci.2.2.2.2.1)
      rw [vi] at hcnt
      refine ⟨?_, ?_⟩
      · unfold goodV
        rw [hline]
        have hc : cmdV (84 :: (intL (n : Int) ++ 67 :: textL v)) = some { kd 4 with n := (n : Int), nums := [v] } := by
          unfold cmdV
          rw [fixed_T]
          simp only [otherV, toolV]
          rw [if_neg (by
            intro e
            have := congrArg (fun l => (l : List UInt8).length) e
            have h3 : (intL (n : Int)).length ≠ 0 := fun e => ci.2.2.1 (List.eq_nil_of_length_eq_zero e)
            simp at this; omega), hcnt]
          simp only [dec_text hv, if_true]
        have ha : (84 :: (intL (n : Int) ++ 67 :: textL v)).all okC = true := by
          have : (intL (n : Int)).all okC = true := List.all_eq_true.2 fun c hc => okC_digit (ci.2.1 c hc)
          rw [List.all_cons, List.all_append, List.all_cons, text_okC hv, this]; decide
        rw [hc, ha]; simp
      · rw [hline]
        have := congrArg List.length ci.1
        simp at this ⊢
        omega
/-- The numbers of a command that was read. -/
theorem nums_of_cmd {s : List UInt8} {d : D} (h : cmdV s = some d) : d.nums.length ≤ 1 ∧ 0 ≤ d.n ∧ d.n ≤ 9999 ∧ ∀ z ∈ d.nums, -1000000000000 < z ∧ z < 1000000000000 := by
  unfold cmdV at h
  split at h
  · rename_i e hl
    simp only [Option.some.injEq] at h
    subst h
    have := fixed_good _ (lookup_mem hl)
    have h1 := this.2.1
    have h2 := this.2.2.1
    have h3 := this.2.2.2.1
    dsimp only at h1 h2 h3
    rw [h1]
    exact ⟨by simp, h2, by omega, by simp⟩
  · rcases other_cases h with ⟨_, h1, h2, h3⟩ | ⟨n, v, q, r, rfl, h1, h2, rfl⟩
    · rw [h1]; exact ⟨by simp, h2, h3, by simp⟩
    · have ci := count_itoa h1
      have hv := (okN_iff v).1 (dec_ok h2)
      refine ⟨by simp, by show (0 : Int) ≤ (n : Int); omega, by show (n : Int) ≤ 9999; have := ci.2.2.2.2.1; omega, ?_⟩
      intro z hz
      simp at hz
      subst hz
      exact hv

/-! ### Texts of commands -/
theorem lines_join : ∀ (ds : List D) (b : List UInt8), linesOf ds b = none ∨ linesOf ds b = some (b ++ (ds.map fun d => lineV d ++ [10]).flatten)
  | [], b => .inr (by simp [linesOf])
  | d :: ds, b => by
    unfold linesOf
    split
    · split
      · exact .inl rfl
      · rcases lines_join ds (b ++ lineV d ++ [10]) with h | h
        · exact .inl h
        · exact .inr (by rw [h]; simp)
    · exact .inl rfl
theorem lines_some : ∀ (ds : List D) (b : List UInt8), (∀ d ∈ ds, goodV d = true) → (b ++ (ds.map fun d => lineV d ++ [10]).flatten).length ≤ 1000000 → linesOf ds b = some (b ++ (ds.map fun d => lineV d ++ [10]).flatten)
  | [], b, _, _ => by simp [linesOf]
  | d :: ds, b, h, hl => by
    unfold linesOf
    rw [if_pos (h d (by simp)), if_neg (by simp at hl ⊢; omega), lines_some ds _ (fun x hx => h x (by simp [hx])) (by simp at hl ⊢; omega)]
    simp
theorem cmds_line : ∀ (u r buf : List UInt8) (acc : List D), (∀ c ∈ u, okC c = true) → cmdsC (u ++ r) buf acc = cmdsC r (buf ++ u) acc
  | [], r, buf, acc, _ => by simp
  | c :: u, r, buf, acc, h => by
    have hc := h c (by simp)
    have h13 : c ≠ 13 := by rintro rfl; exact absurd hc (by decide)
    have h10 : c ≠ 10 := by rintro rfl; exact absurd hc (by decide)
    have e : cmdsC (c :: u ++ r) buf acc = cmdsC (u ++ r) (buf ++ [c]) acc := by simp [cmdsC, h13, h10]
    rw [e, cmds_line u r _ acc (fun x hx => h x (by simp [hx]))]
    simp
theorem good_parts {d : D} (h : goodV d = true) : lineV d ≠ [] ∧ (∀ c ∈ lineV d, okC c = true) ∧ cmdV (lineV d) = some d := by
  unfold goodV at h
  simp only [Bool.and_eq_true, decide_eq_true_eq] at h
  exact ⟨h.1.1, List.all_eq_true.1 h.1.2, h.2⟩
theorem cmds_text : ∀ (ds acc : List D), (∀ d ∈ ds, goodV d = true) → cmdsC (ds.map fun d => lineV d ++ [10]).flatten [] acc = some (acc ++ ds)
  | [], acc, _ => by simp [cmdsC]
  | d :: ds, acc, h => by
    obtain ⟨h1, h2, h3⟩ := good_parts (h d (by simp))
    have e : ((d :: ds).map fun d => lineV d ++ [10]).flatten = lineV d ++ (10 :: (ds.map fun d => lineV d ++ [10]).flatten) := by simp
    rw [e, cmds_line _ _ _ _ h2, List.nil_append, cmdsC, if_neg (by decide), if_pos rfl, if_neg h1, h3]
    simp only []
    rw [cmds_text ds _ (fun x hx => h x (by simp [hx]))]
    simp
theorem text_count : ∀ (ds : List D), (∀ d ∈ ds, goodV d = true) → ((ds.map fun d => lineV d ++ [10]).flatten).count 10 = ds.length ∧ (∀ c ∈ (ds.map fun d => lineV d ++ [10]).flatten, lineC c = true) ∧ ((ds.map fun d => lineV d ++ [10]).flatten = [] ∨ ((ds.map fun d => lineV d ++ [10]).flatten).getLast? = some 10)
  | [], _ => by simp
  | d :: ds, h => by
    obtain ⟨i1, i2, i3⟩ := text_count ds (fun x hx => h x (by simp [hx]))
    obtain ⟨h1, h2, h3⟩ := good_parts (h d (by simp))
    have e : ((d :: ds).map fun d => lineV d ++ [10]).flatten = lineV d ++ (10 :: (ds.map fun d => lineV d ++ [10]).flatten) := by simp
    rw [e]
    refine ⟨?_, ?_, .inr ?_⟩
    · rw [List.count_append, List.count_cons_self, i1, List.count_eq_zero.2 (fun hc => absurd (h2 10 hc) (by decide))]
      simp
    · intro c hc
      simp only [List.mem_append, List.mem_cons] at hc
      rcases hc with hc | rfl | hc
      · simp [lineC, h2 c hc]
      · decide
      · exact i2 c hc
    · rw [List.getLast?_append, List.getLast?_cons]
      rcases i3 with i3 | i3
      · rw [i3]; simp
      · rw [i3]; simp
/-- A text that was written is read as what was written. -/
theorem text_parse {ds : List D} {t : List UInt8} (h : textX ds = some t) (hg : ∀ d ∈ ds, goodV d = true) (ht : t.length ≤ 1000000) : ∃ l, parseX t = (l, 0, 0) ∧ l.map Prod.snd = ds := by
  unfold textX at h
  split at h
  · cases h
  · rename_i hn
    rcases lines_join ds [] with e | e
    · rw [e] at h; cases h
    · rw [e] at h
      simp only [Option.some.injEq, List.nil_append] at h
      subst h
      obtain ⟨c1, c2, c3⟩ := text_count ds hg
      refine ok_parse ⟨ht, ?_, c2⟩ (by simpa using cmds_text ds [] hg)
      unfold linesV
      rw [c1]
      rcases c3 with c3 | c3
      · rw [c3]; simp; omega
      · rw [c3]; simp; omega
end Go.Proofs.YtecpmnkgikcpnaaDoor.Xp
