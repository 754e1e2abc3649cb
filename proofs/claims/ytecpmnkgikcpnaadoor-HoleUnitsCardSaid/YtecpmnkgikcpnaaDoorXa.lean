/-
  Plain: the reader of a drill file byte by byte, and that it is parseX. No program in sight.
-/
import Derived.Test.YtecpmnkgikcpnaaDoorXt
namespace Go.Proofs.YtecpmnkgikcpnaaDoor.Xp
open Go.Proofs.YtecpmnkgikcpnaaDoor.Dp

/-- Byte by byte: where, the line so far, where it began, the commands so far. -/
def autV : List UInt8 → Nat → List UInt8 → Nat → List (Nat × D) → List (Nat × D) × Nat × Nat
  | [], _, buf, at0, acc => if buf = [] then (acc, 0, 0) else match cmdV buf with
    | none => ([], at0, 3)
    | some d => (acc ++ [(at0, d)], 0, 0)
  | c :: r, i, buf, at0, acc =>
    if c = 13 then autV r (i + 1) buf at0 acc
    else if c = 10 then (if buf = [] then autV r (i + 1) [] at0 acc else match cmdV buf with
      | none => ([], at0, 3)
      | some d => autV r (i + 1) [] at0 (acc ++ [(at0, d)]))
    else autV r (i + 1) (buf ++ [c]) (if buf = [] then i else at0) acc
/-- A line's beginning is not looked at where the line is empty. -/
theorem aut_at : ∀ (r : List UInt8) (i a b : Nat) (acc : List (Nat × D)), autV r i [] a acc = autV r i [] b acc
  | [], _, _, _, _ => rfl
  | c :: r, i, a, b, acc => by
    by_cases h13 : c = 13
    · simp only [autV, if_pos h13]; exact aut_at r (i + 1) a b acc
    · by_cases h10 : c = 10
      · simp only [autV, if_neg h13, if_pos h10, if_true]; exact aut_at r (i + 1) a b acc
      · simp only [autV, if_neg h13, if_neg h10, if_true]
theorem aut_line : ∀ (u r : List UInt8) (i : Nat) (buf : List UInt8) (at0 : Nat) (acc : List (Nat × D)), (∀ c ∈ u, c ≠ 10) → buf ≠ [] →
    autV (u ++ r) i buf at0 acc = autV r (i + u.length) (buf ++ u.filter (· != 13)) at0 acc
  | [], r, i, buf, at0, acc, _, _ => by simp
  | c :: u, r, i, buf, at0, acc, hu, hb => by
    have h10 := hu c (by simp)
    have hu2 : ∀ x ∈ u, x ≠ 10 := fun x hx => hu x (by simp [hx])
    by_cases h13 : c = 13
    · subst h13
      have e : autV ((13 : UInt8) :: u ++ r) i buf at0 acc = autV (u ++ r) (i + 1) buf at0 acc := by simp [autV]
      rw [e, aut_line u r (i + 1) buf at0 acc hu2 hb]
      simp [Nat.add_comm, Nat.add_left_comm]
    · have e : autV (c :: u ++ r) i buf at0 acc = autV (u ++ r) (i + 1) (buf ++ [c]) at0 acc := by simp [autV, h13, h10, hb]
      rw [e, aut_line u r (i + 1) _ at0 acc hu2 (by simp)]
      simp [h13, Nat.add_comm, Nat.add_left_comm]
theorem crs_cons (c : UInt8) (u : List UInt8) : crs (c :: u) = if c = 13 then crs u + 1 else 0 := by
  unfold crs
  by_cases h : c = 13
  · subst h; simp
  · rw [List.takeWhile_cons_of_neg (by simp [h]), if_neg h]; rfl
theorem aut_lead : ∀ (u r : List UInt8) (i at0 : Nat) (acc : List (Nat × D)), (∀ c ∈ u, c ≠ 10) →
    autV (u ++ r) i [] at0 acc = if crs u = u.length then autV r (i + u.length) [] 0 acc else autV r (i + u.length) (u.filter (· != 13)) (i + crs u) acc
  | [], r, i, at0, acc, _ => (aut_at r i at0 0 acc).trans (if_pos (rfl : crs [] = ([] : List UInt8).length)).symm
  | c :: u, r, i, at0, acc, hu => by
    have h10 := hu c (by simp)
    have hu2 : ∀ x ∈ u, x ≠ 10 := fun x hx => hu x (by simp [hx])
    by_cases h13 : c = 13
    · subst h13
      have e : autV ((13 : UInt8) :: u ++ r) i [] at0 acc = autV (u ++ r) (i + 1) [] at0 acc := by simp [autV]
      rw [e, aut_lead u r (i + 1) at0 acc hu2, crs_cons, if_pos rfl]
      simp only [List.length_cons]
      have e2 : ((13 : UInt8) :: u).filter (· != 13) = u.filter (· != 13) := by simp
      rw [e2, show i + 1 + u.length = i + (u.length + 1) by omega, show i + 1 + crs u = i + (crs u + 1) by omega]
      by_cases hc : crs u = u.length
      · rw [if_pos hc, if_pos (by omega)]
      · rw [if_neg hc, if_neg (by omega)]
    · have e : autV (c :: u ++ r) i [] at0 acc = autV (u ++ r) (i + 1) [c] i acc := by simp [autV, h13, h10]
      rw [e, aut_line u r (i + 1) [c] i acc hu2 (by simp), crs_cons, if_neg h13, if_neg (by simp)]
      simp [h13, Nat.add_comm, Nat.add_left_comm]
theorem upto_ne (s : List UInt8) : ∀ c ∈ upto s, c ≠ 10 := by
  intro c hc
  have := takeWhile_all (· != (10 : UInt8)) s c hc
  simpa using this
/-- What is left behind the first line. -/
theorem behind_upto (s : List UInt8) : s.drop (upto s).length = [] ∨ s.drop (upto s).length = 10 :: s.drop ((upto s).length + 1) := by
  by_cases h : (upto s).length < s.length
  · right
    have := (sp_spec (· != 10) s).2 (by rw [← upto_sp]; exact h)
    rw [List.drop_eq_getElem_cons h]
    congr 1
    simpa [upto_sp] using this
  · left; exact List.drop_eq_nil_of_le (by omega)
theorem go_aut : ∀ (k : Nat) (r : List UInt8) (o : Nat) (acc : List (Nat × D)), r.length ≤ k → goV k r o acc = autV r o [] 0 acc
  | 0, r, o, acc, h => by
    obtain rfl : r = [] := List.eq_nil_of_length_eq_zero (by omega)
    rfl
  | k + 1, r, o, acc, h => by
    rw [goV]
    by_cases hr : r = []
    · subst hr; rfl
    · rw [if_neg hr]
      have hp := List.length_pos_iff.2 hr
      have hd : (r.drop ((upto r).length + 1)).length ≤ k := by rw [List.length_drop]; omega
      have hs : r = upto r ++ r.drop (upto r).length := by
        conv => lhs; rw [← List.take_append_drop (upto r).length r]
        rw [← upto_take]
      have ea : autV r o [] 0 acc = if crs (upto r) = (upto r).length then autV (r.drop (upto r).length) (o + (upto r).length) [] 0 acc else autV (r.drop (upto r).length) (o + (upto r).length) ((upto r).filter (· != 13)) (o + crs (upto r)) acc := by
        conv => lhs; rw [hs]
        exact aut_lead (upto r) _ o 0 acc (upto_ne r)
      rw [ea]
      by_cases hc : crs (upto r) = (upto r).length
      · rw [if_pos hc, if_pos hc, go_aut k _ _ _ hd]
        rcases behind_upto r with hb | hb
        · rw [hb]
          have : r.drop ((upto r).length + 1) = [] := by
            have := congrArg List.length hb
            rw [List.length_drop] at this
            exact List.drop_eq_nil_of_le (by simp at this; omega)
          rw [this]; rfl
        · rw [hb]; simp [autV]
      · rw [if_neg hc, if_neg hc]
        have hne : (upto r).filter (· != 13) ≠ [] := by
          have := filter_ne (s := upto r) (by have := crs_le (upto r); omega)
          intro e; rw [e] at this; simp at this
        rcases behind_upto r with hb | hb
        · have h2 : r.drop ((upto r).length + 1) = [] := by
            have := congrArg List.length hb
            rw [List.length_drop] at this
            exact List.drop_eq_nil_of_le (by simp at this; omega)
          rw [hb, h2]
          simp only [autV, if_neg hne]
          cases cmdV ((upto r).filter (· != 13)) with
          | none => rfl
          | some d => exact (go_aut k _ _ _ (by simp)).trans (by simp [autV])
        · rw [hb]
          simp only [autV, if_neg hne, if_true]
          rw [if_neg (by decide)]
          cases cmdV ((upto r).filter (· != 13)) with
          | none => rfl
          | some d =>
            exact (go_aut k _ _ _ hd).trans (aut_at _ _ _ _ _)
theorem parse_aut (s : List UInt8) : parseX s = if 1000000 < s.length ∨ 20000 < linesV s then ([], 0, 6)
    else if (s.takeWhile lineC).length < s.length then ([], (s.takeWhile lineC).length, 2) else autV s 0 [] 0 [] := by
  unfold parseX
  rw [go_aut s.length s 0 [] (Nat.le_refl _)]

/-! ### The commands alone -/
def cmdsC : List UInt8 → List UInt8 → List D → Option (List D)
  | [], buf, acc => if buf = [] then some acc else (cmdV buf).map fun d => acc ++ [d]
  | c :: r, buf, acc =>
    if c = 13 then cmdsC r buf acc
    else if c = 10 then (if buf = [] then cmdsC r [] acc else match cmdV buf with
      | none => none
      | some d => cmdsC r [] (acc ++ [d]))
    else cmdsC r (buf ++ [c]) acc
theorem aut_cmds : ∀ (s : List UInt8) (i : Nat) (buf : List UInt8) (at0 : Nat) (acc : List (Nat × D)),
    (∀ ds, cmdsC s buf (acc.map Prod.snd) = some ds → (autV s i buf at0 acc).1.map Prod.snd = ds ∧ (autV s i buf at0 acc).2 = (0, 0)) ∧ (cmdsC s buf (acc.map Prod.snd) = none → (autV s i buf at0 acc).2.2 = 3 ∧ (autV s i buf at0 acc).1 = [])
  | [], i, buf, at0, acc => by
    unfold cmdsC autV
    by_cases hb : buf = []
    · simp [hb]
    · rw [if_neg hb, if_neg hb]
      cases cmdV buf with
      | none => simp
      | some d => simp
  | c :: r, i, buf, at0, acc => by
    unfold cmdsC autV
    by_cases h13 : c = 13
    · rw [if_pos h13, if_pos h13]; exact aut_cmds r (i + 1) buf at0 acc
    · rw [if_neg h13, if_neg h13]
      by_cases h10 : c = 10
      · rw [if_pos h10, if_pos h10]
        by_cases hb : buf = []
        · rw [if_pos hb, if_pos hb]; exact aut_cmds r (i + 1) [] at0 acc
        · rw [if_neg hb, if_neg hb]
          cases cmdV buf with
          | none => simp
          | some d =>
            have h := aut_cmds r (i + 1) [] at0 (acc ++ [(at0, d)])
            simpa using h
      · rw [if_neg h10, if_neg h10]; exact aut_cmds r (i + 1) (buf ++ [c]) _ acc
/-- May it be read at all? -/
def bounded (s : List UInt8) : Prop := s.length ≤ 1000000 ∧ linesV s ≤ 20000 ∧ ∀ c ∈ s, lineC c = true
theorem parse_ok {s : List UInt8} {l : List (Nat × D)} {a : Nat} (h : parseX s = (l, a, 0)) : bounded s ∧ cmdsC s [] [] = some (l.map Prod.snd) := by
  rw [parse_aut] at h
  split at h
  · simp at h
  · rename_i h1
    split at h
    · simp at h
    · rename_i h2
      refine ⟨⟨by omega, by omega, sp_full (p := lineC) (by have := sp_le lineC s; unfold sp at *; omega)⟩, ?_⟩
      have k := aut_cmds s 0 [] 0 []
      rw [h] at k
      cases hc : cmdsC s [] (([] : List (Nat × D)).map Prod.snd) with
      | none => have := k.2 hc; simp at this
      | some ds => 
        have := (k.1 ds hc).1
        simp only [List.map_nil] at hc
        rw [hc]; exact congrArg some this.symm
theorem takeWhile_every (p : UInt8 → Bool) : ∀ s : List UInt8, (∀ c ∈ s, p c = true) → s.takeWhile p = s
  | [], _ => rfl
  | c :: s, h => by rw [List.takeWhile_cons_of_pos (h c (by simp)), takeWhile_every p s (fun x hx => h x (by simp [hx]))]
theorem ok_parse {s : List UInt8} {ds : List D} (h : bounded s) (hc : cmdsC s [] [] = some ds) : ∃ l, parseX s = (l, 0, 0) ∧ l.map Prod.snd = ds := by
  rw [parse_aut, if_neg (by rintro (h1 | h1) <;> have := h.1 <;> have := h.2.1 <;> omega), if_neg (by
    have e := takeWhile_every lineC s h.2.2
    rw [e]; omega)]
  have k := (aut_cmds s 0 [] 0 []).1 ds hc
  refine ⟨(autV s 0 [] 0 []).1, ?_, k.1⟩
  rw [← k.2]

/-! ### More empty lines -/
def insV (f : Nat → Bool) : Nat → List UInt8 → List UInt8
  | _, [] => []
  | k, c :: r => c :: ((if c = 10 ∧ f k = true then [10, 13, 10] else []) ++ insV f (k + 1) r)
theorem ins_cmds (f : Nat → Bool) : ∀ (s : List UInt8) (k : Nat) (buf : List UInt8) (acc : List D), cmdsC (insV f k s) buf acc = cmdsC s buf acc
  | [], _, _, _ => rfl
  | c :: r, k, buf, acc => by
    by_cases h : c = 10 ∧ f k = true
    · obtain ⟨rfl, hf⟩ := h
      simp only [insV, hf, and_self, if_true, List.cons_append, List.nil_append]
      have key : ∀ acc, cmdsC (10 :: 13 :: 10 :: insV f (k + 1) r) [] acc = cmdsC r [] acc := by
        intro acc
        have e : cmdsC (10 :: 13 :: 10 :: insV f (k + 1) r) [] acc = cmdsC (insV f (k + 1) r) [] acc := by simp [cmdsC]
        rw [e]; exact ins_cmds f r (k + 1) [] acc
      rw [cmdsC, if_neg (by decide), if_pos rfl]
      conv => rhs; rw [cmdsC, if_neg (by decide), if_pos rfl]
      simp only [key]
    · simp only [insV, if_neg h, List.nil_append]
      rw [cmdsC]
      conv => rhs; rw [cmdsC]
      simp only [ins_cmds f r (k + 1)]
theorem ins_count (f : Nat → Bool) : ∀ (s : List UInt8) (k : Nat), (insV f k s).count 10 ≤ 3 * s.count 10 ∧ (insV f k s).length ≤ 4 * s.length ∧ ((∀ c ∈ s, lineC c = true) → ∀ c ∈ insV f k s, lineC c = true)
  | [], _ => by simp [insV]
  | c :: r, k => by
    obtain ⟨h1, h2, h3⟩ := ins_count f r (k + 1)
    by_cases h : c = 10 ∧ f k = true
    · obtain ⟨rfl, hf⟩ := h
      simp only [insV, hf, and_self, if_true, List.cons_append, List.nil_append]
      refine ⟨?_, by simp; omega, ?_⟩
      · rw [List.count_cons_self, List.count_cons_self, List.count_cons_of_ne (by decide), List.count_cons_self, List.count_cons_self]; omega
      · intro hs x hx
        have := h3 (fun y hy => hs y (by simp [hy]))
        simp only [List.mem_cons] at hx
        rcases hx with rfl | rfl | rfl | rfl | hx
        · decide
        · decide
        · decide
        · decide
        · exact this x hx
    · simp only [insV, if_neg h, List.nil_append]
      refine ⟨?_, by simp; omega, ?_⟩
      · rw [List.count_cons, List.count_cons]; omega
      · intro hs x hx
        simp only [List.mem_cons] at hx
        rcases hx with rfl | hx
        · exact hs _ (by simp)
        · exact h3 (fun y hy => hs y (by simp [hy])) x hx
end Go.Proofs.YtecpmnkgikcpnaaDoor.Xp
