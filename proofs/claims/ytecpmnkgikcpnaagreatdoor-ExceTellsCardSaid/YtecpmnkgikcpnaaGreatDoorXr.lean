/-
  Plain: the document's own reading of a line of a drill file, and that it is cmdV. No program in sight.
-/
import Derived.Test.YtecpmnkgikcpnaaGreatDoorXb
namespace Go.Proofs.YtecpmnkgikcpnaaGreatDoor.Xp
open Go.Proofs.YtecpmnkgikcpnaaGreatDoor.Dp
open Go.Lib (decDigits nDigits)

def rwayC (c : UInt8) : Bool := c == 46 || isD c
/-- How long a way is. -/
def rspan : List UInt8 → Nat
  | [] => 0
  | c :: r => if c = 43 ∨ c = 45 ∨ rwayC c = true then (r.takeWhile rwayC).length + 1 else 0
def rok (w : List UInt8) : Bool := if (w.contains 46) = true then (dec w).isSome else decide (1 ≤ (bare w).length) && decide ((bare w).length ≤ 12)
def rcoord (s : List UInt8) (l : UInt8) : List UInt8 × List UInt8 × Bool × Bool := match s with
  | [] => ([], [], true, false)
  | c :: r => if c = l then (r.take (rspan r), r.drop (rspan r), rok (r.take (rspan r)), true) else ([], c :: r, true, false)
def rplace (s : List UInt8) : Option (List UInt8 × List UInt8 × List UInt8) :=
  if (rcoord s 88).2.2.1 = true ∧ (rcoord (rcoord s 88).2.1 89).2.2.1 = true ∧ ((rcoord s 88).2.2.2 = true ∨ (rcoord (rcoord s 88).2.1 89).2.2.2 = true) then
    some ((rcoord s 88).1, (rcoord (rcoord s 88).2.1 89).1, (rcoord (rcoord s 88).2.1 89).2.1) else none
def rcount (s : List UInt8) (m : Nat) : Option (Nat × List UInt8) :=
  if nd s = 0 ∨ m < nd s ∨ s.headD 0 = 48 then none else some (val (s.take (nd s)), s.drop (nd s))
def rplaced (k : Int) (s : List UInt8) : Option D := match rplace s with
  | some (x, y, []) => some { kd k with x := x, y := y }
  | _ => none
def rhit (s : List UInt8) : Option D := match rplace s with
  | none => none
  | some (x, y, []) => some { kd 7 with x := x, y := y }
  | some (x, y, 71 :: 56 :: 53 :: r) => (match rplace r with
    | some (u, v, []) => some { kd 8 with x := x, y := y, u := u, v := v }
    | _ => none)
  | some _ => none
def rtoolV (s : List UInt8) : Option D := match rcount s 2 with
  | none => none
  | some (n, []) => some { kd 6 with n := n }
  | some (n, c :: r) => if c = 67 then (match dec r with
    | none => none
    | some v => some { kd 4 with n := n, nums := [v] }) else none
def ragain (s : List UInt8) : Option D := match rcount s 4 with
  | none => none
  | some (n, r) => match rplace r with
    | some (x, y, []) => some { kd 12 with n := n, x := x, y := y }
    | _ => none
def rotherV (s : List UInt8) : Option D := match s with
  | 59 :: r => some { kd 1 with t := r }
  | 84 :: r => rtoolV r
  | 71 :: 48 :: 48 :: r => rplaced 9 r
  | 71 :: 48 :: 49 :: r => rplaced 11 r
  | 82 :: r => ragain r
  | _ => rhit s
def rlineV (s : List UInt8) : Option D := match fixed.lookup s with
  | some d => some d
  | none => if s = [84, 48] then some (kd 6) else rotherV s

/-! ### Ways -/
def signed (q : List UInt8) : Bool := match q with
  | [] => false
  | c :: _ => c == 43 || c == 45
theorem rway_way {c : UInt8} (h : rwayC c = true) : wayC c = true := by
  unfold rwayC at h; unfold wayC
  simp only [Bool.or_eq_true] at h ⊢
  rcases h with h | h
  · exact .inl (.inr h)
  · exact .inr h
theorem not_rway {c : UInt8} (h : rwayC c = false) (h1 : c ≠ 43) (h2 : c ≠ 45) : wayC c = false := by
  unfold rwayC at h; unfold wayC
  simp only [Bool.or_eq_false_iff] at h
  simp [h1, h2, h.1, h.2]
theorem rspan_cons (c : UInt8) (r : List UInt8) : rspan (c :: r) = if c = 43 ∨ c = 45 ∨ rwayC c = true then (r.takeWhile rwayC).length + 1 else 0 := rfl
theorem rcoord_cons (c : UInt8) (r : List UInt8) (l : UInt8) : rcoord (c :: r) l = if c = l then (r.take (rspan r), r.drop (rspan r), rok (r.take (rspan r)), true) else ([], c :: r, true, false) := rfl
theorem bare_cons (c : UInt8) (r : List UInt8) : bare (c :: r) = if c = 43 ∨ c = 45 then r else c :: r := rfl
/-- A way and what follows it. -/
theorem rspan_parts (r : List UInt8) : (rspan r = 0 ∧ (r = [] ∨ ∃ c q, r = c :: q ∧ wayC c = false)) ∨ ∃ c w q, r = c :: (w ++ q) ∧ rspan r = w.length + 1 ∧ (c = 43 ∨ c = 45 ∨ rwayC c = true) ∧ (∀ x ∈ w, rwayC x = true) ∧ (q = [] ∨ ∃ x t, q = x :: t ∧ rwayC x = false) := by
  cases r with
  | nil => exact .inl ⟨rfl, .inl rfl⟩
  | cons c r =>
    rw [rspan_cons]
    by_cases h : c = 43 ∨ c = 45 ∨ rwayC c = true
    · rw [if_pos h]
      refine .inr ⟨c, r.takeWhile rwayC, r.dropWhile rwayC, by rw [List.takeWhile_append_dropWhile], rfl, h, takeWhile_all rwayC r, ?_⟩
      cases hd : r.dropWhile rwayC with
      | nil => exact .inl rfl
      | cons x t =>
        refine .inr ⟨x, t, rfl, ?_⟩
        have := List.head?_dropWhile_not rwayC r
        rw [hd] at this
        simpa using this
    · rw [if_neg h]
      refine .inl ⟨rfl, .inr ⟨c, r, rfl, ?_⟩⟩
      exact not_rway (by cases hc : rwayC c <;> simp_all) (fun e => h (.inl e)) (fun e => h (.inr (.inl e)))
theorem takeWhile_app {α : Type} (p : α → Bool) (a b : List α) (h : ∀ x ∈ a, p x = true) : (a ++ b).takeWhile p = a ++ b.takeWhile p := by
  induction a with
  | nil => rfl
  | cons x a ih =>
    rw [List.cons_append, List.takeWhile_cons_of_pos (h x (by simp)), ih (fun y hy => h y (by simp [hy]))]
    rfl
theorem isD_of_rway {x : UInt8} (h : rwayC x = true) (h2 : x ≠ 46) : isD x = true := by
  unfold rwayC at h
  simpa [h2] using h
/-- Where no sign stands behind it, the way is the same. -/
theorem way_same (r : List UInt8) (hq : signed (r.drop (rspan r)) = false) : wspan r = rspan r ∧ isWay (r.take (rspan r)) = rok (r.take (rspan r)) := by
  rcases rspan_parts r with ⟨h0, h⟩ | ⟨c, w, q, rfl, h0, hc, hw, hq2⟩
  · rw [h0, List.take_zero]
    refine ⟨?_, by decide⟩
    rcases h with rfl | ⟨c, q, rfl, hc⟩
    · rfl
    · unfold wspan; rw [List.takeWhile_cons_of_neg (by simp [hc])]; rfl
  · rw [h0] at hq ⊢
    have hd : (c :: (w ++ q)).drop (w.length + 1) = q := by simp
    have ht : (c :: (w ++ q)).take (w.length + 1) = c :: w := by simp
    rw [hd] at hq
    rw [ht]
    have hcw : wayC c = true := by
      rcases hc with rfl | rfl | hc
      · decide
      · decide
      · exact rway_way hc
    refine ⟨?_, ?_⟩
    · unfold wspan
      rw [List.takeWhile_cons_of_pos hcw, takeWhile_app _ _ _ (fun x hx => rway_way (hw x hx))]
      rcases hq2 with rfl | ⟨x, t, rfl, hx⟩
      · simp
      · have : wayC x = false := by
          refine not_rway hx ?_ ?_
          · rintro rfl; simp [signed] at hq
          · rintro rfl; simp [signed] at hq
        rw [List.takeWhile_cons_of_neg (by simp [this])]; simp
    · unfold isWay rok
      by_cases h46 : (c :: w).contains 46 = true
      · rw [if_pos h46, if_pos h46]
      · rw [if_neg h46, if_neg h46]
        have hn : ∀ x ∈ c :: w, x ≠ 46 := by
          rintro x hx rfl
          exact h46 (by simpa using hx)
        have hall : (bare (c :: w)).all isD = true := by
          rw [List.all_eq_true]
          intro x hx
          rw [bare_cons] at hx
          split at hx
          · exact isD_of_rway (hw x hx) (hn x (by simp [hx]))
          · rename_i hne
            simp only [List.mem_cons] at hx
            rcases hx with rfl | hx
            · refine isD_of_rway ?_ (hn _ (by simp))
              rcases hc with h | h | h
              · exact absurd (.inl h) hne
              · exact absurd (.inr h) hne
              · exact h
            · exact isD_of_rway (hw x hx) (hn x (by simp [hx]))
        rw [hall, Bool.true_and]
/-- Where a sign stands behind it, there is none. -/
theorem way_none (r : List UInt8) (hq : signed (r.drop (rspan r)) = true) : isWay (r.take (wspan r)) = false := by
  rcases rspan_parts r with ⟨h0, h⟩ | ⟨c, w, q, rfl, h0, hc, hw, hq2⟩
  · rw [h0, List.drop_zero] at hq
    rcases h with rfl | ⟨c, q, rfl, hc⟩
    · simp [signed] at hq
    · simp only [signed, Bool.or_eq_true, beq_iff_eq] at hq
      rcases hq with rfl | rfl <;> simp [wayC] at hc
  · rw [h0] at hq
    have hd : (c :: (w ++ q)).drop (w.length + 1) = q := by simp
    rw [hd] at hq
    have hcw : wayC c = true := by
      rcases hc with rfl | rfl | hc
      · decide
      · decide
      · exact rway_way hc
    cases q with
    | nil => simp [signed] at hq
    | cons x t =>
      simp only [signed, Bool.or_eq_true, beq_iff_eq] at hq
      have hx : wayC x = true ∧ isD x = false ∧ x ≠ 46 := by rcases hq with rfl | rfl <;> decide
      have ht : ∃ m, (c :: (w ++ x :: t)).take (wspan (c :: (w ++ x :: t))) = c :: (w ++ x :: m) := by
        refine ⟨t.takeWhile wayC, ?_⟩
        have e : (c :: (w ++ x :: t)).takeWhile wayC = c :: (w ++ x :: t.takeWhile wayC) := by
          rw [List.takeWhile_cons_of_pos hcw, takeWhile_app _ _ _ (fun x hx => rway_way (hw x hx)), List.takeWhile_cons_of_pos hx.1]
        have e2 := List.prefix_iff_eq_take.1 (List.takeWhile_prefix wayC (l := c :: (w ++ x :: t)))
        unfold wspan
        rw [← e2, e]
      obtain ⟨m, hm⟩ := ht
      rw [hm]
      unfold isWay
      split
      · have hmem : x ∈ (strip (c :: (w ++ x :: m))).2 := by
          by_cases h43 : c = 43
          · subst h43; rw [strip_plus]; simp
          · by_cases h45 : c = 45
            · subst h45; rw [strip_minus]; simp
            · have : strip (c :: (w ++ x :: m)) = (false, c :: (w ++ x :: m)) := by
                have e1 : ¬ c.toNat = 43 := fun e => h43 (UInt8.toNat_inj.1 e)
                have e2 : ¬ c.toNat = 45 := fun e => h45 (UInt8.toNat_inj.1 e)
                simp [strip, e1, e2]
              rw [this]; simp
        have := decU_not_mem hmem hx.2.1 hx.2.2
        unfold dec
        rw [this]; rfl
      · have : (bare (c :: (w ++ x :: m))).all isD = false := by
          rw [Bool.eq_false_iff]
          intro h
          rw [List.all_eq_true] at h
          have hmem : x ∈ bare (c :: (w ++ x :: m)) := by rw [bare_cons]; split <;> simp
          rw [h x hmem] at hx
          simp at hx
        rw [this, Bool.false_and]
/-- One letter and its way. -/
theorem coord_rel (s : List UInt8) (l : UInt8) (hl : l ≠ 43 ∧ l ≠ 45) : (signed (rcoord s l).2.1 = false → coordV s l = ((rcoord s l).1, (rcoord s l).2.1, (rcoord s l).2.2.1)) ∧ (signed (rcoord s l).2.1 = true → (rcoord s l).2.2.2 = true → (coordV s l).2.2 = false) ∧ ((rcoord s l).2.2.2 = false → coordV s l = ((rcoord s l).1, (rcoord s l).2.1, (rcoord s l).2.2.1) ∧ (rcoord s l).2.1 = s) ∧ ((rcoord s l).2.2.1 = true → ((rcoord s l).1 = [] ↔ (rcoord s l).2.2.2 = false)) := by
  cases s with
  | nil => simp [rcoord, coordV]
  | cons c r =>
    rw [rcoord_cons]
    by_cases hc : c = l
    · subst hc
      rw [if_pos rfl]
      refine ⟨fun h => ?_, fun h _ => ?_, fun h => by simp at h, fun h => ?_⟩
      · have := way_same r h
        simp only [coordV, if_true]
        rw [this.1, this.2]
      · have := way_none r h
        simp only [coordV, if_true]
        exact this
      · simp only [Bool.true_eq_false, iff_false]
        intro e
        dsimp only at h e
        rw [e] at h
        exact absurd h (by decide)
    · rw [if_neg hc]
      have e : coordV (c :: r) l = ([], c :: r, true) := by simp [coordV, hc]
      refine ⟨fun _ => e, fun _ h => by simp at h, fun _ => ⟨e, rfl⟩, fun _ => by simp⟩
theorem signed_coord {s : List UInt8} {l : UInt8} (h : signed s = true) (hl : l ≠ 43 ∧ l ≠ 45) : rcoord s l = ([], s, true, false) := by
  cases s with
  | nil => simp [signed] at h
  | cons c r =>
    simp only [signed, Bool.or_eq_true, beq_iff_eq] at h
    rw [rcoord_cons, if_neg]
    rintro rfl
    rcases h with h | h
    · exact hl.1 h
    · exact hl.2 h
theorem pos_rel (s : List UInt8) : (∀ x y r, rplace s = some (x, y, r) → signed r = false → posV s = some (x, y, r)) ∧ (∀ x y r, rplace s = some (x, y, r) → signed r = true → posV s = none) ∧ (rplace s = none → posV s = none) := by
  have hX := coord_rel s 88 (by decide)
  obtain ⟨x, s1, o1, m1, e1⟩ : ∃ x s1 o1 m1, rcoord s 88 = (x, s1, o1, m1) := ⟨_, _, _, _, rfl⟩
  rw [e1] at hX
  have hY := coord_rel s1 89 (by decide)
  obtain ⟨y, s2, o2, m2, e2⟩ : ∃ y s2 o2 m2, rcoord s1 89 = (y, s2, o2, m2) := ⟨_, _, _, _, rfl⟩
  rw [e2] at hY
  dsimp only at hX hY
  have hR : rplace s = if o1 = true ∧ o2 = true ∧ (m1 = true ∨ m2 = true) then some (x, y, s2) else none := by
    unfold rplace; rw [e1, e2]
  cases hs1 : signed s1 with
  | true =>
    -- a sign behind the first way (or at the very beginning): no second way
    have h2 := signed_coord (l := 89) hs1 (by decide)
    rw [h2] at e2
    simp only [Prod.mk.injEq] at e2
    obtain ⟨rfl, rfl, rfl, rfl⟩ := e2
    cases m1 with
    | true =>
      have hf := hX.2.1 hs1 rfl
      have hp : posV s = none := by unfold posV; rw [if_neg (by rw [hf]; simp)]
      refine ⟨fun a b c h hc => ?_, fun _ _ _ _ _ => hp, fun _ => hp⟩
      rw [hR] at h
      split at h
      · simp only [Option.some.injEq, Prod.mk.injEq] at h
        obtain ⟨_, _, rfl⟩ := h
        rw [hs1] at hc; cases hc
      · cases h
    | false =>
      have hn : rplace s = none := by rw [hR]; simp
      have hc1 := (hX.2.2.1 rfl).1
      have ho := hX.2.2.2
      have hc2 := (hY.2.2.1 rfl).1
      have hp : posV s = none := by
        unfold posV
        rw [hc1]
        dsimp only
        rw [hc2]
        rw [if_neg]
        rintro ⟨h1, h2, h3⟩
        exact h3 ⟨(ho h1).2 rfl, rfl⟩
      exact ⟨fun _ _ _ h _ => (by rw [hn] at h; cases h), fun _ _ _ _ _ => hp, fun _ => hp⟩
  | false =>
    have hc1 := hX.1 hs1
    have hP : posV s = if o1 = true ∧ (coordV s1 89).2.2 = true ∧ ¬ (x = [] ∧ (coordV s1 89).1 = []) then some (x, (coordV s1 89).1, (coordV s1 89).2.1) else none := by
      unfold posV; rw [hc1]
    cases hs2 : signed s2 with
    | true =>
      cases m2 with
      | true =>
        have hf := hY.2.1 hs2 rfl
        have hp : posV s = none := by rw [hP, if_neg (by rw [hf]; simp)]
        refine ⟨fun a b c h hc => ?_, fun _ _ _ _ _ => hp, fun _ => hp⟩
        rw [hR] at h
        split at h
        · simp only [Option.some.injEq, Prod.mk.injEq] at h
          obtain ⟨_, _, rfl⟩ := h
          rw [hs2] at hc; cases hc
        · cases h
      | false =>
        have := (hY.2.2.1 rfl).2
        rw [this, hs1] at hs2
        cases hs2
    | false =>
      have hc2 := hY.1 hs2
      rw [hc2] at hP
      dsimp only at hP
      have hiff : (o1 = true ∧ o2 = true ∧ ¬ (x = [] ∧ y = [])) ↔ (o1 = true ∧ o2 = true ∧ (m1 = true ∨ m2 = true)) := by
        constructor
        · rintro ⟨h1, h2, h3⟩
          refine ⟨h1, h2, ?_⟩
          have a := hX.2.2.2 h1
          have b := hY.2.2.2 h2
          cases hm1 : m1 with
          | true => exact .inl rfl
          | false => cases hm2 : m2 with
            | true => exact .inr rfl
            | false => exact absurd ⟨a.2 hm1, b.2 hm2⟩ h3
        · rintro ⟨h1, h2, h3⟩
          refine ⟨h1, h2, ?_⟩
          have a := hX.2.2.2 h1
          have b := hY.2.2.2 h2
          rintro ⟨e1, e2⟩
          have k1 := a.1 e1
          have k2 := b.1 e2
          rcases h3 with h3 | h3
          · rw [h3] at k1; cases k1
          · rw [h3] at k2; cases k2
      have hE : posV s = rplace s := by
        rw [hP, hR]
        by_cases h : o1 = true ∧ o2 = true ∧ (m1 = true ∨ m2 = true)
        · rw [if_pos h, if_pos (hiff.2 h)]
        · rw [if_neg h, if_neg (fun k => h (hiff.1 k))]
      refine ⟨fun a b c h _ => hE.trans h, fun a b c h hc => ?_, fun h => hE.trans h⟩
      rw [hR] at h
      split at h
      · simp only [Option.some.injEq, Prod.mk.injEq] at h
        obtain ⟨_, _, rfl⟩ := h
        rw [hs2] at hc; cases hc
      · cases h
theorem placed_rel (k : Int) (s : List UInt8) : rplaced k s = placedV k s := by
  have h := pos_rel s
  unfold rplaced placedV
  cases hr : rplace s with
  | none => rw [h.2.2 hr]
  | some p =>
    obtain ⟨x, y, r⟩ := p
    cases hs : signed r with
    | false => rw [h.1 x y r hr hs]; rfl
    | true =>
      rw [h.2.1 x y r hr hs]
      cases r with
      | nil => simp [signed] at hs
      | cons c r => rfl
theorem hit_rel (s : List UInt8) : rhit s = hitV s := by
  have h := pos_rel s
  unfold rhit hitV
  cases hr : rplace s with
  | none => rw [h.2.2 hr]
  | some p =>
    obtain ⟨x, y, r⟩ := p
    cases hs : signed r with
    | false =>
      rw [h.1 x y r hr hs]
      split
      · rename_i e; cases e
      · rename_i e
        simp only [Option.some.injEq, Prod.mk.injEq] at e
        obtain ⟨rfl, rfl, rfl⟩ := e; rfl
      · rename_i q e
        simp only [Option.some.injEq, Prod.mk.injEq] at e
        obtain ⟨rfl, rfl, rfl⟩ := e
        have h3 := pos_rel q
        show (match rplace q with | some (u, v, []) => some { kd 8 with x := x, y := y, u := u, v := v } | _ => none) = (match posV q with | some (u, v, []) => some { kd 8 with x := x, y := y, u := u, v := v } | _ => none)
        cases hr2 : rplace q with
        | none => rw [h3.2.2 hr2]
        | some p2 =>
          obtain ⟨u, v, t⟩ := p2
          cases hs2 : signed t with
          | false => rw [h3.1 u v t hr2 hs2]
          | true =>
            rw [h3.2.1 u v t hr2 hs2]
            cases t with
            | nil => simp [signed] at hs2
            | cons c t => rfl
      · rename_i e1 e2 e3 e4
        split
        · rfl
        · rename_i e
          simp only [Option.some.injEq, Prod.mk.injEq] at e
          obtain ⟨rfl, rfl, rfl⟩ := e
          exact absurd (Option.some.inj e4).symm (e2 _ _)
        · rename_i e
          simp only [Option.some.injEq, Prod.mk.injEq] at e
          obtain ⟨rfl, rfl, rfl⟩ := e
          exact absurd (Option.some.inj e4).symm (e3 _ _ _)
        · rfl
    | true =>
      rw [h.2.1 x y r hr hs]
      cases r with
      | nil => simp [signed] at hs
      | cons c r =>
        simp only [signed, Bool.or_eq_true, beq_iff_eq] at hs
        rcases hs with rfl | rfl <;> rfl
theorem pow_le_val {s : List UInt8} (h1 : nd s ≠ 0) (h2 : s.headD 0 ≠ 48) : 10 ^ (nd s - 1) ≤ val (s.take (nd s)) := by
  have hd := take_nd s (nd s) (Nat.le_refl _)
  cases s with
  | nil => exact absurd rfl h1
  | cons c s =>
    cases hn : nd (c :: s) with
    | zero => exact absurd hn h1
    | succ k =>
      rw [hn] at hd
      rw [List.take_succ_cons] at hd ⊢
      have hc := (isD_iff c).1 (hd c (by simp))
      have hc2 : c.toNat ≠ 48 := fun e => h2 (by simpa using UInt8.toNat_inj.1 e)
      have hlen : (s.take k).length = k := by
        have := nd_le (c :: s)
        rw [hn] at this
        simp at this
        rw [List.length_take]; omega
      rw [val_cons, hlen]
      have : 1 * 10 ^ k ≤ (c.toNat - 48) * 10 ^ k := Nat.mul_le_mul_right _ (by omega)
      simp
      omega
theorem count_rel (s : List UInt8) (m most : Nat) (hm : most + 1 = 10 ^ m) (hm1 : 1 ≤ m) : rcount s m = countV s most := by
  unfold rcount countV
  by_cases h1 : nd s = 0
  · rw [if_pos (.inl h1), if_pos (.inl h1)]
  · by_cases h2 : s.headD 0 = 48
    · rw [if_pos (.inr (.inr h2)), if_pos (.inr (.inl h2))]
    · have hlt := val_take_lt s (nd s) (Nat.le_refl _)
      have hge := pow_le_val h1 h2
      by_cases h3 : m < nd s
      · have h4 : 10 ^ m ≤ 10 ^ (nd s - 1) := Nat.pow_le_pow_right (by decide) (by omega)
        have h5 : most < val (s.take (nd s)) := by omega
        rw [if_pos (.inr (.inl h3)), if_pos (.inr (.inr h5))]
      · have : 10 ^ nd s ≤ 10 ^ m := Nat.pow_le_pow_right (by decide) (by omega)
        rw [if_neg (by rintro (h | h | h) <;> contradiction), if_neg (by rintro (h | h | h); contradiction; contradiction; omega)]
theorem again_rel (s : List UInt8) : ragain s = againV s := by
  unfold ragain againV
  rw [count_rel s 4 9999 (by decide) (by decide)]
  cases countV s 9999 with
  | none => rfl
  | some p =>
    obtain ⟨n, r⟩ := p
    have h := pos_rel r
    dsimp only
    cases hr : rplace r with
    | none => rw [h.2.2 hr]
    | some q =>
      obtain ⟨x, y, t⟩ := q
      cases hs : signed t with
      | false => rw [h.1 x y t hr hs]; rfl
      | true =>
        rw [h.2.1 x y t hr hs]
        cases t with
        | nil => simp [signed] at hs
        | cons c t => rfl
theorem tool_rel (s : List UInt8) (h : s ≠ [48]) : rtoolV s = toolV s := by
  unfold rtoolV toolV
  rw [if_neg h, count_rel s 2 99 (by decide) (by decide)]
  rfl
theorem line_rel (s : List UInt8) : rlineV s = cmdV s := by
  unfold rlineV cmdV
  cases fixed.lookup s with
  | some d => rfl
  | none =>
    dsimp only
    by_cases h0 : s = [84, 48]
    · subst h0; rw [if_pos rfl]; decide
    · rw [if_neg h0]
      unfold rotherV otherV
      split
      · rfl
      · rename_i r
        exact tool_rel r (fun e => h0 (by rw [e]))
      · exact placed_rel 9 _
      · exact placed_rel 11 _
      · exact again_rel _
      · rename_i h1 h2 h3 h4 h5
        rw [hit_rel]
        split
        · rename_i r; exact absurd rfl (h1 r)
        · rename_i r; exact absurd rfl (h2 r)
        · rename_i r; exact absurd rfl (h5 r)
        · rename_i r
          have e : hitV (71 :: r) = none := by
            unfold hitV
            have : posV (71 :: r) = none := by
              unfold posV
              simp [coordV]
            rw [this]
          rw [e]
          unfold moveV
          split
          · rename_i r' e'
            exact absurd e' (h3 r')
          · rename_i r' e'
            exact absurd e' (h4 r')
          · rfl
        · rfl
end Go.Proofs.YtecpmnkgikcpnaaGreatDoor.Xp
