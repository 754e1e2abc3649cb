/-
  Plain: what a command that was read is like: its kind, its numbers' bounds, its texts' lengths. No program in sight.
-/
import Derived.Test.YtglmofeeggjemaaGreatDoorIp
set_option linter.unusedVariables false
namespace Go.Proofs.YtglmofeeggjemaaGreatDoor.GW
open Go.RowKit Go.Proofs.YtglmofeeggjemaaGreatDoor.Base Go.Proofs.YtglmofeeggjemaaGreatDoor.Dp Go.Proofs.YtglmofeeggjemaaGreatDoor.DeciW Go.Proofs.YtglmofeeggjemaaGreatDoor.Mem Go.Proofs.YtglmofeeggjemaaGreatDoor.RdW Go.Proofs.YtglmofeeggjemaaGreatDoor.Gp

structure Okc (c : C) : Prop where
  k0 : 1 ≤ c.k
  k1 : c.k ≤ 19
  n0 : 0 ≤ c.n
  n1 : c.n ≤ 9999
  m0 : 0 ≤ c.m
  m1 : c.m ≤ 9999
  t : c.t.length ≤ 1000000
  x : c.x.length ≤ 13
  y : c.y.length ≤ 13
  i : c.i.length ≤ 13
  j : c.j.length ≤ 13
  nums : ∀ v ∈ c.nums, -1000000000000 < v ∧ v < 1000000000000
  two : c.k = 13 → c.nums.length = 2
  one : c.k = 17 → c.nums.length = 1
  op : c.k = 7 → c.n = 1 ∨ c.n = 2 ∨ c.n = 3
  un : c.k = 9 → c.n = 1 ∨ c.n = 2
  md : c.k = 2 → c.n = 1 ∨ c.n = 2 ∨ c.n = 3

theorem dec_bd {s : List UInt8} {v : Int} (h : dec s = some v) : -1000000000000 < v ∧ v < 1000000000000 := by
  unfold dec at h
  cases hd : decU (strip s).2 with
  | none => rw [hd] at h; cases h
  | some n =>
    rw [hd] at h
    have := decU_lt hd
    have h2 : (if (strip s).1 = true then -(n : Int) else (n : Int)) = v := Option.some.inj h
    split at h2 <;> omega
theorem signN_le (r : List UInt8) : signN r ≤ 1 := by unfold signN; split <;> decide
theorem coordG_13 (t : List UInt8) (c : UInt8) : (coordG t c).1.length ≤ 13 := by
  unfold coordG
  split
  · split
    · exact Nat.zero_le _
    · rename_i h
      have := signN_le (t.drop 1)
      show (List.take _ _).length ≤ 13
      rw [List.length_take]
      omega
  · exact Nat.zero_le _
theorem countG_bd {t : List UInt8} {n : Nat} (h : countG t = some n) : n ≤ 9999 := by
  unfold countG at h
  split at h
  · cases h
  · rename_i hc
    cases h
    have h1 : t.length ≤ 4 := by omega
    have h2 : nd t = t.length := by omega
    have h3 := val_lt t (fun c hc => by
      have := take_nd t t.length (by omega) c (by rw [List.take_length]; exact hc)
      exact this)
    have : 10 ^ t.length ≤ 10 ^ 4 := Nat.pow_le_pow_right (by decide) h1
    omega
theorem codeV_bd {t : List UInt8} {n : Nat} (h : codeV t = some n) : n ≤ 9999 := by
  unfold codeV at h
  split at h
  · cases h
  · exact countG_bd h
/-- A command without coordinates and numbers. -/
theorem okc_small {k n m : Int} {on : Bool} {t : List UInt8} (hk : 1 ≤ k ∧ k ≤ 19) (hn : 0 ≤ n ∧ n ≤ 9999) (hm : 0 ≤ m ∧ m ≤ 9999) (ht : t.length ≤ 1000000) (h13 : k ≠ 13) (h17 : k ≠ 17) (h7 : k ≠ 7) (h9 : k = 9 → n = 1 ∨ n = 2) (h2 : k = 2 → n = 1 ∨ n = 2 ∨ n = 3) (l : List Blk) (nums : List Int) (hnum : ∀ v ∈ nums, -1000000000000 < v ∧ v < 1000000000000) : Okc ⟨k, n, m, on, t, [], [], [], [], nums, l⟩ :=
  ⟨hk.1, hk.2, hn.1, hn.2, hm.1, hm.2, ht, by show 0 ≤ 13; decide, by show 0 ≤ 13; decide, by show 0 ≤ 13; decide, by show 0 ≤ 13; decide, hnum, fun h => absurd h h13, fun h => absurd h h17, fun h => absurd h h7, h9, h2⟩
theorem no_nums : ∀ v ∈ ([] : List Int), -1000000000000 < v ∧ v < 1000000000000 := fun v hv => absurd hv (by simp)
theorem opN_cases {t : List UInt8} (h : ¬ opN t = 0) : opN t = 1 ∨ opN t = 2 ∨ opN t = 3 := by
  unfold opN at h ⊢
  split
  · exact .inl rfl
  · split
    · exact .inr (.inl rfl)
    · split
      · exact .inr (.inr rfl)
      · rename_i h1 h2 h3
        rw [if_neg h1, if_neg h2, if_neg h3] at h
        exact absurd rfl h
theorem opV_okc {t : List UInt8} {c : C} (h : opV t = some c) : Okc c := by
  unfold opV at h
  dsimp only at h
  split at h
  · cases h
  · rename_i hn
    cases h
    have h3 := opN_cases hn
    exact ⟨by show (1 : Int) ≤ 7; decide, by show (7 : Int) ≤ 19; decide, by show 0 ≤ opN _; omega, by show opN _ ≤ 9999; omega, by show (0 : Int) ≤ 0; decide, by show (0 : Int) ≤ 9999; decide, by show 0 ≤ 1000000; decide, coordG_13 _ _, coordG_13 _ _, coordG_13 _ _, coordG_13 _ _, no_nums, fun h => absurd h (by show ¬ (7 : Int) = 13; decide), fun h => absurd h (by show ¬ (7 : Int) = 17; decide), fun _ => h3, fun h => absurd h (by show ¬ (7 : Int) = 9; decide), fun h => absurd h (by show ¬ (7 : Int) = 2; decide)⟩
theorem plainV_okc {t : List UInt8} {l : List C} (ht : t.length ≤ 1000000) (h : plainV t = .ok l) : ∀ c ∈ l, Okc c := by
  have one : ∀ c : C, Okc c → ∀ x ∈ [c], Okc x := fun c h1 x hx => by rw [List.mem_singleton.1 hx]; exact h1
  have hrest : ∀ {t : List UInt8} {cs l : List C}, restV t cs = .ok l → (∀ c ∈ cs, Okc c) → ∀ c ∈ l, Okc c := by
    intro t cs l h hc
    unfold restV at h
    split at h
    · rename_i n hn
      cases h
      have hb : n ≤ 9999 := by
        split at hn
        · exact codeV_bd hn
        · cases hn
      exact one _ (show Okc ⟨6, (n : Int), 0, false, [], [], [], [], [], [], []⟩ from okc_small (by decide) ⟨by omega, by omega⟩ (by decide) (by decide) (by decide) (by decide) (by decide) (fun h => absurd h (by decide)) (fun h => absurd h (by decide)) _ _ no_nums)
    · split at h
      · cases h
      · rename_i c hop
        cases h
        intro x hx
        rcases List.mem_append.1 hx with hx | hx
        · exact hc x hx
        · rw [List.mem_singleton.1 hx]; exact opV_okc hop
  have hm : ∀ (n : Int), n = 1 ∨ n = 2 ∨ n = 3 → Okc { kc 2 with n := n } := fun n hn => show Okc ⟨2, n, 0, false, [], [], [], [], [], [], []⟩ from
    okc_small (by decide) ⟨by omega, by omega⟩ (by decide) (by decide) (by decide) (by decide) (by decide) (fun h => absurd h (by decide)) (fun _ => hn) _ _ no_nums
  have hmode : ∀ {t : List UInt8} {m : Int} {l : List C}, m = 1 ∨ m = 2 ∨ m = 3 → modeV t m = .ok l → ∀ c ∈ l, Okc c := by
    intro t m l hmm h
    unfold modeV at h
    split at h
    · cases h; exact one _ (hm m hmm)
    · exact hrest h (one _ (hm m hmm))
  have hk : ∀ (k : Int) (on : Bool) (t : List UInt8), k = 1 ∨ k = 3 ∨ k = 4 ∨ k = 5 → t.length ≤ 1000000 → Okc { kc k with on := on, t := t } := fun k on t h1 h2 => show Okc ⟨k, 0, 0, on, t, [], [], [], [], [], []⟩ from
    okc_small (by omega) (by decide) (by decide) h2 (by omega) (by omega) (by omega) (fun h => by omega) (fun h => by omega) _ _ no_nums
  unfold plainV at h
  repeat' split at h
  all_goals first
    | (cases h; exact one _ (hk _ _ _ (by decide) (by decide)))
    | (cases h; exact one _ (hk _ _ _ (by decide) (by rw [List.length_drop]; omega)))
    | exact hmode (by decide) h
    | exact hrest h (fun c hc => absurd hc (by simp))
    | cases h
theorem nums_bd : ∀ (f : Nat) (s : List UInt8) (acc l : List Int), numsV f s acc = some l → (∀ v ∈ acc, -1000000000000 < v ∧ v < 1000000000000) → ∀ v ∈ l, -1000000000000 < v ∧ v < 1000000000000
  | 0, s, acc, l, h, h1 => by cases h; exact h1
  | f + 1, s, acc, l, h, h1 => by
    unfold numsV at h
    split at h
    · cases h
    · rename_i v hv
      have h2 : ∀ x ∈ acc ++ [v], -1000000000000 < x ∧ x < 1000000000000 := fun x hx => by
        rcases List.mem_append.1 hx with hx | hx
        · exact h1 x hx
        · rw [List.mem_singleton.1 hx]; exact dec_bd hv
      split at h
      · exact nums_bd f _ _ l h h2
      · cases h; exact h2
theorem countA_bd {t : List UInt8} {n : Nat} {r : List UInt8} (h : aperV.countA t = some (n, r)) : n ≤ 9999 := by
  unfold aperV.countA at h
  split at h
  · cases h
  · rename_i hn; cases h; exact codeV_bd hn
theorem cutB_fst (c : UInt8) (s : List UInt8) : (cutB c s).1.length ≤ s.length := by
  unfold cutB
  split
  · rename_i h; exact Nat.le_of_lt h
  · exact Nat.le_refl _
theorem aperV_okc {t : List UInt8} {c : C} (ht : t.length ≤ 1000000) (h : aperV t = some c) : Okc c := by
  unfold aperV at h
  split at h
  · cases h
  · split at h
    · cases h
    · rename_i n r hn
      have h1 := countA_len hn
      have h2 := countA_bd hn
      rw [List.length_drop] at h1
      have h3 := cutB_fst 44 r
      split at h
      · cases h
      · split at h
        · cases h
          exact okc_small (by decide) ⟨by omega, by omega⟩ (by decide) (by omega) (by decide) (by decide) (by decide) (fun h => absurd h (by decide)) (fun h => absurd h (by decide)) _ _ no_nums
        · split at h
          · cases h
          · rename_i l hl
            cases h
            exact okc_small (by decide) ⟨by omega, by omega⟩ (by decide) (by omega) (by decide) (by decide) (by decide) (fun h => absurd h (by decide)) (fun h => absurd h (by decide)) _ _ (nums_bd _ _ _ _ hl no_nums)
theorem digit_bd {t : List UInt8} (h : nd t = 2) : 48 ≤ (t.headD 0).toNat ∧ (t.headD 0).toNat ≤ 57 := by
  cases t with
  | nil => cases h
  | cons c t =>
    have := take_nd (c :: t) 1 (by omega) c (by simp)
    simp only [isD, Bool.and_eq_true, decide_eq_true_eq] at this
    exact this
theorem digit_bd2 {t : List UInt8} (h : nd t = 2) : 48 ≤ ((t.drop 1).headD 0).toNat ∧ ((t.drop 1).headD 0).toNat ≤ 57 := by
  cases t with
  | nil => cases h
  | cons c t =>
    cases t with
    | nil => 
      exfalso
      unfold nd at h
      have := (List.takeWhile_sublist isD (l := [c])).length_le
      simp only [List.length_cons, List.length_nil] at this
      omega
    | cons d t =>
      have := take_nd (c :: d :: t) 2 (by omega) d (by simp)
      simp only [isD, Bool.and_eq_true, decide_eq_true_eq] at this
      exact this
theorem twoV_okc {t : List UInt8} {c : C} (ht : t.length ≤ 1000000) (h : twoV t = some c) : Okc c := by
  have hd : (t.drop 2).length ≤ 1000000 := by rw [List.length_drop]; omega
  unfold twoV at h
  split at h
  · unfold formatV at h
    split at h
    · cases h
    · rename_i hf
      cases h
      have h2 : nd ((t.drop 2).drop 3) = 2 := by
        by_cases e : nd ((t.drop 2).drop 3) = 2
        · exact e
        · exact absurd (.inr (.inr (.inr (.inl e)))) hf
      have d1 := digit_bd h2
      have d2 := digit_bd2 h2
      have d2 : 48 ≤ (((t.drop 2).drop 4).headD 0).toNat ∧ (((t.drop 2).drop 4).headD 0).toNat ≤ 57 := by rw [List.drop_drop] at d2; exact d2
      refine okc_small (by decide) ⟨?_, ?_⟩ ⟨?_, ?_⟩ (by decide) (by decide) (by decide) (by decide) (fun h => absurd h (by decide)) (fun h => absurd h (by decide)) _ _ no_nums <;> omega
  · split at h
    · exact aperV_okc hd h
    · split at h
      · unfold blkV at h
        split at h
        · cases h
        · split at h
          · cases h
          · rename_i n hn
            cases h
            have := codeV_bd hn
            exact okc_small (by decide) ⟨by omega, by omega⟩ (by decide) (by decide) (by decide) (by decide) (by decide) (fun h => absurd h (by decide)) (fun h => absurd h (by decide)) _ _ no_nums
      · split at h
        · unfold Gp.stepG at h
          split at h
          · cases h
          · split at h
            · rename_i n m x y hn hm hx hy
              cases h
              have b1 := countG_bd hn
              have b2 := countG_bd hm
              refine ⟨by show (1 : Int) ≤ 13; decide, by show (13 : Int) ≤ 19; decide, by show (0 : Int) ≤ (n : Int); omega, by show (n : Int) ≤ 9999; omega, by show (0 : Int) ≤ (m : Int); omega, by show (m : Int) ≤ 9999; omega, by show 0 ≤ 1000000; decide, by show 0 ≤ 13; decide, by show 0 ≤ 13; decide, by show 0 ≤ 13; decide, by show 0 ≤ 13; decide, fun v hv => ?_, fun _ => rfl, fun h => absurd h (by show ¬ (13 : Int) = 17; decide), fun h => absurd h (by show ¬ (13 : Int) = 7; decide), fun h => absurd h (by show ¬ (13 : Int) = 9; decide), fun h => absurd h (by show ¬ (13 : Int) = 2; decide)⟩
              simp only [List.mem_cons, List.not_mem_nil, or_false] at hv
              rcases hv with rfl | rfl
              · exact dec_bd hx
              · exact dec_bd hy
            · cases h
        · split at h
          · unfold turnV at h
            split at h
            · cases h
            · rename_i v hv
              cases h
              refine ⟨by show (1 : Int) ≤ 17; decide, by show (17 : Int) ≤ 19; decide, by show (0 : Int) ≤ 0; decide, by show (0 : Int) ≤ 9999; decide, by show (0 : Int) ≤ 0; decide, by show (0 : Int) ≤ 9999; decide, by show 0 ≤ 1000000; decide, by show 0 ≤ 13; decide, by show 0 ≤ 13; decide, by show 0 ≤ 13; decide, by show 0 ≤ 13; decide, fun x hx => ?_, fun h => absurd h (by show ¬ (17 : Int) = 13; decide), fun _ => rfl, fun h => absurd h (by show ¬ (17 : Int) = 7; decide), fun h => absurd h (by show ¬ (17 : Int) = 9; decide), fun h => absurd h (by show ¬ (17 : Int) = 2; decide)⟩
              rw [List.mem_singleton.1 hx]
              exact dec_bd hv
          · split at h
            · cases h
              exact okc_small (by decide) (by decide) (by decide) ht (by decide) (by decide) (by decide) (fun h => absurd h (by decide)) (fun h => absurd h (by decide)) _ _ no_nums
            · cases h
theorem fixed_okc : ∀ p ∈ fixedG, Okc p.2 := by
  intro p hp
  have h : ∀ p ∈ fixedG, ∃ k n on, p.2 = ⟨k, n, 0, on, [], [], [], [], [], [], []⟩ ∧ (1 ≤ k ∧ k ≤ 19) ∧ (0 ≤ n ∧ n ≤ 9999) ∧ k ≠ 13 ∧ k ≠ 17 ∧ k ≠ 7 ∧ (k = 9 → n = 1 ∨ n = 2) ∧ k ≠ 2 := by
    intro p hp
    simp only [fixedG, List.mem_cons, List.not_mem_nil, or_false] at hp
    rcases hp with rfl | rfl | rfl | rfl | rfl | rfl | rfl | rfl | rfl | rfl <;> exact ⟨_, _, _, rfl, by decide⟩
  obtain ⟨k, n, on, e, h1, h2, h3, h4, h5, h6, h7⟩ := h p hp
  rw [e]
  exact okc_small h1 h2 (by decide) (by decide) h3 h4 h5 h6 (fun h => absurd h h7) _ _ no_nums
theorem extV_okc {t : List UInt8} {c : C} (ht : t.length ≤ 1000000) (h : extV t = .ok c) : Okc c := by
  unfold extV at h
  split at h
  · cases h
  · split at h
    · rename_i c2 hc
      cases h
      obtain ⟨p, hp, rfl⟩ := lookup_mem _ _ _ hc
      exact fixed_okc p hp
    · split at h
      · cases h
      · rename_i c2 hc
        cases h
        exact twoV_okc ht hc
theorem cmdsW_okc {w : Wd} {ws : List Wd} {l : List C} (hw : w.t.length ≤ 1000000) (h : cmdsW w ws = .ok l) : ∀ c ∈ l, Okc c := by
  unfold cmdsW at h
  split at h
  · unfold groupV at h
    split at h
    · split at h
      · cases h
      · rename_i c hc
        split at h
        · cases h
          intro x hx
          rw [List.mem_singleton.1 hx]
          exact extV_okc hw hc
        · cases h
    · split at h
      · cases h
      · split at h
        split at h
        · cases h
        · cases h
          intro x hx
          rw [List.mem_singleton.1 hx]
          exact okc_small (by decide) (by decide) (by decide) (by rw [List.length_drop]; omega) (by decide) (by decide) (by decide) (fun h => absurd h (by decide)) (fun h => absurd h (by decide)) _ _ no_nums
  · split at h
    · cases h
    · rename_i l2 hl
      cases h
      exact plainV_okc hw hl
theorem goG_all (P : C → Prop) (A : Nat → Prop) (hP : ∀ (w : Wd) (ws : List Wd) (l : List C), w.t.length ≤ 1000000 → cmdsW w ws = .ok l → ∀ c ∈ l, P c) : ∀ (f : Nat) (ws : List Wd) (acc l : List (Nat × C)), goG f ws acc = .ok l → (∀ x ∈ ws, x.t.length ≤ 1000000 ∧ A x.a) → (∀ x ∈ acc, P x.2 ∧ A x.1) → ∀ x ∈ l, P x.2 ∧ A x.1
  | 0, ws, acc, l, h, h1, h2 => by unfold goG at h; cases h; exact h2
  | f + 1, [], acc, l, h, h1, h2 => by unfold goG at h; cases h; exact h2
  | f + 1, w :: ws, acc, l, h, h1, h2 => by
    unfold goG at h
    split at h
    · cases h
    · rename_i l2 hl
      have h4 := hP _ _ _ (h1 w (by simp)).1 hl
      exact goG_all P A hP f _ _ l h (fun x hx => h1 x (List.mem_cons_of_mem _ ((List.dropWhile_sublist _).subset hx))) (fun x hx => by
        rcases List.mem_append.1 hx with hx | hx
        · exact h2 x hx
        · obtain ⟨c, hc, rfl⟩ := List.mem_map.1 hx
          exact ⟨h4 c hc, (h1 w (by simp)).2⟩)
theorem parseG_all (P : C → Prop) (A : Nat → Prop) (hP : ∀ (w : Wd) (ws : List Wd) (l : List C), w.t.length ≤ 1000000 → cmdsW w ws = .ok l → ∀ c ∈ l, P c) {s : List UInt8} {l : List (Nat × C)} {i e : Nat} (h : parseG s = (l, i, e)) (hA : ∀ ws i e, wordsV s = (ws, i, e) → ∀ x ∈ ws, A x.a) : ∀ x ∈ l, P x.2 ∧ A x.1 := by
  have hnil : ∀ x ∈ ([] : List (Nat × C)), P x.2 ∧ A x.1 := fun x hx => absurd hx (by simp)
  unfold parseG at h
  split at h
  rename_i ws i1 e1 hw
  split at h
  · cases h; exact hnil
  · rename_i he
    have e0 : e1 = 0 := Decidable.of_not_not he
    subst e0
    have hi : i1 = 0 := by
      unfold wordsV at hw
      split at hw
      · simp at hw
      · split at hw
        · rename_i hg
          simp only [Prod.mk.injEq] at hw
          exact absurd hw.2.2 (goW_er hg)
        · split at hw
          · simp at hw
          · simp only [Prod.mk.injEq] at hw; exact hw.2.1.symm
    subst hi
    obtain ⟨w1, w2⟩ := wordsV_len hw
    split at h
    · cases h; exact hnil
    · rename_i l2 hl
      cases h
      exact goG_all P A hP _ _ _ _ hl (fun x hx => ⟨w2 x hx, hA _ _ _ hw x hx⟩) (fun x hx => absurd hx (by simp))
/-- What was read is like this. -/
theorem parseG_okc {s : List UInt8} {l : List (Nat × C)} {i e : Nat} (h : parseG s = (l, i, e)) : ∀ x ∈ l, Okc x.2 := fun x hx =>
  (parseG_all Okc (fun _ => True) (fun _ _ _ => cmdsW_okc) h (fun _ _ _ _ _ _ => trivial) x hx).1
end Go.Proofs.YtglmofeeggjemaaGreatDoor.GW
