/-
  Plain: the commands that are read are small. No program in sight.
-/
import Derived.Test.YtglmofeeggjemaaGreatDoorIc
import Derived.Test.YtglmofeeggjemaaGreatDoorIe
import Derived.Test.YtglmofeeggjemaaGreatDoorK1
set_option linter.unusedVariables false
namespace Go.Proofs.YtglmofeeggjemaaGreatDoor.GW
open Go.RowKit Go.Proofs.YtglmofeeggjemaaGreatDoor.Base Go.Proofs.YtglmofeeggjemaaGreatDoor.Dp Go.Proofs.YtglmofeeggjemaaGreatDoor.DeciW Go.Proofs.YtglmofeeggjemaaGreatDoor.Mem Go.Proofs.YtglmofeeggjemaaGreatDoor.RdW Go.Proofs.YtglmofeeggjemaaGreatDoor.Gp

theorem G_len {k d : Nat} {s : List UInt8} {t : Ep.T} (h : Ep.G k d s t) : (Ep.opsT t).length ≤ s.length := by
  induction h with
  | num h1 h2 =>
    have := List.length_pos_iff.2 h1.1
    exact this
  | var _ _ _ _ _ => exact Nat.succ_le_succ (Nat.zero_le _)
  | plus _ ih => exact Nat.le_succ_of_le ih
  | neg _ ih => simp only [Ep.opsT, List.length_append, List.length_cons, List.length_nil]; omega
  | par _ ih => simp only [List.length_append, List.length_cons, List.length_nil]; omega
  | pone _ ih => exact ih
  | pop _ _ _ ih1 ih2 => simp only [Ep.opsT, List.length_append, List.length_cons, List.length_nil]; omega
  | sone _ ih => exact ih
  | sop _ _ _ ih1 ih2 => simp only [Ep.opsT, List.length_append, List.length_cons, List.length_nil]; omega
theorem parseV_len {s : List UInt8} {l : List (Int × Int)} {a e : Nat} (h : Ep.parseV s = (l, a, e)) (he : ¬ e ≠ 0) : l.length ≤ 300 := by
  have e0 : e = 0 := Decidable.of_not_not he
  subst e0
  obtain ⟨t, h1, h2, h3⟩ := Ep.parse_sound h
  rw [h1]
  exact Nat.le_trans (G_len h2) h3
theorem bvar_fin {s : List UInt8} {b : Blk} (h : bvarV s = .ok b) : finB b := by
  unfold bvarV at h
  split at h
  · cases h
  · split at h
    · cases h
    · split at h
      rename_i l a e hp
      split at h
      · cases h
      · rename_i he
        cases h
        refine ⟨(by show 1 ≤ 1000000000; decide), fun x hx => ?_⟩
        rw [List.mem_singleton.1 hx]
        exact Nat.le_trans (parseV_len hp he) (by decide)
theorem args_fin : ∀ (f : Nat) (s : List UInt8) (acc l : List (List (Int × Int))), argsV f s acc = .ok l → acc.length ≤ 1100 → (∀ a ∈ acc, a.length ≤ 300) → l.length ≤ 1100 ∧ ∀ a ∈ l, a.length ≤ 300
  | 0, s, acc, l, h, h1, h2 => by cases h; exact ⟨h1, h2⟩
  | f + 1, s, acc, l, h, h1, h2 => by
    unfold argsV at h
    split at h
    · cases h
    · rename_i hn
      split at h
      rename_i l1 a e hp
      split at h
      · cases h
      · rename_i he
        have h3 : (acc ++ [l1]).length ≤ 1100 := by rw [List.length_append, List.length_singleton]; omega
        have h4 : ∀ a ∈ acc ++ [l1], a.length ≤ 300 := fun a ha => by
          rcases List.mem_append.1 ha with ha | ha
          · exact h2 a ha
          · rw [List.mem_singleton.1 ha]; exact parseV_len hp he
        split at h
        · exact args_fin f _ _ l h h3 h4
        · cases h; exact ⟨h3, h4⟩
theorem bprim_fin {s : List UInt8} {b : Blk} (h : bprimV s = .ok b) : finB b := by
  unfold bprimV at h
  split at h
  · cases h
  · split at h
    · cases h
    · split at h
      · cases h
      · split at h
        · cases h
        · rename_i l hl
          split at h
          · cases h
            obtain ⟨h1, h2⟩ := args_fin _ _ _ _ hl (by decide) (fun a ha => absurd ha (by simp))
            exact ⟨Nat.le_trans h1 (by decide), fun a ha => Nat.le_trans (h2 a ha) (by decide)⟩
          · cases h
theorem block_fin {s : List UInt8} {b : Blk} (h : blockV s = .ok b) : finB b := by
  unfold blockV at h
  split at h
  · cases h; exact ⟨by decide, fun a ha => absurd ha (by simp [b0])⟩
  · split at h
    · cases h; exact ⟨(by show 0 ≤ 1000000000; decide), fun a ha => absurd ha (by simp [b0])⟩
    · split at h
      · exact bvar_fin h
      · exact bprim_fin h
theorem blocksN_fin : ∀ (l : List (List UInt8)) (i : Nat) (acc r : List Blk), blocksN l i acc = .ok r → (∀ b ∈ acc, finB b) → r.length = acc.length + l.length ∧ ∀ b ∈ r, finB b
  | [], i, acc, r, h, h1 => by cases h; exact ⟨rfl, h1⟩
  | s :: l, i, acc, r, h, h1 => by
    unfold blocksN at h
    split at h
    · cases h
    · rename_i b hb
      obtain ⟨h2, h3⟩ := blocksN_fin l _ _ r h (fun x hx => by
        rcases List.mem_append.1 hx with hx | hx
        · exact h1 x hx
        · rw [List.mem_singleton.1 hx]; exact block_fin hb)
      refine ⟨?_, h3⟩
      rw [h2, List.length_append, List.length_singleton, List.length_cons]
      omega
theorem blocksV_fin {l : List (List UInt8)} {b : List Blk} {i e : Nat} (h : blocksV l = (b, i, e)) : b.length ≤ 500 ∧ ∀ x ∈ b, finB x := by
  unfold blocksV at h
  split at h
  · cases h; exact ⟨by decide, fun x hx => absurd hx (by simp)⟩
  · rename_i hl
    split at h
    · cases h; exact ⟨by decide, fun x hx => absurd hx (by simp)⟩
    · rename_i b1 hb
      cases h
      obtain ⟨h1, h2⟩ := blocksN_fin _ _ _ _ hb (fun x hx => absurd hx (by simp))
      rw [List.length_nil] at h1
      exact ⟨by omega, h2⟩
/-- A command with few numbers and without blocks. -/
def Few (c : C) : Prop := c.nums.length ≤ 10000000 ∧ c.blocks = []
theorem Few.fin {c : C} (h : Few c) : finC c := ⟨Nat.le_trans h.1 (by decide), by rw [h.2]; decide, by rw [h.2]; exact fun b hb => absurd hb (by simp)⟩
theorem few_kc (c : C) (h1 : c.nums = []) (h2 : c.blocks = []) : Few c := ⟨by rw [h1]; decide, h2⟩
theorem opV_few {t : List UInt8} {c : C} (h : opV t = some c) : Few c := by
  unfold opV at h
  dsimp only at h
  split at h
  · cases h
  · cases h; exact few_kc _ rfl rfl
theorem plainV_few {t : List UInt8} {l : List C} (h : plainV t = .ok l) : ∀ c ∈ l, Few c := by
  have one : ∀ c : C, c.nums = [] → c.blocks = [] → ∀ x ∈ [c], Few x := fun c h1 h2 x hx => by rw [List.mem_singleton.1 hx]; exact few_kc _ h1 h2
  have hrest : ∀ {t : List UInt8} {cs l : List C}, restV t cs = .ok l → (∀ c ∈ cs, Few c) → ∀ c ∈ l, Few c := by
    intro t cs l h hc
    unfold restV at h
    split at h
    · cases h; exact one _ rfl rfl
    · split at h
      · cases h
      · rename_i c hop
        cases h
        intro x hx
        rcases List.mem_append.1 hx with hx | hx
        · exact hc x hx
        · rw [List.mem_singleton.1 hx]; exact opV_few hop
  have hmode : ∀ {t : List UInt8} {m : Int} {l : List C}, modeV t m = .ok l → ∀ c ∈ l, Few c := by
    intro t m l h
    unfold modeV at h
    split at h
    · cases h; exact one _ rfl rfl
    · exact hrest h (one _ rfl rfl)
  unfold plainV at h
  repeat' split at h
  all_goals first | exact hmode h | exact hrest h (fun c hc => absurd hc (by simp)) | (cases h; exact one _ rfl rfl) | cases h
theorem nums_len : ∀ (f : Nat) (s : List UInt8) (acc l : List Int), numsV f s acc = some l → l.length ≤ acc.length + f
  | 0, s, acc, l, h => by cases h; exact Nat.le_refl _
  | f + 1, s, acc, l, h => by
    unfold numsV at h
    split at h
    · cases h
    · split at h
      · have := nums_len f _ _ l h
        rw [List.length_append, List.length_singleton] at this
        omega
      · cases h
        rw [List.length_append, List.length_singleton]
        omega
theorem countA_len {t : List UInt8} {n : Nat} {r : List UInt8} (h : aperV.countA t = some (n, r)) : r.length ≤ t.length := by
  unfold aperV.countA at h
  split at h
  · cases h
  · cases h; rw [List.length_drop]; omega
theorem cutB_len (c : UInt8) (s : List UInt8) : (cutB c s).2.1.length ≤ s.length := by
  unfold cutB
  split
  · show (s.drop _).length ≤ _
    rw [List.length_drop]; omega
  · exact Nat.zero_le _
theorem aperV_few {t : List UInt8} {c : C} (ht : t.length ≤ 1000000) (h : aperV t = some c) : Few c := by
  unfold aperV at h
  split at h
  · cases h
  · split at h
    · cases h
    · rename_i n r hn
      have h1 := countA_len hn
      rw [List.length_drop] at h1
      split at h
      · cases h
      · split at h
        · cases h; exact few_kc _ rfl rfl
        · split at h
          · cases h
          · rename_i l hl
            cases h
            have h2 := nums_len _ _ _ _ hl
            refine ⟨?_, rfl⟩
            show l.length ≤ _
            rw [List.length_nil] at h2
            omega
theorem twoV_few {t : List UInt8} {c : C} (ht : t.length ≤ 1000000) (h : twoV t = some c) : Few c := by
  have hd : (t.drop 2).length ≤ 1000000 := by rw [List.length_drop]; omega
  unfold twoV at h
  split at h
  · unfold formatV at h
    split at h
    · cases h
    · cases h; exact few_kc _ rfl rfl
  · split at h
    · exact aperV_few hd h
    · split at h
      · unfold blkV at h
        split at h
        · cases h
        · split at h
          · cases h
          · cases h; exact few_kc _ rfl rfl
      · split at h
        · unfold Gp.stepG at h
          split at h
          · cases h
          · split at h
            · cases h; exact ⟨(Nat.le_of_ble_eq_true rfl), rfl⟩
            · cases h
        · split at h
          · unfold turnV at h
            split at h
            · cases h
            · cases h; exact ⟨(Nat.le_of_ble_eq_true rfl), rfl⟩
          · split at h
            · cases h; exact few_kc _ rfl rfl
            · cases h
theorem fixed_few : ∀ p ∈ fixedG, Few p.2 := by
  intro p hp
  have h : ∀ p ∈ fixedG, p.2.nums = [] ∧ p.2.blocks = [] := by decide
  exact few_kc _ (h p hp).1 (h p hp).2
theorem lookup_mem {α : Type} : ∀ (l : List (List UInt8 × α)) (k : List UInt8) (v : α), l.lookup k = some v → ∃ p ∈ l, p.2 = v
  | [], k, v, h => by cases h
  | (a, b) :: l, k, v, h => by
    rw [List.lookup_cons] at h
    split at h
    · cases h; exact ⟨_, List.mem_cons_self .., rfl⟩
    · obtain ⟨p, hp, e⟩ := lookup_mem l k v h
      exact ⟨p, List.mem_cons_of_mem _ hp, e⟩
theorem extV_few {t : List UInt8} {c : C} (ht : t.length ≤ 1000000) (h : extV t = .ok c) : Few c := by
  unfold extV at h
  split at h
  · cases h
  · split at h
    · rename_i c2 hc
      cases h
      obtain ⟨p, hp, rfl⟩ := lookup_mem _ _ _ hc
      exact fixed_few p hp
    · split at h
      · cases h
      · rename_i c2 hc
        cases h
        exact twoV_few ht hc
theorem cmdsW_fin {w : Wd} {ws : List Wd} {l : List C} (hw : w.t.length ≤ 1000000) (h : cmdsW w ws = .ok l) : ∀ c ∈ l, finC c := by
  unfold cmdsW at h
  split at h
  · unfold groupV at h
    split at h
    · split at h
      · cases h
      · rename_i c hc
        split at h
        · cases h
          intro x hx
          rw [List.mem_singleton.1 hx]
          exact (extV_few hw hc).fin
        · cases h
    · split at h
      · cases h
      · split at h
        rename_i b i e hb
        split at h
        · cases h
        · cases h
          intro x hx
          rw [List.mem_singleton.1 hx]
          obtain ⟨h1, h2⟩ := blocksV_fin hb
          exact ⟨(Nat.le_of_ble_eq_true rfl), Nat.le_trans h1 (by decide), h2⟩
  · split at h
    · cases h
    · rename_i l2 hl
      cases h
      exact fun c hc => (plainV_few hl c hc).fin
theorem goG_fin : ∀ (f : Nat) (ws : List Wd) (acc l : List (Nat × C)), goG f ws acc = .ok l → (∀ x ∈ ws, x.t.length ≤ 1000000) → (∀ x ∈ acc, finC x.2) → l.length ≤ acc.length + 2 * f ∧ ∀ x ∈ l, finC x.2
  | 0, ws, acc, l, h, h1, h2 => by unfold goG at h; cases h; exact ⟨by omega, h2⟩
  | f + 1, [], acc, l, h, h1, h2 => by unfold goG at h; cases h; exact ⟨by omega, h2⟩
  | f + 1, w :: ws, acc, l, h, h1, h2 => by
    unfold goG at h
    split at h
    · cases h
    · rename_i l2 hl
      have h3 := cmdsW_len hl
      have h4 := cmdsW_fin (h1 w (by simp)) hl
      obtain ⟨g1, g2⟩ := goG_fin f _ _ l h (fun x hx => h1 x (List.mem_cons_of_mem _ ((List.dropWhile_sublist _).subset hx))) (fun x hx => by
        rcases List.mem_append.1 hx with hx | hx
        · exact h2 x hx
        · obtain ⟨c, hc, rfl⟩ := List.mem_map.1 hx
          exact h4 c hc)
      refine ⟨?_, g2⟩
      rw [List.length_append, List.length_map] at g1
      omega
/-- The commands that are read are small. -/
theorem parseG_fin {s : List UInt8} {l : List (Nat × C)} {i e : Nat} (h : parseG s = (l, i, e)) : l.length ≤ 2000000 ∧ ∀ x ∈ l, finC x.2 := by
  have hnil : ([] : List (Nat × C)).length ≤ 2000000 ∧ ∀ x ∈ ([] : List (Nat × C)), finC x.2 := ⟨by decide, fun x hx => absurd hx (by simp)⟩
  unfold parseG at h
  split at h
  rename_i ws i1 e1 hw
  split at h
  · cases h; exact hnil
  · rename_i he
    have e0 : e1 = 0 := Decidable.of_not_not he
    subst e0
    have hi : i1 = 0 := by
      unfold wordsV at hw
      split at hw
      · simp at hw
      · split at hw
        · rename_i hg
          simp only [Prod.mk.injEq] at hw
          exact absurd hw.2.2 (goW_er hg)
        · split at hw
          · simp at hw
          · simp only [Prod.mk.injEq] at hw; exact hw.2.1.symm
    subst hi
    obtain ⟨w1, w2⟩ := wordsV_len hw
    split at h
    · cases h; exact hnil
    · rename_i l2 hl
      cases h
      obtain ⟨g1, g2⟩ := goG_fin _ _ _ _ hl w2 (fun x hx => absurd hx (by simp))
      rw [List.length_nil] at g1
      exact ⟨by omega, g2⟩
end Go.Proofs.YtglmofeeggjemaaGreatDoor.GW
