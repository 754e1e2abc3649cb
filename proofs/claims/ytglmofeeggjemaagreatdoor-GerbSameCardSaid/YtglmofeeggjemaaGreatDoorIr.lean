/-
  Commands appended to commands; the place of an error is within the text; slices of integers that come in.
-/
import Derived.Test.YtglmofeeggjemaaGreatDoorIq
import Derived.Test.YtglmofeeggjemaaGreatDoorIh
import Derived.Test.YtglmofeeggjemaaGreatDoorK4
import Derived.Laws.OwnMore
import Derived.ProofKit
set_option linter.unusedVariables false
namespace Go.Proofs.YtglmofeeggjemaaGreatDoor.GW
open Go.ChangeShapes Go.WideShapes Go.ChangeAt
open Go.RowKit Go.Proofs.YtglmofeeggjemaaGreatDoor.Base Go.Proofs.YtglmofeeggjemaaGreatDoor.Dp Go.Proofs.YtglmofeeggjemaaGreatDoor.DeciW Go.Proofs.YtglmofeeggjemaaGreatDoor.Mem Go.Proofs.YtglmofeeggjemaaGreatDoor.RdW Go.Proofs.YtglmofeeggjemaaGreatDoor.Gp

theorem RowsAt.mono {B D : Nat} {w : World} {l : List (Nat × C)} {xs : List Value} (h : RowsAt B w l xs) (hD : D ≤ B) : RowsAt D w l xs :=
  h.imp (fun _ _ hn => hn.mono hD) (fun _ _ hn => hn.mono hD)
theorem CmdsAt.mono {B D : Nat} {w : World} {v : Value} {l : List (Nat × C)} (h : CmdsAt B w v l) (hD : D ≤ B) : CmdsAt D w v l := by
  obtain ⟨xs, ⟨h1, h2⟩, hr⟩ := h
  refine ⟨xs, ⟨h1, ?_⟩, hr.mono hD⟩
  rcases h2 with h2 | ⟨g, c, cur, h1, h2, h3⟩
  · exact .inl h2
  · exact .inr ⟨g, c, cur, h1, Nat.le_trans hD h2, h3⟩
theorem row_mono {B D : Nat} {w : World} {e : TypeId} {sz n : Nat} {v : Value} {xs : List Value} (h : w.ownsRow B e sz v n xs) (hD : D ≤ B) : w.ownsRow D e sz v n xs := by
  obtain ⟨h1, h2⟩ := h
  refine ⟨h1, ?_⟩
  rcases h2 with h2 | ⟨g, c, cur, h1, h2, h3⟩
  · exact .inl h2
  · exact .inr ⟨g, c, cur, h1, Nat.le_trans hD h2, h3⟩
theorem RowsAt.one {B : Nat} {w : World} {l : List (Nat × C)} {xs : List Value} (h : RowsAt B w l xs) : ∀ u ∈ xs, u.oneCell' = true := by
  induction h with
  | nil => exact fun u hu => absurd hu (by simp)
  | cons _ _ _ ih =>
    intro u hu
    rcases List.mem_append.1 hu with hu | hu
    · simp only [cmCells, List.mem_cons, List.not_mem_nil, or_false] at hu
      rcases hu with rfl | rfl | rfl | rfl | rfl | rfl | rfl | rfl | rfl | rfl | rfl | rfl <;> rfl
    · exact ih u hu
/-- Commands appended to a row of the walk's own. -/
theorem wpList_append_cmds {B : Nat} {W w : World} {ops : Array Oper} {rest : List Oper} {o : Oper} {a : Act} {Q : Exit → Act → World → Prop} (hw : Region.wanted o (yielded ops a.tmps) = true) (s x : Operand)
    (ho : o.op = .call { callee := .builtin .append, args := #[s, x], argTypes := #[23, 23] })
    (v : Value) (l m : List (Nat × C)) (xs : List Value) (hs : a.eval s = v) (hW : Below W.heap.size W w) (hown : w.ownsRow W.heap.size 32 12 v l.length xs) (hr : RowsAt B W l xs)
    (vx : Value) (hx : a.eval x = vx) (hc : CmdsAt B W vx m) (hn : l.length + m.length ≤ 100000000)
    (h : ∀ v' w' zs, w'.ownsRow W.heap.size 32 12 v' (l ++ m).length zs → RowsAt B W (l ++ m) zs → Below W.heap.size W w' → wpList Tryz.prog ops Q rest (a.put o.dst v') w') : wpList Tryz.prog ops Q (o :: rest) a w := by
  obtain ⟨i0, hi0, hz0, hz1, hz2⟩ := info_parts info_cm
  obtain ⟨ys, hy, hry⟩ := hc
  have hly := hy.1
  have e2 : (l ++ m).length = l.length + m.length := List.length_append
  rcases hy.2 with ⟨h1, h2⟩ | ⟨g, c, cur, h1, h2, h3, h4, h5, h6, h7⟩
  · have hm : m = [] := List.length_eq_zero_iff.1 h2
    subst hm
    refine wpList_step fun K hK => ?_
    rw [if_pos hw]
    have hrun := run_append_owned_none (P := Tryz.prog) (w := w) W.heap.size 23 o.type 32 i0 12 Tryz.underlying23 hi0 v l.length xs hown
    unfold Oper.wp
    simp [execOp, ho, resolve, invoke, builtin, hs, hx, h1, hrun, Result.andThen]
    refine hK _ _ (h v w xs ?_ ?_ hW)
    · rw [List.append_nil]; exact hown
    · rw [List.append_nil]; exact hr
  · have hg : w.heap[g]? = some (.cells cur 32) := one_below h3 hW
    refine wpList_step fun K hK => ?_
    rw [if_pos hw]
    refine wp_append_own w s x 23 ho W.heap.size 32 i0 _ 12 168 Tryz.underlying23 hi0 hz0 hz1 hz2 rfl (by decide) v l.length xs hs hown ⟨g, 0, none⟩ m.length c ys (by rw [hx, h1]) hly (fun j u hu => ?_) hry.one (by unfold maxLen; omega) (by omega) hW.size ?_
    · have hadd : (⟨g, 0, none⟩ : Addr).add j = ⟨g, j, none⟩ := by unfold Addr.add; split <;> simp_all
      rw [hadd]
      have hj : j < m.length * 12 := by
        rw [← hly]
        exact (List.getElem?_eq_some_iff.1 hu).1
      rw [← h7, List.getElem?_take_of_lt hj, Array.getElem?_toList] at hu
      simp only [World.cell?, hg]
      exact hu
    · intro v' w' hown' hgrow' _
      refine hK _ _ (h v' w' (xs ++ ys) ?_ (hr.append hry) (hW.grown hgrow' hW.size (fun k hk => (hown.lt k hk).1)))
      rw [e2]
      exact hown'

/-! ### The place of an error -/
def AtOk (M : Nat) (s : Ws) : Prop := (∀ x ∈ s.words, x.a ≤ M) ∧ s.a ≤ M
theorem takeW_at {s s' : Ws} {c : UInt8} {i M : Nat} (h : takeW s c i = .ok s') (hs : AtOk M s) (hi : i ≤ M) : AtOk M s' := by
  unfold takeW at h
  split at h
  · cases h; exact hs
  · split at h
    · cases h
    · split at h
      · unfold endW at h
        split at h
        · cases h
        · cases h
          refine ⟨fun x hx => ?_, hs.2⟩
          rcases List.mem_append.1 hx with hx | hx
          · exact hs.1 x hx
          · rw [List.mem_singleton.1 hx]; exact hs.2
      · split at h
        · split at h
          · cases h
          · cases h; exact hs
        · have hadd : ∀ {s s' : Ws}, addW s c = .ok s' → AtOk M s → AtOk M s' := by
            intro s s' h hs
            unfold addW at h
            split at h
            · cases h
            · cases h; exact hs
          split at h
          · split at h
            · cases h
            · exact hadd h ⟨hs.1, hi⟩
          · exact hadd h hs
theorem goW_place : ∀ (l : List UInt8) (k : Nat) (s : Ws) (M : Nat), k + l.length ≤ M → AtOk M s → (∀ s', goW l k s = .ok s' → AtOk M s') ∧ (∀ i e, goW l k s = .error (i, e) → i ≤ M)
  | [], k, s, M, hk, hs => ⟨fun s' h => by cases h; exact hs, fun i e h => by cases h⟩
  | c :: l, k, s, M, hk, hs => by
    rw [List.length_cons] at hk
    refine ⟨fun s' h => ?_, fun i e h => ?_⟩
    · unfold goW at h
      split at h
      · cases h
      · rename_i s2 h2
        exact (goW_place l (k + 1) s2 M (by omega) (takeW_at h2 hs (by omega))).1 _ h
    · unfold goW at h
      split at h
      · cases h; omega
      · rename_i s2 h2
        exact (goW_place l (k + 1) s2 M (by omega) (takeW_at h2 hs (by omega))).2 _ _ h
theorem wordsV_at {s : List UInt8} {ws : List Wd} {i e : Nat} (h : wordsV s = (ws, i, e)) : (∀ x ∈ ws, x.a ≤ s.length) ∧ i ≤ s.length := by
  have hnil : ∀ x ∈ ([] : List Wd), x.a ≤ s.length := fun x hx => absurd hx (by simp)
  have hg := goW_place s 0 ws0 s.length (by omega) ⟨fun x hx => absurd hx (by simp [ws0]), Nat.zero_le _⟩
  unfold wordsV at h
  split at h
  · cases h; exact ⟨hnil, Nat.zero_le _⟩
  · split at h
    · rename_i i1 e1 h1
      cases h; exact ⟨hnil, hg.2 _ _ h1⟩
    · rename_i st h1
      split at h
      · cases h; exact ⟨hnil, Nat.le_refl _⟩
      · cases h; exact ⟨(hg.1 _ h1).1, Nat.zero_le _⟩
theorem getD_at {ws : List Wd} {M : Nat} (h : ∀ x ∈ ws, x.a ≤ M) (i : Nat) : ((ws.map Wd.a)[i]?).getD 0 ≤ M := by
  rcases Nat.lt_or_ge i (ws.map Wd.a).length with hi | hi
  · rw [List.getElem?_eq_getElem hi]
    show (ws.map Wd.a)[i] ≤ M
    rw [List.getElem_map]
    exact h _ (List.getElem_mem _)
  · rw [List.getElem?_eq_none hi]
    exact Nat.zero_le _
theorem cmdsW_at {w : Wd} {ws : List Wd} {i e M : Nat} (h : cmdsW w ws = .error (i, e)) (hw : w.a ≤ M) (hs : ∀ x ∈ ws, x.a ≤ M) : i ≤ M := by
  unfold cmdsW at h
  split at h
  · unfold groupV at h
    split at h
    · split at h
      · cases h; exact hw
      · split at h
        · cases h
        · cases h; exact hs _ (by simp)
    · split at h
      · cases h; exact hw
      · split at h
        split at h
        · cases h; exact getD_at hs _
        · cases h
  · split at h
    · cases h; exact hw
    · cases h
theorem goG_at : ∀ (f : Nat) (ws : List Wd) (acc : List (Nat × C)) (i e M : Nat), goG f ws acc = .error (i, e) → (∀ x ∈ ws, x.a ≤ M) → i ≤ M
  | 0, ws, acc, i, e, M, h, h1 => by unfold goG at h; cases h
  | f + 1, [], acc, i, e, M, h, h1 => by unfold goG at h; cases h
  | f + 1, w :: ws, acc, i, e, M, h, h1 => by
    unfold goG at h
    split at h
    · rename_i p hp
      cases h
      exact cmdsW_at hp (h1 w (by simp)) (fun x hx => h1 x (List.mem_cons_of_mem _ ((List.takeWhile_sublist _).subset hx)))
    · exact goG_at f _ _ i e M h (fun x hx => h1 x (List.mem_cons_of_mem _ ((List.dropWhile_sublist _).subset hx)))
/-- An error's place is within the text. -/
theorem parseG_at {s : List UInt8} {l : List (Nat × C)} {i e : Nat} (h : parseG s = (l, i, e)) : i ≤ s.length := by
  unfold parseG at h
  split at h
  rename_i ws i1 e1 hw
  obtain ⟨h1, h2⟩ := wordsV_at hw
  split at h
  · cases h; exact h2
  · split at h
    · rename_i i2 e2 hg
      cases h
      exact goG_at _ _ _ _ _ _ hg h1
    · cases h; exact Nat.zero_le _

theorem cell_lt {w : World} {a : Addr} {u : Value} (h : w.cell? a = some u) : a.block < w.heap.size := by
  rcases Nat.lt_or_ge a.block w.heap.size with h' | h'
  · exact h'
  · simp [World.cell?, Array.getElem?_eq_none h'] at h
theorem open_zs {H : Type} {enc : TypeId × Value → H} {P : Program} {r : Reach} {b0 : Nat} {t e : TypeId} (ht : P.underlying t = some (.slice e)) (he : P.underlying e = some (.int .i64)) (hc : P.cellsOf e = 1) {W : World} {v : Value} {d : DataW H} {p : List MemPlace}
    (hv : Value.okWide P W r b0 t v) (h : DataW.Trod enc P W 0 (fun _ => true) true t v d p) :
    ∃ (a : Option Addr) (cap : Nat) (l : List Int), v = .slice a l.length cap ∧ l.length ≤ cap ∧ cap ≤ maxLen ∧ Zs W a l := by
  obtain ⟨a, len, cap, rfl⟩ := okWide_slice ht hv
  obtain ⟨fuel, hf⟩ := h
  have hcl : (Value.slice a len cap).cells.toList = [.slice a len cap] := by simp [Value.cells]
  rw [hcl] at hf
  rcases open_ints ht he hc hf with ⟨hcs, _⟩ | ⟨a', len', cap', zs, hcs, _, hl, hm, hz, _, hcell, hwz⟩
  · simp only [List.cons.injEq, and_true] at hcs
    exact ⟨none, 0, [], hcs, Nat.le_refl _, Nat.zero_le _, fun h => absurd h (Nat.lt_irrefl _)⟩
  · simp only [List.cons.injEq, and_true] at hcs
    simp only [if_true] at hz
    have hlen : (zs.take len').length = len' := by simp; omega
    refine ⟨some a', cap', zs.take len', by rw [hlen]; exact hcs, by omega, hm, fun h0 => ?_⟩
    have hci : ∀ i (h : i < (zs.take len').length), W.cell? (a'.add i) = some (.int .i64 (zs.take len')[i]) := by
      intro i h
      rw [hcell i (by omega)]
      have : i < zs.length := by omega
      simp [List.getD, this]
    obtain ⟨b, o, q⟩ := a'
    cases q with
    | none => exact ⟨b, o, rfl, by have := cell_lt (hci 0 h0); simpa [Addr.add] using this, fun i h => by
        have := hci i h
        by_cases h0 : i = 0
        · subst h0; simpa [Addr.add] using this
        · simpa [Addr.add, h0] using this⟩
    | some q => 
      exfalso
      have := hci 0 h0
      simp only [World.cell?, Addr.add, if_true] at this
      split at this <;> simp at this
end Go.Proofs.YtglmofeeggjemaaGreatDoor.GW
