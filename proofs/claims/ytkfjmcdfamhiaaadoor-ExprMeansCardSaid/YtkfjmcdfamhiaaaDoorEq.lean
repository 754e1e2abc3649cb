/-
  Plain: what is read is of the grammar; what is told is of the grammar; how long and how deep (12.2, 12.4). No program in sight.
-/
import Derived.Test.YtkfjmcdfamhiaaaDoorEp
namespace Go.Proofs.YtkfjmcdfamhiaaaDoor.Ep
open Go.Proofs.YtkfjmcdfamhiaaaDoor.Dp
open Go.Lib (decDigits nDigits)

theorem hd_cons {r : List UInt8} (h : r ≠ []) : r = hd r :: r.drop 1 := by
  cases r with
  | nil => exact absurd rfl h
  | cons c r => rfl
theorem strip_lit {u : List UInt8} (h : hd u = 46 ∨ isD (hd u) = true) (hne : u ≠ []) : strip u = (false, u) := by
  cases u with
  | nil => exact absurd rfl hne
  | cons c u =>
    rcases h with h | h
    · have : c = 46 := h
      subst this
      rfl
    · exact strip_digit h u
theorem num_sound {u : List UInt8} {n : Int} (h : hd u = 46 ∨ isD (hd u) = true) (hne : u ≠ []) (hn : dec u = some n) : ∃ m : Nat, n = (m : Int) ∧ NumLit u := by
  unfold dec at hn
  rw [strip_lit h hne] at hn
  cases hu : decU u with
  | none => rw [hu] at hn; cases hn
  | some m =>
    rw [hu] at hn
    simp at hn
    exact ⟨m, hn.symm, hne, decU_form hu⟩
theorem hd_take {r : List UInt8} {k : Nat} (hk : 0 < k) : hd (r.take k) = hd r := by
  cases r with
  | nil => simp
  | cons c r =>
    obtain ⟨k, rfl⟩ : ∃ j, k = j + 1 := ⟨k - 1, by omega⟩
    rfl
theorem numLen_pos {r : List UInt8} (h : hd r = 46 ∨ isD (hd r) = true) : 0 < numLen r := by
  unfold numLen
  cases r with
  | nil => rcases h with h | h <;> (revert h; decide)
  | cons c r =>
    by_cases hd1 : isD c = true
    · have : 0 < nd (c :: r) := by rw [nd_cons, if_pos hd1]; omega
      split <;> omega
    · have h46 : c = 46 := by
        rcases h with h | h
        · exact h
        · exact absurd h hd1
      subst h46
      have : nd (46 :: r) = 0 := nd_point r
      rw [this]
      rw [if_pos (show hd (List.drop 0 (46 :: r)) = 46 from rfl)]
      omega
theorem leaf_sound {st : St} (h : (leafV st).e = 0) : ∃ u t, st.r = u ++ (leafV st).r ∧ (leafV st).ops = st.ops ++ opsT t ∧ ∀ d, G 0 d u t := by
  unfold leafV at h ⊢
  by_cases h36 : hd st.r = 36
  · rw [if_pos h36] at h ⊢
    unfold varV at h ⊢
    split at h
    · cases h
    · rename_i hc
      rw [if_neg hc]
      have hne : st.r ≠ [] := by intro e; rw [e] at h36; revert h36; decide
      have hr := hd_cons hne
      rw [h36] at hr
      generalize st.r.drop 1 = x at hc hr
      refine ⟨36 :: x.take (nd x), .var (varN (x.take (nd x))), ?_, rfl, fun d => .var (take_nd x _ (Nat.le_refl _)) rfl (by omega) (by omega) ?_⟩
      · rw [hr, List.cons_append, List.take_append_drop]
      · intro h0
        apply hc
        right; right
        by_cases hx : nd x = 0
        · rw [hx, List.take_zero] at h0; exact absurd h0 (by decide)
        · rw [hd_take (by omega)] at h0; exact h0
  · rw [if_neg h36] at h ⊢
    by_cases hn : (hd st.r == 46 || isD (hd st.r)) = true
    · rw [if_pos hn] at h ⊢
      have hlit : hd st.r = 46 ∨ isD (hd st.r) = true := by simpa using hn
      unfold numV at h ⊢
      cases hdec : dec (st.r.take (numLen st.r)) with
      | none => rw [hdec] at h; cases h
      | some n =>
        simp only
        have hp := numLen_pos hlit
        have hne : st.r.take (numLen st.r) ≠ [] := by
          intro e
          have h1 := hd_take (r := st.r) hp
          rw [e] at h1
          rw [← h1] at hlit
          rcases hlit with h | h <;> (revert h; decide)
        obtain ⟨m, rfl, hl⟩ := num_sound (by rw [hd_take hp]; exact hlit) hne hdec
        exact ⟨st.r.take (numLen st.r), .num m, (List.take_append_drop _ _).symm, rfl, fun d => .num hl hdec⟩
    · rw [if_neg hn] at h; cases h

theorem put_e {st : St} {k n : Int} (h : (put st k n).e = 0) : st.e = 0 ∧ (put st k n).ops = st.ops ++ [(k, n)] := by
  unfold put at h ⊢
  split
  · rename_i he; exact ⟨he, rfl⟩
  · rename_i he; rw [if_neg he] at h; exact absurd h he
theorem loop_sound {op : UInt8 → Option Nat} (h0 : op 0 = none) {f : St → St} {lc lf d : Nat} (hf : ∀ st, (f st).e = 0 → ∃ v b, st.r = v ++ (f st).r ∧ (f st).ops = st.ops ++ opsT b ∧ G lf d v b)
    (hc : ∀ {u v : List UInt8} {c : UInt8} {k : Nat} {a b : T}, G lc d u a → G lf d v b → op c = some k → G lc d (u ++ c :: v) (.bin k a b)) :
    ∀ (k : Nat) (st : St) (u r0 : List UInt8) (a : T) (ops0 : List (Int × Int)), r0 = u ++ st.r → st.ops = ops0 ++ opsT a → G lc d u a → (loopV op f k st).e = 0 →
      ∃ u' t, r0 = u' ++ (loopV op f k st).r ∧ (loopV op f k st).ops = ops0 ++ opsT t ∧ G lc d u' t
  | 0, st, u, r0, a, ops0, h1, h2, h3, _ => ⟨u, a, h1, h2, h3⟩
  | k + 1, st, u, r0, a, ops0, h1, h2, h3, he => by
    rw [loopV] at he ⊢
    by_cases hz : st.e = 0
    · rw [if_pos hz] at he ⊢
      cases hq : op (hd st.r) with
      | none => exact ⟨u, a, h1, h2, h3⟩
      | some q =>
        rw [hq] at he
        simp only at he ⊢
        have hr := hd_cons (op_ne h0 hq)
        have hpe : (put (f ⟨st.r.drop 1, st.ops, 0⟩) q 0).e = 0 := by
          apply Classical.byContradiction
          intro hn
          rw [loop_stop _ (fun h => absurd h hn)] at he
          exact hn he
        obtain ⟨hfe, hpo⟩ := put_e hpe
        obtain ⟨v, b, g1, g2, g3⟩ := hf _ hfe
        refine loop_sound h0 hf hc k _ (u ++ hd st.r :: v) r0 (.bin q a b) ops0 ?_ ?_ (hc h3 g3 hq) he
        · rw [put_r, h1, hr, List.append_assoc]
          congr 1
          rw [List.cons_append]
          congr 1
        · rw [hpo, g2, h2]
          simp [opsT]
    · rw [if_neg hz] at he
      exact absurd he hz
theorem prod_sound {d : Nat} {f : St → St} (hf : ∀ st, (f st).e = 0 → ∃ v b, st.r = v ++ (f st).r ∧ (f st).ops = st.ops ++ opsT b ∧ G 0 d v b) (st : St) (h : (prodV f st).e = 0) :
    ∃ v b, st.r = v ++ (prodV f st).r ∧ (prodV f st).ops = st.ops ++ opsT b ∧ G 1 d v b := by
  have hfe : (f st).e = 0 := by
    apply Classical.byContradiction
    intro hn
    unfold prodV at h
    rw [loop_stop _ (fun h => absurd h hn)] at h
    exact hn h
  obtain ⟨v, b, g1, g2, g3⟩ := hf st hfe
  exact loop_sound rfl hf (fun h1 h2 h3 => .pop h1 h2 h3) _ (f st) v st.r b st.ops g1 g2 (.pone g3) h
theorem sum_sound {d : Nat} {f : St → St} (hf : ∀ st, (f st).e = 0 → ∃ v b, st.r = v ++ (f st).r ∧ (f st).ops = st.ops ++ opsT b ∧ G 0 d v b) (st : St) (h : (sumV f st).e = 0) :
    ∃ v b, st.r = v ++ (sumV f st).r ∧ (sumV f st).ops = st.ops ++ opsT b ∧ G 2 d v b := by
  have hfe : (prodV f st).e = 0 := by
    apply Classical.byContradiction
    intro hn
    unfold sumV at h
    rw [loop_stop _ (fun h => absurd h hn)] at h
    exact hn h
  obtain ⟨v, b, g1, g2, g3⟩ := prod_sound hf st hfe
  exact loop_sound rfl (prod_sound hf) (fun h1 h2 h3 => .sop h1 h2 h3) _ (prodV f st) v st.r b st.ops g1 g2 (.sone g3) h
theorem sign_cases {c : UInt8} (h : isSign c = true) : c = 43 ∨ c = 45 ∨ c = 40 := by
  unfold isSign at h
  simp at h
  rcases h with (h | h) | h
  · exact .inl h
  · exact .inr (.inl h)
  · exact .inr (.inr h)
/-- What is read is of the grammar. -/
theorem factor_sound : ∀ (d : Nat) (st : St), (factorV d st).e = 0 → ∃ u t, st.r = u ++ (factorV d st).r ∧ (factorV d st).ops = st.ops ++ opsT t ∧ G 0 d u t
  | 0, st, h => by
    rw [factorV] at h ⊢
    split at h
    · cases h
    · rename_i hs
      rw [if_neg hs]
      obtain ⟨u, t, h1, h2, h3⟩ := leaf_sound h
      exact ⟨u, t, h1, h2, h3 0⟩
  | d + 1, st, h => by
    rw [factorV] at h ⊢
    by_cases hs : isSign (hd st.r) = true
    · rw [if_pos hs] at h ⊢
      have hne : st.r ≠ [] := by intro e; rw [e] at hs; revert hs; decide
      have hr := hd_cons hne
      generalize st.r.drop 1 = x at h hr ⊢
      unfold innerV at h ⊢
      rcases sign_cases hs with hc | hc | hc
      · rw [hc] at h hr ⊢
        rw [if_neg (by decide), if_neg (by decide)] at h ⊢
        obtain ⟨u, t, h1, h2, h3⟩ := factor_sound d _ h
        exact ⟨43 :: u, t, by rw [hr, List.cons_append]; congr 1, h2, .plus h3⟩
      · rw [hc] at h hr ⊢
        rw [if_neg (by decide), if_pos rfl] at h ⊢
        obtain ⟨he, hp⟩ := put_e h
        obtain ⟨u, t, h1, h2, h3⟩ := factor_sound d _ he
        refine ⟨45 :: u, .neg t, by rw [hr, put_r, List.cons_append]; congr 1, ?_, .neg h3⟩
        rw [hp, h2]; simp [opsT]
      · rw [hc] at h hr ⊢
        rw [if_pos rfl] at h ⊢
        have hss := sum_sound (factor_sound d) ⟨x, st.ops, st.e⟩
        generalize sumV (factorV d) ⟨x, st.ops, st.e⟩ = s1 at h hss ⊢
        unfold shutV at h ⊢
        by_cases he : s1.e = 0
        · rw [if_pos he] at h ⊢
          by_cases h41 : hd s1.r = 41
          · rw [if_pos h41] at h ⊢
            obtain ⟨u, t, h1, h2, h3⟩ := hss he
            have hne2 : s1.r ≠ [] := by intro e; rw [e] at h41; revert h41; decide
            have hr2 := hd_cons hne2
            rw [h41] at hr2
            refine ⟨40 :: (u ++ [41]), t, ?_, h2, .par h3⟩
            have h1' : x = u ++ s1.r := h1
            show st.r = 40 :: (u ++ [41]) ++ s1.r.drop 1
            rw [hr, List.cons_append, List.append_assoc, h1']
            congr 2
          · rw [if_neg h41] at h; cases h
        · rw [if_neg he] at h; exact absurd h he
    · rw [if_neg hs] at h ⊢
      obtain ⟨u, t, h1, h2, h3⟩ := leaf_sound h
      exact ⟨u, t, h1, h2, h3 _⟩
theorem parse_sound {s : List UInt8} {l : List (Int × Int)} {at0 : Nat} (h : parseV s = (l, at0, 0)) : ∃ t, l = opsT t ∧ G 2 30 s t ∧ s.length ≤ 300 := by
  unfold parseV at h
  split at h
  · simp at h
  · rename_i hs
    split at h
    · rename_i he
      have hz : (runV s).e = 0 ∧ (runV s).r = [] := by
        unfold endV at he
        split at he
        · rename_i h0
          split at he
          · rename_i h1; exact ⟨h0, h1⟩
          · cases he
        · rename_i h0; exact absurd he h0
      obtain ⟨u, t, h1, h2, h3⟩ := sum_sound (factor_sound 30) ⟨s, [], 0⟩ hz.1
      have hr : (sumV (factorV 30) ⟨s, [], 0⟩).r = [] := hz.2
      rw [hr, List.append_nil] at h1
      have h1' : s = u := h1
      subst h1'
      injection h with h _
      refine ⟨t, ?_, h3, by omega⟩
      rw [← h]
      show (sumV (factorV 30) ⟨s, [], 0⟩).ops = _
      rw [h2]; rfl
    · rename_i he
      simp at h
      exact absurd h.2.2 he
end Go.Proofs.YtkfjmcdfamhiaaaDoor.Ep
