/-
  What the walk of gerb's Parse needs: where an append's row lies; commands read; words in a row of cells; how long words are; lists of words.
-/
import Derived.Test.YtglmofeeggjemaaGreatDoorIa
set_option linter.unusedVariables false
namespace Go.Proofs.YtglmofeeggjemaaGreatDoor.GW
open Go.RowKit Go.Proofs.YtglmofeeggjemaaGreatDoor.Base Go.Proofs.YtglmofeeggjemaaGreatDoor.Dp Go.Proofs.YtglmofeeggjemaaGreatDoor.DeciW Go.Proofs.YtglmofeeggjemaaGreatDoor.Mem Go.Proofs.YtglmofeeggjemaaGreatDoor.RdW Go.Proofs.YtglmofeeggjemaaGreatDoor.Gp

/-! ### Where the row lies -/
theorem append_where {P : Program} {w v' : _} {w' : World} {base : Nat} {t ty e : TypeId} {i : TypeInfo} {z : Value} (ht : P.underlying t = some (.slice e)) (hi : P.info? e = some i) (hz : i.zero = some z)
    {v : Value} {n : Nat} {xs : List Value} (hown : World.ownsRow w base e i.size v n xs) {a : Addr} {c : Nat} {news : List Value} (hl : news.length = 1 * i.size) (hnews : ∀ j u, news[j]? = some u → w.cell? (a.add j) = some u) (h1 : ∀ u ∈ news, u.oneCell' = true)
    (h63 : n + 1 ≤ maxLen) (hbytes : (n + 1) * i.bytes ≤ 140737488355328)
    (hr : (Builtin.append_ #[t, t] ty #[v, .slice (some a) 1 c]).run P w = .ok v' w') : v'.ownBlock = v.ownBlock ∨ v'.ownBlock = some w.heap.size := by
  have hs : n + 1 ≤ 9223372036854775807 := by simp only [maxLen] at h63; omega
  rcases hown.2 with ⟨rfl, rfl⟩ | ⟨g, cap, cur, rfl, hbg, hg, hnc, hcm, hcs, htake⟩
  · rw [run_append_nil (P := P) w t ty e i z ht hi hz a 1 c news hl hnews (by omega) (by omega) (by simp only [Nat.zero_add] at hbytes; omega)] at hr
    injection hr with e1 _
    rw [← e1]
    exact .inr rfl
  · by_cases hroom : n + 1 ≤ cap
    · rw [run_append_room (P := P) w t ty e i ht hi g n cap cur hg a 1 c news hl hnews h1 hroom (by rw [hl, hcs, ← Nat.add_mul]; exact Nat.mul_le_mul_right _ hroom)] at hr
      injection hr with e1 _
      rw [← e1]
      exact .inl rfl
    · rw [run_append_grow (P := P) w t ty e i z ht hi hz ⟨g, 0, none⟩ n cap xs hown.1 (hown.cells (g := g) rfl) a 1 c news hl hnews (by omega) (by omega) (growslice_fits (by omega) hbytes)] at hr
      injection hr with e1 _
      rw [← e1]
      exact .inr rfl
theorem wpList_append_where {P : Program} {w : World} {ops : Array Oper} {rest : List Oper} {o : Oper} {a : Act} {Q : Exit → Act → World → Prop} (hgd : o.guard = none) (s x : Operand) (t : TypeId)
    (ho : o.op = .call { callee := .builtin .append, args := #[s, x], argTypes := #[t, t] })
    (base : Nat) (e : TypeId) (i : TypeInfo) (z : Value) (size bytes : Nat) (ht : P.underlying t = some (.slice e)) (hi : P.info? e = some i) (hz : i.zero = some z)
    (hsize : i.size = size) (hby : i.bytes = bytes) (hzs : z.cells.size = size) (hsz : 0 < size)
    (v : Value) (n : Nat) (xs : List Value) (hs : a.eval s = v) (hown : w.ownsRow base e size v n xs)
    (ad : Addr) (m c : Nat) (hm : m = 1) (news : List Value) (hx : a.eval x = .slice (some ad) m c) (hl : news.length = m * size) (hnews : ∀ j u, news[j]? = some u → w.cell? (ad.add j) = some u) (h1 : ∀ u ∈ news, u.oneCell' = true)
    (h63 : n + m ≤ maxLen) (hbytes : (n + m) * bytes ≤ 140737488355328) (hbase : base ≤ w.heap.size)
    (h : ∀ v' w', w'.ownsRow base e size v' (n + m) (xs ++ news) → w.grownBy w' v.ownBlock → (v'.ownBlock = v.ownBlock ∨ v'.ownBlock = some w.heap.size) → wpList P ops Q rest (a.put o.dst v') w') : wpList P ops Q (o :: rest) a w := by
  obtain ⟨v', w', hr, h2, h3, _⟩ := run_append_own (P := P) w base t o.type e i z size bytes ht hi hz hsize hby hzs hsz v n xs hown ad m c news hl hnews h1 h63 hbytes hbase
  subst hsize
  subst hby
  subst hm
  have hw := append_where (P := P) ht hi hz hown hl hnews h1 h63 hbytes hr
  refine wpList_plain hgd fun _ hK => ?_
  unfold Oper.wp execOp
  simp only [ho, resolve, invoke, builtin, Sem.run_bind, Sem.run_pure, Result.andThen_ok, List.map_toArray, List.map_cons, List.map_nil, hs, hx, hr]
  exact hK _ _ (h v' w' h2 h3 hw)

/-! ### Commands read -/
/-- A command's twelve cells. -/
def CmAt (w : World) (b o : Nat) (c : C) (a : Int) (nv bv : Value) : Prop :=
  w.cell? ⟨b, o, none⟩ = some (.int .i64 a) ∧ w.cell? ⟨b, o + 1, none⟩ = some (.int .i64 c.k) ∧ w.cell? ⟨b, o + 2, none⟩ = some (.int .i64 c.n) ∧ w.cell? ⟨b, o + 3, none⟩ = some (.int .i64 c.m) ∧ w.cell? ⟨b, o + 4, none⟩ = some (.bool c.on) ∧ w.cell? ⟨b, o + 5, none⟩ = some (.string ⟨c.t.toArray⟩) ∧ w.cell? ⟨b, o + 6, none⟩ = some (.string ⟨c.x.toArray⟩) ∧ w.cell? ⟨b, o + 7, none⟩ = some (.string ⟨c.y.toArray⟩) ∧ w.cell? ⟨b, o + 8, none⟩ = some (.string ⟨c.i.toArray⟩) ∧ w.cell? ⟨b, o + 9, none⟩ = some (.string ⟨c.j.toArray⟩) ∧ w.cell? ⟨b, o + 10, none⟩ = some nv ∧ w.cell? ⟨b, o + 11, none⟩ = some bv
theorem cells12 (c : C) (a : Int) (nv bv : Value) (j : Nat) (h : j < 12) : (cmCells c a nv bv).toList[j]? = (cmCells c a nv bv)[j]? := Array.getElem?_toList ..
theorem RowsAt.get {B : Nat} {w : World} {l : List (Nat × C)} {xs : List Value} (h : RowsAt B w l xs) : ∀ (i : Nat) (hi : i < l.length), ∃ p q k m, (∀ j, j < 12 → xs[i * 12 + j]? = (cmCells l[i].2 (l[i].1 : Int) (.slice p l[i].2.nums.length k) (.slice q l[i].2.blocks.length m))[j]?) ∧ NumsIn B w p l[i].2.nums ∧ BlksIn B w q l[i].2.blocks := by
  induction h with
  | nil => exact fun i hi => absurd hi (Nat.not_lt_zero _)
  | @cons x l p q k m xs a b _ ih =>
    intro i hi
    cases i with
    | zero =>
      refine ⟨p, q, k, m, fun j hj => ?_, a, b⟩
      rw [List.getElem?_append_left (by show _ < 12; omega), Nat.zero_mul, Nat.zero_add, Array.getElem?_toList]
      rfl
    | succ i =>
      obtain ⟨p, q, k, m, h1, h2, h3⟩ := ih i (Nat.lt_of_succ_lt_succ hi)
      refine ⟨p, q, k, m, fun j hj => ?_, h2, h3⟩
      rw [List.getElem?_append_right (by show 12 ≤ _; omega), show (i + 1) * 12 + j - _ = i * 12 + j from by show (i + 1) * 12 + j - 12 = _; omega]
      exact h1 j hj
/-- Commands in memory, read. -/
def ReadC (B : Nat) (w : World) (p : Option Addr) (l : List (Nat × C)) : Prop := 0 < l.length → ∃ b o cur, p = some ⟨b, o, none⟩ ∧ B ≤ b ∧ w.heap[b]? = some (.cells cur 32) ∧ ∀ (i : Nat) (hi : i < l.length), ∃ q r k m, (∀ j, j < 12 → cur[o + i * 12 + j]? = (cmCells l[i].2 (l[i].1 : Int) (.slice q l[i].2.nums.length k) (.slice r l[i].2.blocks.length m))[j]?) ∧ NumsIn B w q l[i].2.nums ∧ BlksIn B w r l[i].2.blocks
theorem cmds_read {B : Nat} {w : World} {v : Value} {l : List (Nat × C)} (h : CmdsAt B w v l) : ∃ p c, v = .slice p l.length c ∧ ReadC B w p l := by
  obtain ⟨xs, hx, hr⟩ := h
  rcases hx.2 with ⟨h1, h2⟩ | ⟨g, c, cur, h1, h2, h3, h4, h5, h6, h7⟩
  · exact ⟨none, 0, by rw [h1, h2], fun hl => absurd hl (by omega)⟩
  · refine ⟨_, c, h1, fun hl => ⟨g, 0, cur, rfl, h2, h3, fun i hi => ?_⟩⟩
    obtain ⟨p, q, k, m, g1, g2, g3⟩ := hr.get i hi
    refine ⟨p, q, k, m, fun j hj => ?_, g2, g3⟩
    rw [Nat.zero_add, ← g1 j hj, ← h7, List.getElem?_take_of_lt (by omega), Array.getElem?_toList]
theorem cmAt_of {w : World} {b o : Nat} {cur : Array Value} {t : TypeId} {c : C} {a : Int} {nv bv : Value} (h : w.heap[b]? = some (.cells cur t)) (hc : ∀ j, j < 12 → cur[o + j]? = (cmCells c a nv bv)[j]?) : CmAt w b o c a nv bv := by
  have key : ∀ j, j < 12 → w.cell? ⟨b, o + j, none⟩ = (cmCells c a nv bv)[j]? := fun j hj => by rw [← hc j hj]; simp [World.cell?, h]
  exact ⟨key 0 (by decide), key 1 (by decide), key 2 (by decide), key 3 (by decide), key 4 (by decide), key 5 (by decide), key 6 (by decide), key 7 (by decide), key 8 (by decide), key 9 (by decide), key 10 (by decide), key 11 (by decide)⟩

/-! ### Words in a row of cells -/
def WdsC (cw : Array Value) (o : Nat) (l : List Wd) : Prop := ∀ i (hi : i < l.length), cw[o + i * 4]? = some (.int .i64 (l[i].a : Int)) ∧ cw[o + i * 4 + 1]? = some (.bool l[i].ext) ∧ cw[o + i * 4 + 2]? = some (.bool l[i].first) ∧ cw[o + i * 4 + 3]? = some (.string ⟨l[i].t.toArray⟩)
theorem wdsV_get (l : List Wd) (i : Nat) (hi : i < l.length) : (wdsV l)[i * 4]? = some (.int .i64 (l[i].a : Int)) ∧ (wdsV l)[i * 4 + 1]? = some (.bool l[i].ext) ∧ (wdsV l)[i * 4 + 2]? = some (.bool l[i].first) ∧ (wdsV l)[i * 4 + 3]? = some (.string ⟨l[i].t.toArray⟩) := by
  induction l generalizing i with
  | nil => exact absurd hi (Nat.not_lt_zero _)
  | cons x l ih =>
    have e : wdsV (x :: l) = [.int .i64 (x.a : Int), .bool x.ext, .bool x.first, .string ⟨x.t.toArray⟩] ++ wdsV l := rfl
    cases i with
    | zero => rw [e]; exact ⟨rfl, rfl, rfl, rfl⟩
    | succ i =>
      obtain ⟨h0, h1, h2, h3⟩ := ih i (Nat.lt_of_succ_lt_succ hi)
      rw [e]
      refine ⟨?_, ?_, ?_, ?_⟩
      · rw [show (i + 1) * 4 = i * 4 + 1 + 1 + 1 + 1 by omega]; exact h0
      · rw [show (i + 1) * 4 + 1 = (i * 4 + 1) + 1 + 1 + 1 + 1 by omega]; exact h1
      · rw [show (i + 1) * 4 + 2 = (i * 4 + 2) + 1 + 1 + 1 + 1 by omega]; exact h2
      · rw [show (i + 1) * 4 + 3 = (i * 4 + 3) + 1 + 1 + 1 + 1 by omega]; exact h3
theorem wds_row {w : World} {B : Nat} {v : Value} {l : List Wd} (h : w.ownsRow B 39 4 v l.length (wdsV l)) : ∃ p c g cw, v = .slice p l.length c ∧ l.length ≤ c ∧ c ≤ maxLen ∧ (0 < l.length → p = some ⟨g, 0, none⟩ ∧ w.heap[g]? = some (.cells cw 39) ∧ WdsC cw 0 l) := by
  rcases h.2 with ⟨h1, h2⟩ | ⟨g, c, cur, h1, h2, h3, h4, h5, h6, h7⟩
  · exact ⟨none, 0, 0, #[], by rw [h1, h2], by omega, by decide, fun hl => absurd hl (by omega)⟩
  · refine ⟨_, c, g, cur, h1, h4, h5, fun hl => ⟨rfl, h3, fun i hi => ?_⟩⟩
    have key : ∀ j, j < l.length * 4 → cur[j]? = (wdsV l)[j]? := fun j hj => by
      rw [← h7, List.getElem?_take_of_lt hj, Array.getElem?_toList]
    obtain ⟨g0, g1, g2, g3⟩ := wdsV_get l i hi
    rw [Nat.zero_add, key _ (by omega), key _ (by omega), key _ (by omega), key _ (by omega)]
    exact ⟨g0, g1, g2, g3⟩
theorem WdsC.wdsIn {w : World} {g o : Nat} {cw : Array Value} {l m : List Wd} (h : WdsC cw o l) (hg : w.heap[g]? = some (.cells cw 39)) (hm : m <+: l) : WdsIn w (some ⟨g, o, none⟩) m := by
  intro _
  refine ⟨g, o, rfl, (Array.getElem?_eq_some_iff.1 hg).1, fun i hi => ?_⟩
  obtain ⟨r, rfl⟩ := hm
  obtain ⟨h0, h1, h2, h3⟩ := h i (by rw [List.length_append]; omega)
  rw [List.getElem_append_left hi] at h0 h1 h2 h3
  simp only [World.cell?, hg]
  exact ⟨h0, h1, h2, h3⟩
theorem WdsC.drop {cw : Array Value} {o k : Nat} {l : List Wd} (h : WdsC cw o l) : WdsC cw (o + k * 4) (l.drop k) := by
  intro i hi
  rw [List.length_drop] at hi
  obtain ⟨h0, h1, h2, h3⟩ := h (k + i) (by omega)
  rw [List.getElem_drop, show o + k * 4 + i * 4 = o + (k + i) * 4 by omega]
  exact ⟨h0, h1, h2, h3⟩

/-! ### How long words are -/
theorem takeW_len {s s' : Ws} {c : UInt8} {i : Nat} (h : takeW s c i = .ok s') : s'.words.length ≤ s.words.length + 1 ∧ ∀ M, (∀ x ∈ s.words, x.t.length ≤ M) → s.text.length ≤ M → (∀ x ∈ s'.words, x.t.length ≤ M + 1) ∧ s'.text.length ≤ M + 1 := by
  have same : ∀ {u : Ws}, (.ok u : Except Nat Ws) = .ok s' → u.words = s.words → u.text.length ≤ s.text.length + 1 → s'.words.length ≤ s.words.length + 1 ∧ ∀ M, (∀ x ∈ s.words, x.t.length ≤ M) → s.text.length ≤ M → (∀ x ∈ s'.words, x.t.length ≤ M + 1) ∧ s'.text.length ≤ M + 1 := by
    intro u hu hw ht
    injection hu with hu
    subst hu
    rw [hw]
    exact ⟨Nat.le_succ _, fun M h1 h2 => ⟨fun x hx => Nat.le_succ_of_le (h1 x hx), by omega⟩⟩
  have add : ∀ {u : Ws}, addW u c = .ok s' → u.words = s.words → u.text = s.text → s'.words.length ≤ s.words.length + 1 ∧ ∀ M, (∀ x ∈ s.words, x.t.length ≤ M) → s.text.length ≤ M → (∀ x ∈ s'.words, x.t.length ≤ M + 1) ∧ s'.text.length ≤ M + 1 := by
    intro u hu hw ht
    unfold addW at hu
    split at hu
    · cases hu
    · exact same hu hw (by show (u.text ++ [c]).length ≤ _; rw [ht]; simp)
  unfold takeW at h
  split at h
  · exact same h rfl (by omega)
  · split at h
    · cases h
    · split at h
      · unfold endW at h
        split at h
        · cases h
        · injection h with h
          subst h
          refine ⟨by simp, fun M h1 h2 => ⟨fun x hx => ?_, by simp⟩⟩
          rcases List.mem_append.1 hx with hx | hx
          · exact Nat.le_succ_of_le (h1 x hx)
          · rw [List.mem_singleton.1 hx]; exact Nat.le_succ_of_le h2
      · split at h
        · split at h
          · cases h
          · exact same h rfl (by show s.text.length ≤ _; omega)
        · split at h
          · split at h
            · cases h
            · exact add h rfl rfl
          · exact add h rfl rfl
theorem goW_len : ∀ {l : List UInt8} {k : Nat} {s s' : Ws}, goW l k s = .ok s' → s'.words.length ≤ s.words.length + l.length ∧ ∀ M, (∀ x ∈ s.words, x.t.length ≤ M) → s.text.length ≤ M → (∀ x ∈ s'.words, x.t.length ≤ M + l.length)
  | [], k, s, s', h => by
    injection h with h
    subst h
    exact ⟨Nat.le_refl _, fun M h1 h2 => h1⟩
  | c :: l, k, s, s', h => by
    unfold goW at h
    split at h
    · cases h
    · rename_i u hu
      obtain ⟨g1, g2⟩ := takeW_len hu
      obtain ⟨e1, e2⟩ := goW_len h
      refine ⟨by rw [List.length_cons]; omega, fun M h1 h2 => ?_⟩
      obtain ⟨f1, f2⟩ := g2 M h1 h2
      intro x hx
      have := e2 (M + 1) f1 f2 x hx
      rw [List.length_cons]; omega
theorem wordsV_len {s : List UInt8} {ws : List Wd} (h : wordsV s = (ws, 0, 0)) : ws.length ≤ 1000000 ∧ ∀ x ∈ ws, x.t.length ≤ 1000000 := by
  unfold wordsV at h
  split at h
  · simp at h
  · rename_i hs
    split at h
    · rename_i i e hg
      simp only [Prod.mk.injEq] at h
      rw [← h.1]
      exact ⟨Nat.zero_le _, fun x hx => absurd hx (by simp)⟩
    · rename_i st hg
      split at h
      · simp at h
      · simp only [Prod.mk.injEq] at h
        obtain ⟨e1, e2⟩ := goW_len hg
        have e3 := e2 0 (fun x hx => absurd hx (by simp [ws0])) (Nat.le_refl _)
        rw [← h.1]
        have e4 : st.words.length ≤ 0 + s.length := e1
        exact ⟨by omega, fun x hx => by have := e3 x hx; omega⟩

/-! ### Commands of words -/
theorem plainV_ne {t : List UInt8} {n : Nat} (h : plainV t = .error n) : n ≠ 0 := by
  have hrest : ∀ {t : List UInt8} {cs : List C} {n : Nat}, restV t cs = .error n → n ≠ 0 := by
    intro t cs n h
    unfold restV at h
    split at h
    · cases h
    · split at h
      · cases h; decide
      · cases h
  have hmode : ∀ {t : List UInt8} {m : Int} {n : Nat}, modeV t m = .error n → n ≠ 0 := by
    intro t m n h
    unfold modeV at h
    split at h
    · cases h
    · exact hrest h
  unfold plainV at h
  repeat' split at h
  all_goals first | exact hmode h | exact hrest h | (cases h; decide) | cases h
theorem plainV_len {t : List UInt8} {l : List C} (h : plainV t = .ok l) : l.length ≤ 2 := by
  have hrest : ∀ {t : List UInt8} {cs l : List C}, restV t cs = .ok l → cs.length ≤ 1 → l.length ≤ 2 := by
    intro t cs l h hc
    unfold restV at h
    split at h
    · cases h; exact Nat.le_succ 1
    · split at h
      · cases h
      · cases h; rw [List.length_append]; simp only [List.length_singleton]; omega
  have hmode : ∀ {t : List UInt8} {m : Int} {l : List C}, modeV t m = .ok l → l.length ≤ 2 := by
    intro t m l h
    unfold modeV at h
    split at h
    · cases h; exact Nat.le_succ 1
    · exact hrest h (Nat.le_refl _)
  unfold plainV at h
  repeat' split at h
  all_goals first | exact hmode h | exact hrest h (by decide) | (cases h; exact Nat.le_succ 1) | cases h
theorem groupV_ne {w : Wd} {ws : List Wd} {i n : Nat} (h : groupV w ws = .error (i, n)) : n ≠ 0 := by
  unfold groupV at h
  split at h
  · split at h
    · rename_i h2
      cases h
      exact extV_ne h2
    · split at h
      · cases h
      · cases h; decide
  · split at h
    · cases h; decide
    · split at h
      split at h
      · rename_i h0
        cases h
        exact h0
      · cases h
theorem groupV_len {w : Wd} {ws : List Wd} {l : List C} (h : groupV w ws = .ok l) : l.length ≤ 2 := by
  unfold groupV at h
  split at h
  · split at h
    · cases h
    · split at h
      · cases h; exact Nat.le_succ 1
      · cases h
  · split at h
    · cases h
    · split at h
      split at h
      · cases h
      · cases h; exact Nat.le_succ 1
theorem cmdsW_ne {w : Wd} {ws : List Wd} {i n : Nat} (h : cmdsW w ws = .error (i, n)) : n ≠ 0 := by
  unfold cmdsW at h
  split at h
  · exact groupV_ne h
  · split at h
    · rename_i h2
      cases h
      exact plainV_ne h2
    · cases h
theorem cmdsW_len {w : Wd} {ws : List Wd} {l : List C} (h : cmdsW w ws = .ok l) : l.length ≤ 2 := by
  unfold cmdsW at h
  split at h
  · exact groupV_len h
  · split at h
    · cases h
    · rename_i h2
      cases h
      exact plainV_len h2
theorem tw_take (l : List Wd) : l.takeWhile (fun x => !x.first) = l.take (l.takeWhile fun x => !x.first).length := by
  induction l with
  | nil => rfl
  | cons a l ih =>
    by_cases h : a.first = true
    · rw [List.takeWhile_cons_of_neg (by simp [h])]; rfl
    · rw [List.takeWhile_cons_of_pos (by simp [h]), List.length_cons, List.take_succ_cons, ← ih]
theorem dw_drop (l : List Wd) : l.dropWhile (fun x => !x.first) = l.drop (l.takeWhile fun x => !x.first).length := by
  induction l with
  | nil => rfl
  | cons a l ih =>
    by_cases h : a.first = true
    · rw [List.takeWhile_cons_of_neg (by simp [h]), List.dropWhile_cons_of_neg (by simp [h])]; rfl
    · rw [List.takeWhile_cons_of_pos (by simp [h]), List.dropWhile_cons_of_pos (by simp [h]), List.length_cons, List.drop_succ_cons, ← ih]
theorem tw_at {l : List Wd} {k : Nat} (hk : k < (l.takeWhile fun x => !x.first).length) : ∃ h : k < l.length, l[k].first = false := by
  induction l generalizing k with
  | nil => exact absurd hk (by simp)
  | cons a l ih =>
    by_cases h : a.first = true
    · rw [List.takeWhile_cons_of_neg (by simp [h])] at hk; exact absurd hk (by simp)
    · rw [List.takeWhile_cons_of_pos (by simp [h])] at hk
      cases k with
      | zero => exact ⟨Nat.succ_pos _, by simpa using h⟩
      | succ k =>
        obtain ⟨h1, h2⟩ := ih (Nat.lt_of_succ_lt_succ hk)
        exact ⟨Nat.succ_lt_succ h1, h2⟩
theorem tw_end {l : List Wd} (h : (l.takeWhile fun x => !x.first).length < l.length) : l[(l.takeWhile fun x => !x.first).length].first = true := by
  induction l with
  | nil => exact absurd h (by simp)
  | cons a l ih =>
    by_cases hf : a.first = true
    · simp only [List.takeWhile_cons_of_neg (p := fun x : Wd => !x.first) (a := a) (l := l) (by simp [hf]), List.length_nil, List.getElem_cons_zero]
      exact hf
    · simp only [List.takeWhile_cons_of_pos (p := fun x : Wd => !x.first) (a := a) (l := l) (by simp [hf]), List.length_cons] at h ⊢
      exact ih (Nat.lt_of_succ_lt_succ h)
theorem tw_le (l : List Wd) : (l.takeWhile fun x => !x.first).length ≤ l.length := (List.takeWhile_sublist _).length_le
def goK : Except (Nat × Nat) (List (Nat × C)) → List (Nat × C) × Nat × Nat
  | .error (i, e) => ([], i, e)
  | .ok l => (l, 0, 0)
theorem goG_succ (f : Nat) (w : Wd) (ws : List Wd) (acc : List (Nat × C)) : goG (f + 1) (w :: ws) acc = match cmdsW w (ws.takeWhile fun x => !x.first) with
    | .error e => .error e
    | .ok l => goG f (ws.dropWhile fun x => !x.first) (acc ++ l.map fun c => (w.a, c)) := rfl
theorem goG_nil (f : Nat) (acc : List (Nat × C)) : goG f [] acc = .ok acc := by
  cases f <;> rfl
theorem parseG_K {s : List UInt8} {ws : List Wd} (h : wordsV s = (ws, 0, 0)) : parseG s = goK (goG ws.length ws []) := by
  unfold parseG
  rw [h]
  simp only []
  rw [if_neg (fun h => h rfl)]
  cases goG ws.length ws [] <;> rfl
theorem parseG_E {s : List UInt8} {ws : List Wd} {i e : Nat} (h : wordsV s = (ws, i, e)) (he : e ≠ 0) : parseG s = ([], i, e) := by
  unfold parseG
  rw [h]
  simp only []
  rw [if_pos he]
end Go.Proofs.YtglmofeeggjemaaGreatDoor.GW
