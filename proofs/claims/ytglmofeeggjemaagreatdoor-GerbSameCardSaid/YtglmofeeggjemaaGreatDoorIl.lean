/-
  Lines that are closed.
-/
import Derived.Test.YtglmofeeggjemaaGreatDoorIi
set_option linter.unusedVariables false
namespace Go.Proofs.YtglmofeeggjemaaGreatDoor.GW
open Go.RowKit Go.Proofs.YtglmofeeggjemaaGreatDoor.Base Go.Proofs.YtglmofeeggjemaaGreatDoor.Dp Go.Proofs.YtglmofeeggjemaaGreatDoor.DeciW Go.Proofs.YtglmofeeggjemaaGreatDoor.Mem Go.Proofs.YtglmofeeggjemaaGreatDoor.RdW Go.Proofs.YtglmofeeggjemaaGreatDoor.Gp

/-- A line of a file: closed, short. -/
def LineOk (S : ByteArray) : Prop := Closed S.data.toList ∧ S.data.toList.count 42 ≤ 15 ∧ S.size ≤ 3000
theorem ok_word {P R : ByteArray} {n : Nat} (h : TokS P n) (h0 : 1 ≤ P.size) (hn : n ≤ 2000) (hR : R.data.toList = P.data.toList ++ [42, 10]) : LineOk R := by
  have hne : P.data.toList ≠ [] := fun e => by
    have := len_list P
    rw [e] at this
    simp at this
    omega
  obtain ⟨g1, g2, g3⟩ := line_word h hne (by omega) hR
  exact ⟨g1, by omega, by rw [← len_list]; omega⟩
/-- A text that begins with a percent sign. -/
def PctS (S : ByteArray) (n : Nat) : Prop := ∃ p, S.data.toList = 37 :: p ∧ Tok p ∧ p ≠ [] ∧ S.size ≤ n
theorem PctS.append {S T : ByteArray} {n m : Nat} (h : PctS S n) (g : TokS T m) : PctS (S ++ T) (n + m) := by
  obtain ⟨p, h1, h2, h3, h4⟩ := h
  exact ⟨p ++ T.data.toList, by rw [app_list, h1]; rfl, h2.append g.1, by simp [h3], by rw [ByteArray.size_append]; exact Nat.add_le_add h4 g.2⟩
theorem lit_pct (S : ByteArray) (p : List UInt8) (n : Nat) (h : S.data.toList = 37 :: p) (h2 : p.all wc = true) (h3 : p ≠ []) (hn : S.size ≤ n) : PctS S n := ⟨p, h, fun c hc => List.all_eq_true.1 h2 c hc, h3, hn⟩
theorem ok_grp {P R : ByteArray} {n : Nat} (h : PctS P n) (hn : n ≤ 2000) (hR : R.data.toList = P.data.toList ++ [42, 37, 10]) : LineOk R := by
  obtain ⟨p, h1, h2, h3, h4⟩ := h
  have hl : p.length + 1 = P.size := by rw [← len_list, h1]; rfl
  have e : R.data.toList = 37 :: (p ++ 42 :: ([] ++ (inside [] ++ [37, 10]))) := by rw [hR, h1]; rfl
  refine ⟨?_, ?_, ?_⟩
  · rw [e]
    exact closed_group [] h2 h3 (by omega) (fun x hx => absurd hx (by simp)) [] (.inl rfl)
  · rw [hR, h1, List.count_append, List.count_cons_of_ne (by decide), count_wc h2]; decide
  · rw [← len_list, hR, List.length_append, len_list]
    show P.size + 3 ≤ _
    omega
theorem ok_star : LineOk ⟨#[42, 10]⟩ := ⟨closed_star, by decide, by decide⟩
/-- A macro's beginning and its lines. -/
def AmS (S : ByteArray) (k : Nat) : Prop := ∃ p ps, S.data.toList = 37 :: (p ++ 42 :: ([10] ++ inside ps)) ∧ Tok p ∧ p ≠ [] ∧ p.length ≤ 20 ∧ ps.length = k ∧ ∀ q ∈ ps, (∀ c ∈ q, wc c = true) ∧ q ≠ [] ∧ q.length ≤ 200
theorem inside_snoc (ps : List (List UInt8)) (q : List UInt8) : inside (ps ++ [q]) = inside ps ++ (q ++ [42, 10]) := by simp [inside]
theorem AmS.add {S T R : ByteArray} {k : Nat} (h : AmS S k) (h1 : ∀ c ∈ T.data.toList, wc c = true) (h2 : T.data.toList ≠ []) (h3 : T.data.toList.length ≤ 200) (hR : R.data.toList = S.data.toList ++ (T.data.toList ++ [42, 10])) : AmS R (k + 1) := by
  obtain ⟨p, ps, e, g1, g2, g3, g4, g5⟩ := h
  refine ⟨p, ps ++ [T.data.toList], ?_, g1, g2, g3, by rw [List.length_append, g4]; rfl, fun q hq => ?_⟩
  · rw [hR, e, inside_snoc]
    simp
  · rcases List.mem_append.1 hq with hq | hq
    · exact g5 q hq
    · rw [List.mem_singleton.1 hq]; exact ⟨h1, h2, h3⟩
theorem inside_len : ∀ (ps : List (List UInt8)), (∀ q ∈ ps, q.length ≤ 200) → (inside ps).length ≤ ps.length * 202
  | [], _ => Nat.le_refl _
  | q :: ps, h => by
    rw [inside_cons, List.length_append, List.length_append, List.length_append]
    have h1 := h q (by simp)
    have h2 := inside_len ps (fun x hx => h x (by simp [hx]))
    simp only [List.length_cons, List.length_nil]
    omega
theorem AmS.size {S : ByteArray} {k : Nat} (h : AmS S k) : S.size ≤ 25 + k * 202 := by
  obtain ⟨p, ps, e, g1, g2, g3, g4, g5⟩ := h
  have h1 := inside_len ps (fun q hq => (g5 q hq).2.2)
  rw [← len_list, e]
  simp only [List.length_cons, List.length_append, List.length_nil]
  rw [g4] at h1
  omega
theorem AmS.fin {S R : ByteArray} {k : Nat} (h : AmS S k) (hk : k ≤ 12) (hR : R.data.toList = S.data.toList ++ [37, 10]) : LineOk R := by
  have hsz := h.size
  obtain ⟨p, ps, e, g1, g2, g3, g4, g5⟩ := h
  have e2 : R.data.toList = 37 :: (p ++ 42 :: ([10] ++ (inside ps ++ [37, 10]))) := by rw [hR, e]; simp
  have g6 : ∀ q ∈ ps, (∀ c ∈ q, wc c = true) ∧ q ≠ [] ∧ q.length ≤ 10000 := fun q hq => ⟨(g5 q hq).1, (g5 q hq).2.1, Nat.le_trans (g5 q hq).2.2 (by decide)⟩
  refine ⟨?_, ?_, ?_⟩
  · rw [e2]
    exact closed_group ps g1 g2 (by omega) g6 [10] (.inr rfl)
  · rw [e2, List.count_cons_of_ne (by decide), List.count_append, List.count_cons_self, List.count_append, List.count_append, count_wc g1, count_inside ps g6]
    show 0 + (0 + (ps.length + 0) + 1) ≤ 15
    omega
  · rw [← len_list, hR, List.length_append, len_list]
    show S.size + 2 ≤ _
    omega
theorem size_pos {S : ByteArray} (h : S.data.toList ≠ []) : 1 ≤ S.size := by
  rw [← len_list]
  exact List.length_pos_iff.2 h
theorem am_new {X : ByteArray} (h : TokS X 10) : AmS ((⟨#[37, 65, 77]⟩ : ByteArray) ++ X ++ (⟨#[42, 10]⟩ : ByteArray)) 0 := by
  refine ⟨65 :: 77 :: X.data.toList, [], ?_, Tok.cons (by decide) (Tok.cons (by decide) h.1), by simp, ?_, rfl, fun q hq => absurd hq (by simp)⟩
  · rw [app_list, app_list]; simp [inside]
  · have h2 := h.2
    rw [← len_list] at h2
    simp only [List.length_cons]
    omega
theorem pos_ap {S T : ByteArray} (h : 1 ≤ S.size) : 1 ≤ (S ++ T).size := by rw [ByteArray.size_append]; omega
theorem sel_gen (w : World) (l : List ByteArray) (k : Nat) (Q : ByteArray → Prop) (hk : k < l.length) (hp : ∀ X ∈ l, Q X) : ∃ X, (w.alloc (.cells (l.map fun s => Value.string s).toArray 9)).cell? ⟨w.heap.size, k, none⟩ = some (.string X) ∧ Q X := by
  refine ⟨l[k], ?_, hp _ (List.getElem_mem hk)⟩
  have h := heap_alloc_new w (.cells (l.map fun s => Value.string s).toArray 9)
  simp only [World.cell?, h]
  simp [hk]
/-- The numbers of a line, in the line's own block. -/
structure LnAt (w : World) (p : Option Addr) (l : List Int) (c : Nat) (W : World) : Prop where
  ce : W.cell? ⟨w.heap.size, 0, none⟩ = some (.slice p l.length c)
  zs : Zs W p l
  be : Below w.heap.size w W
theorem LnAt.below {w W W' : World} {p : Option Addr} {l : List Int} {c : Nat} (h : LnAt w p l c W) (hb : Below W.heap.size W W') : LnAt w p l c W' :=
  ⟨(hb.cell (p := ⟨w.heap.size, 0, none⟩) (World.block_lt_of_cell? _ _ h.ce)).trans h.ce, h.zs.below hb, h.be.trans (hb.mono h.be.size)⟩
theorem ln_new (w : World) {p : Option Addr} {l : List Int} {c : Nat} (hz : Zs w p l) : LnAt w p l c (w.alloc (.cells #[.slice p l.length c] 22)) :=
  ⟨by have h := heap_alloc_new w (.cells #[.slice p l.length c] 22); simp only [World.cell?, h]; rfl, hz.below ((Below.refl _ _).alloc (Nat.le_refl _) _), (Below.refl _ _).alloc (Nat.le_refl _) _⟩
theorem at_x (x : Int) (h0 : 0 ≤ x) (h1 : x ≤ 1000) {w : World} {p : Option Addr} {l : List Int} {c : Nat} {W : World} (h : Hid (LnAt w p l c W)) :
    Calls Tryz.prog 26 #[.int .i64 x, .pointer (some ⟨w.heap.size, 0, none⟩)] W fun e w' => ∃ v, e = .returned (.int .i64 v) ∧ W = w' := by
  have hx : x = ((x.toNat : Nat) : Int) := by omega
  rw [hx]
  exact at_c x.toNat (by omega) w.heap.size p l c W (Lib.hid h.out.ce) (Lib.hid h.out.zs)
end Go.Proofs.YtglmofeeggjemaaGreatDoor.GW
