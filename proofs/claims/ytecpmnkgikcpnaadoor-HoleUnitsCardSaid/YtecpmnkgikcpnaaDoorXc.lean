/-
  Plain: what the statement ExceBack says of the reader and the writer of drill commands. No program in sight.
-/
import Derived.Test.YtecpmnkgikcpnaaDoorXb
namespace Go.Proofs.YtecpmnkgikcpnaaDoor.Xp
open Go.Proofs.YtecpmnkgikcpnaaDoor.Dp

theorem plc_len (l : UInt8) (c : List UInt8) : c.length ≤ (plc l c).length := by
  unfold plc
  split
  · rename_i h; subst h; exact Nat.le_refl _
  · simp
theorem pos_len {s x y r : List UInt8} (h : posV s = some (x, y, r)) : x.length ≤ s.length ∧ y.length ≤ s.length ∧ r.length ≤ s.length := by
  have e := congrArg List.length (pos_join h)
  have h1 := plc_len 88 x
  have h2 := plc_len 89 y
  simp only [List.length_append] at e
  omega
/-- The texts of a command. -/
def fieldsLe (d : D) (n : Nat) : Prop := d.t.length ≤ n ∧ d.x.length ≤ n ∧ d.y.length ≤ n ∧ d.u.length ≤ n ∧ d.v.length ≤ n
theorem fieldsLe.mono {d : D} {n m : Nat} (h : fieldsLe d n) (hm : n ≤ m) : fieldsLe d m := by
  obtain ⟨h1, h2, h3, h4, h5⟩ := h
  exact ⟨by omega, by omega, by omega, by omega, by omega⟩
theorem again_fields {s : List UInt8} {d : D} (h : againV s = some d) : fieldsLe d s.length := by
  unfold againV at h
  split at h
  · cases h
  · rename_i n r hc
    have h1 := congrArg List.length (count_itoa hc).1
    simp only [List.length_append] at h1
    split at h
    · rename_i x y hp
      simp only [Option.some.injEq] at h
      subst h
      have := pos_len hp
      simp only [fieldsLe, kd, D0, List.length_nil]
      omega
    · cases h
theorem placed_fields {s : List UInt8} {k : Int} {d : D} (h : placedV k s = some d) : fieldsLe d s.length := by
  unfold placedV at h
  split at h
  · rename_i x y hp
    simp only [Option.some.injEq] at h
    subst h
    have := pos_len hp
    simp only [fieldsLe, kd, D0, List.length_nil]
    omega
  · cases h
theorem move_fields {s : List UInt8} {d : D} (h : moveV s = some d) : fieldsLe d s.length := by
  unfold moveV at h
  split at h
  · exact (placed_fields h).mono (by simp only [List.length_cons]; omega)
  · exact (placed_fields h).mono (by simp only [List.length_cons]; omega)
  · cases h
theorem hit_fields {s : List UInt8} {d : D} (h : hitV s = some d) : fieldsLe d s.length := by
  unfold hitV at h
  split at h
  · cases h
  · rename_i x y hp
    simp only [Option.some.injEq] at h
    subst h
    have := pos_len hp
    simp only [fieldsLe, kd, D0, List.length_nil]
    omega
  · rename_i x y r hp
    split at h
    · rename_i u v hq
      simp only [Option.some.injEq] at h
      subst h
      have := pos_len hp
      have := pos_len hq
      simp only [fieldsLe, kd, D0, List.length_nil, List.length_cons] at *
      omega
    · cases h
  · cases h
theorem tool_fields {s : List UInt8} {d : D} (h : toolV s = some d) : fieldsLe d 0 := by
  unfold toolV at h
  split at h
  · simp only [Option.some.injEq] at h; subst h; simp [fieldsLe, kd, D0]
  · split at h
    · cases h
    · simp only [Option.some.injEq] at h; subst h; simp [fieldsLe, kd, D0]
    · split at h
      · split at h
        · cases h
        · simp only [Option.some.injEq] at h; subst h; simp [fieldsLe, kd, D0]
      · cases h
theorem fixed_fields : ∀ x ∈ fixed, x.2.t = [] ∧ x.2.x = [] ∧ x.2.y = [] ∧ x.2.u = [] ∧ x.2.v = [] := by decide +kernel
theorem fields_of_cmd {s : List UInt8} {d : D} (h : cmdV s = some d) : fieldsLe d s.length := by
  unfold cmdV at h
  split at h
  · rename_i e hl
    simp only [Option.some.injEq] at h
    subst h
    have := fixed_fields _ (lookup_mem hl)
    obtain ⟨h1, h2, h3, h4, h5⟩ := this
    dsimp only at h1 h2 h3 h4 h5
    simp [fieldsLe, h1, h2, h3, h4, h5]
  · unfold otherV at h
    split at h
    · simp only [Option.some.injEq] at h; subst h; simp [fieldsLe, kd, D0]
    · exact (tool_fields h).mono (by omega)
    · exact (again_fields h).mono (by simp)
    · exact move_fields h
    · exact hit_fields h
/-- What is known of a command that was read from a text of n bytes. -/
structure Okd (d : D) (n : Nat) : Prop where
  good : goodV d = true
  fields : fieldsLe d n
  nums : d.nums.length ≤ 1
  n0 : 0 ≤ d.n
  n1 : d.n ≤ 9999
  z : ∀ z ∈ d.nums, -1000000000000 < z ∧ z < 1000000000000
theorem cmds_ok (N : Nat) : ∀ (s buf : List UInt8) (acc ds : List D), cmdsC s buf acc = some ds → (∀ c ∈ s, lineC c = true) → (∀ c ∈ buf, okC c = true) → buf.length + s.length ≤ N →
    ∃ es, ds = acc ++ es ∧ (∀ d ∈ es, Okd d N) ∧ (es.map fun d => lineV d ++ [10]).flatten.length ≤ 42 * (buf.length + s.length) ∧ es.length ≤ buf.length + s.length
  | [], buf, acc, ds, h, _, hb, hN => by
    unfold cmdsC at h
    split at h
    · simp only [Option.some.injEq] at h
      exact ⟨[], by simp [h], by simp, by simp, by simp⟩
    · rename_i hne
      cases hc : cmdV buf with
      | none => rw [hc] at h; cases h
      | some d =>
        rw [hc] at h
        simp only [Option.map_some, Option.some.injEq] at h
        have g := good_of_cmd hc hb
        have f := fields_of_cmd hc
        have n := nums_of_cmd hc
        have hl := List.length_pos_iff.2 hne
        refine ⟨[d], h.symm, ?_, by simp; omega, by simp; omega⟩
        intro e he
        simp at he
        subst he
        exact ⟨g.1, f.mono (by omega), n.1, n.2.1, n.2.2.1, n.2.2.2⟩
  | c :: r, buf, acc, ds, h, hs, hb, hN => by
    have hs2 : ∀ x ∈ r, lineC x = true := fun x hx => hs x (by simp [hx])
    simp only [List.length_cons] at hN ⊢
    unfold cmdsC at h
    split at h
    · obtain ⟨es, e1, e2, e3, e4⟩ := cmds_ok N r buf acc ds h hs2 hb (by omega)
      exact ⟨es, e1, e2, by omega, by omega⟩
    · rename_i h13
      split at h
      · rename_i h10
        split at h
        · obtain ⟨es, e1, e2, e3, e4⟩ := cmds_ok N r [] acc ds h hs2 (by simp) (by simp; omega)
          exact ⟨es, e1, e2, by simp only [List.length_nil] at e3; omega, by simp only [List.length_nil] at e4; omega⟩
        · rename_i hne
          have hl := List.length_pos_iff.2 hne
          cases hc : cmdV buf with
          | none => rw [hc] at h; cases h
          | some d =>
            rw [hc] at h
            dsimp only at h
            obtain ⟨es, e1, e2, e3, e4⟩ := cmds_ok N r [] _ ds h hs2 (by simp) (by simp; omega)
            have g := good_of_cmd hc hb
            have f := fields_of_cmd hc
            have n := nums_of_cmd hc
            refine ⟨d :: es, by rw [e1]; simp, ?_, ?_, ?_⟩
            · intro e he
              simp only [List.mem_cons] at he
              rcases he with rfl | he
              · exact ⟨g.1, f.mono (by omega), n.1, n.2.1, n.2.2.1, n.2.2.2⟩
              · exact e2 e he
            · simp only [List.map_cons, List.flatten_cons, List.length_append, List.length_cons, List.length_nil] at e3 ⊢
              omega
            · simp only [List.length_cons, List.length_nil] at e4 ⊢
              omega
      · rename_i h10
        have hc : okC c = true := by
          have := hs c (by simp)
          simpa [lineC, h13, h10] using this
        obtain ⟨es, e1, e2, e3, e4⟩ := cmds_ok N r (buf ++ [c]) acc ds h hs2 (by intro x hx; simp only [List.mem_append, List.mem_singleton] at hx; rcases hx with hx | rfl; exact hb x hx; exact hc) (by simp; omega)
        exact ⟨es, e1, e2, by simp only [List.length_nil, List.length_append, List.length_cons] at e3; omega, by simp only [List.length_nil, List.length_append, List.length_cons] at e4; omega⟩
/-- What was read: each command is known, and there are at most as many as bytes. -/
theorem parse_known {s : List UInt8} {l : List (Nat × D)} {a : Nat} (h : parseX s = (l, a, 0)) : (∀ x ∈ l, Okd x.2 s.length) ∧ l.length ≤ s.length ∧ ((l.map Prod.snd).map fun d => lineV d ++ [10]).flatten.length ≤ 42 * s.length := by
  obtain ⟨hb, hc⟩ := parse_ok h
  obtain ⟨es, e1, e2, e3, e4⟩ := cmds_ok s.length s [] [] _ hc hb.2.2 (by simp) (by simp)
  rw [List.nil_append] at e1
  subst e1
  refine ⟨fun x hx => e2 x.2 (List.mem_map_of_mem hx), by simpa using e4, by simpa using e3⟩
theorem parse_other {s : List UInt8} {l : List (Nat × D)} {a e : Nat} (h : parseX s = (l, a, e)) (he : e ≠ 0) : l = [] := by
  rw [parse_aut] at h
  split at h
  · simp only [Prod.mk.injEq] at h; exact h.1.symm
  · split at h
    · simp only [Prod.mk.injEq] at h; exact h.1.symm
    · have k := aut_cmds s 0 [] 0 []
      cases hc : cmdsC s [] (([] : List (Nat × D)).map Prod.snd) with
      | none => have := (k.2 hc).2; rw [h] at this; exact this
      | some ds =>
        have := (k.1 ds hc).2
        rw [h] at this
        simp only [Prod.mk.injEq] at this
        exact absurd this.2 he
theorem parse_all {s : List UInt8} {l : List (Nat × D)} {a e : Nat} (h : parseX s = (l, a, e)) : (∀ x ∈ l, Okd x.2 s.length) ∧ l.length ≤ s.length := by
  by_cases he : e = 0
  · subst he; exact ⟨(parse_known h).1, (parse_known h).2.1⟩
  · have := parse_other h he
    subst this; simp
theorem aut_ats (N : Nat) : ∀ (s : List UInt8) (i : Nat) (buf : List UInt8) (at0 : Nat) (acc : List (Nat × D)), at0 ≤ N → i + s.length ≤ N → (∀ x ∈ acc, x.1 ≤ N) → ∀ x ∈ (autV s i buf at0 acc).1, x.1 ≤ N
  | [], i, buf, at0, acc, h0, hi, ha, x, hx => by
    unfold autV at hx
    split at hx
    · exact ha x hx
    · split at hx
      · simp at hx
      · simp only [List.mem_append, List.mem_singleton] at hx
        rcases hx with hx | rfl
        · exact ha x hx
        · exact h0
  | c :: r, i, buf, at0, acc, h0, hi, ha, x, hx => by
    simp only [List.length_cons] at hi
    unfold autV at hx
    split at hx
    · exact aut_ats N r (i + 1) buf at0 acc h0 (by omega) ha x hx
    · split at hx
      · split at hx
        · exact aut_ats N r (i + 1) [] at0 acc h0 (by omega) ha x hx
        · split at hx
          · simp at hx
          · refine aut_ats N r (i + 1) [] at0 _ h0 (by omega) (fun y hy => ?_) x hx
            simp only [List.mem_append, List.mem_singleton] at hy
            rcases hy with hy | rfl
            · exact ha y hy
            · exact h0
      · refine aut_ats N r (i + 1) (buf ++ [c]) _ acc ?_ (by omega) ha x hx
        split <;> omega
theorem parse_ats {s : List UInt8} {l : List (Nat × D)} {a e : Nat} (h : parseX s = (l, a, e)) : ∀ x ∈ l, x.1 ≤ s.length := by
  rw [parse_aut] at h
  split at h
  · simp only [Prod.mk.injEq] at h; rw [← h.1]; simp
  · split at h
    · simp only [Prod.mk.injEq] at h; rw [← h.1]; simp
    · have k := aut_ats s.length s 0 [] 0 [] (Nat.zero_le _) (by omega) (by simp)
      rw [h] at k
      exact k
/-- Text is read as the same. -/
theorem back_plain {s : List UInt8} {l : List (Nat × D)} {a : Nat} (h : parseX s = (l, a, 0)) (hs : s.length ≤ 20000) :
    ∃ t, textX (l.map Prod.snd) = some t ∧ t.length ≤ 840000 ∧ ∃ m, parseX t = (m, 0, 0) ∧ m.map Prod.snd = l.map Prod.snd := by
  obtain ⟨h1, h2, h3⟩ := parse_known h
  have hg : ∀ d ∈ l.map Prod.snd, goodV d = true := by
    intro d hd
    obtain ⟨x, hx, rfl⟩ := List.mem_map.1 hd
    exact (h1 x hx).good
  have ht : textX (l.map Prod.snd) = some ((l.map Prod.snd).map fun d => lineV d ++ [10]).flatten := by
    unfold textX
    rw [if_neg (by simp; omega), lines_some _ _ hg (by rw [List.nil_append]; omega), List.nil_append]
  refine ⟨_, ht, by omega, ?_⟩
  exact text_parse ht hg (by omega)
/-- Empty lines and carriage returns say nothing. -/
theorem ins_plain {s : List UInt8} {l : List (Nat × D)} {a : Nat} (h : parseX s = (l, a, 0)) (hs : s.length ≤ 5000) (f : Nat → Bool) :
    ∃ m, parseX (insV f 0 s) = (m, 0, 0) ∧ m.map Prod.snd = l.map Prod.snd := by
  obtain ⟨hb, hc⟩ := parse_ok h
  obtain ⟨i1, i2, i3⟩ := ins_count f s 0
  have hcl := List.count_le_length (a := (10 : UInt8)) (l := s)
  refine ok_parse ⟨by omega, ?_, i3 hb.2.2⟩ (by rw [ins_cmds]; exact hc)
  unfold linesV
  split <;> omega
end Go.Proofs.YtecpmnkgikcpnaaDoor.Xp
