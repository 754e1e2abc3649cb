/-
  Drill commands in memory; the walks of exce's tool, again, move, hit, command.
-/
import Derived.Test.YtecpmnkgikcpnaaDoorXwB
namespace Go.Proofs.YtecpmnkgikcpnaaDoor.XW
open Go.RowKit Go.Proofs.YtecpmnkgikcpnaaDoor.Base Go.Proofs.YtecpmnkgikcpnaaDoor.Dp Go.Proofs.YtecpmnkgikcpnaaDoor.DeciW Go.Proofs.YtecpmnkgikcpnaaDoor.Xp

def drCells (d : D) (a : Int) (nv : Value) : Array Value := #[.int .i64 a, .int .i64 d.k, .int .i64 d.n, .bool d.on, .string ⟨d.t.toArray⟩, .string ⟨d.x.toArray⟩, .string ⟨d.y.toArray⟩, .string ⟨d.u.toArray⟩, .string ⟨d.v.toArray⟩, nv]
abbrev nils : Value := .slice none 0 0
abbrev drVal (d : D) (a : Int) (nv : Value) : Value := .agg (drCells d a nv)
abbrev drObj (d : D) (a : Int) (nv : Value) : Obj := .cells (drCells d a nv) 39
/-- The numbers of a command in memory, in blocks from B on. -/
def NumsIn (B : Nat) (w : World) (p : Option Addr) (l : List Int) : Prop := 0 < l.length → ∃ (b o : Nat) (cs : Array Value), p = some ⟨b, o, none⟩ ∧ B ≤ b ∧ w.heap[b]? = some (.cells cs 2) ∧ ∀ i (hi : i < l.length), cs[o + i]? = some (.int .i64 l[i])
theorem NumsIn.nil (B : Nat) (w : World) (p : Option Addr) : NumsIn B w p [] := fun h => absurd h (Nat.lt_irrefl _)
theorem one_below {w v : World} {b : Nat} {o : Obj} (h : w.heap[b]? = some o) (hb : Below w.heap.size w v) : v.heap[b]? = some o :=
  (hb.block b (Array.getElem?_eq_some_iff.1 h).1).trans h
theorem NumsIn.below {B : Nat} {w w' : World} {p : Option Addr} {l : List Int} (h : NumsIn B w p l) (hb : Below w.heap.size w w') : NumsIn B w' p l := by
  intro hl
  obtain ⟨b, o, cs, rfl, hB, hh, hc⟩ := h hl
  exact ⟨b, o, cs, rfl, hB, one_below hh hb, hc⟩
theorem NumsIn.mono {B C : Nat} {w : World} {p : Option Addr} {l : List Int} (h : NumsIn B w p l) (hC : C ≤ B) : NumsIn C w p l := by
  intro hl
  obtain ⟨b, o, cs, rfl, hB, hh, hc⟩ := h hl
  exact ⟨b, o, cs, rfl, Nat.le_trans hC hB, hh, hc⟩
/-- What a function that reads a command returns. -/
def CmdOut (o : Option D) (w : World) (e : Ending) (w' : World) : Prop := Below w.heap.size w w' ∧ match o with
  | some d => ∃ p c, e = .returned (.tuple #[drVal d 0 (.slice p d.nums.length c), .bool true]) ∧ NumsIn w.heap.size w' p d.nums
  | none => e = .returned (.tuple #[drVal D0 0 nils, .bool false])
theorem dr_at {w : World} {b : Nat} {v0 v1 v2 v3 v4 v5 v6 v7 v8 v9 : Value} {t : TypeId} (h : w.heap[b]? = some (.cells #[v0, v1, v2, v3, v4, v5, v6, v7, v8, v9] t)) :
    (w.cell? ⟨b, 0, none⟩ = some v0 ∧ w.cell? ⟨b, 1, none⟩ = some v1 ∧ w.cell? ⟨b, 2, none⟩ = some v2 ∧ w.cell? ⟨b, 3, none⟩ = some v3 ∧ w.cell? ⟨b, 4, none⟩ = some v4 ∧ w.cell? ⟨b, 5, none⟩ = some v5 ∧ w.cell? ⟨b, 6, none⟩ = some v6 ∧ w.cell? ⟨b, 7, none⟩ = some v7 ∧ w.cell? ⟨b, 8, none⟩ = some v8 ∧ w.cell? ⟨b, 9, none⟩ = some v9) ∧
    (w.frozen? ⟨b, 0, none⟩ = false ∧ w.frozen? ⟨b, 1, none⟩ = false ∧ w.frozen? ⟨b, 2, none⟩ = false ∧ w.frozen? ⟨b, 3, none⟩ = false ∧ w.frozen? ⟨b, 4, none⟩ = false ∧ w.frozen? ⟨b, 5, none⟩ = false ∧ w.frozen? ⟨b, 6, none⟩ = false ∧ w.frozen? ⟨b, 7, none⟩ = false ∧ w.frozen? ⟨b, 8, none⟩ = false ∧ w.frozen? ⟨b, 9, none⟩ = false) := by
  refine ⟨⟨?_, ?_, ?_, ?_, ?_, ?_, ?_, ?_, ?_, ?_⟩, ?_, ?_, ?_, ?_, ?_, ?_, ?_, ?_, ?_, ?_⟩ <;> simp [World.cell?, World.frozen?, h]
theorem here {x : World} {b : Nat} {c : Array Value} {t : TypeId} (h : x.heap[b]? = some (.cells c t)) (o : Nat) (u : Value) : (x.setCell ⟨b, o, none⟩ u).heap[b]? = some (.cells (c.setIfInBounds o u) t) := by
  show (Array.modify _ _ _)[b]? = _
  rw [Array.getElem?_modify, if_pos rfl, h]; rfl
/-- A command stored, cell by cell. -/
def drSet (w : World) (b : Nat) (d : D) (a : Int) (nv : Value) : World :=
  (((((((((w.setCell ⟨b, 0, none⟩ (.int .i64 a)).setCell ⟨b, 1, none⟩ (.int .i64 d.k)).setCell ⟨b, 2, none⟩ (.int .i64 d.n)).setCell ⟨b, 3, none⟩ (.bool d.on)).setCell ⟨b, 4, none⟩ (.string ⟨d.t.toArray⟩)).setCell ⟨b, 5, none⟩ (.string ⟨d.x.toArray⟩)).setCell ⟨b, 6, none⟩ (.string ⟨d.y.toArray⟩)).setCell ⟨b, 7, none⟩ (.string ⟨d.u.toArray⟩)).setCell ⟨b, 8, none⟩ (.string ⟨d.v.toArray⟩)).setCell ⟨b, 9, none⟩ nv
theorem st0 {x : World} {b : Nat} {v0 v1 v2 v3 v4 v5 v6 v7 v8 v9 : Value} {t : TypeId} (h : x.heap[b]? = some (.cells #[v0, v1, v2, v3, v4, v5, v6, v7, v8, v9] t)) (u : Value) : (x.setCell ⟨b, 0, none⟩ u).heap[b]? = some (.cells #[u, v1, v2, v3, v4, v5, v6, v7, v8, v9] t) := here h 0 u
theorem st1 {x : World} {b : Nat} {v0 v1 v2 v3 v4 v5 v6 v7 v8 v9 : Value} {t : TypeId} (h : x.heap[b]? = some (.cells #[v0, v1, v2, v3, v4, v5, v6, v7, v8, v9] t)) (u : Value) : (x.setCell ⟨b, 1, none⟩ u).heap[b]? = some (.cells #[v0, u, v2, v3, v4, v5, v6, v7, v8, v9] t) := here h 1 u
theorem st2 {x : World} {b : Nat} {v0 v1 v2 v3 v4 v5 v6 v7 v8 v9 : Value} {t : TypeId} (h : x.heap[b]? = some (.cells #[v0, v1, v2, v3, v4, v5, v6, v7, v8, v9] t)) (u : Value) : (x.setCell ⟨b, 2, none⟩ u).heap[b]? = some (.cells #[v0, v1, u, v3, v4, v5, v6, v7, v8, v9] t) := here h 2 u
theorem st3 {x : World} {b : Nat} {v0 v1 v2 v3 v4 v5 v6 v7 v8 v9 : Value} {t : TypeId} (h : x.heap[b]? = some (.cells #[v0, v1, v2, v3, v4, v5, v6, v7, v8, v9] t)) (u : Value) : (x.setCell ⟨b, 3, none⟩ u).heap[b]? = some (.cells #[v0, v1, v2, u, v4, v5, v6, v7, v8, v9] t) := here h 3 u
theorem st4 {x : World} {b : Nat} {v0 v1 v2 v3 v4 v5 v6 v7 v8 v9 : Value} {t : TypeId} (h : x.heap[b]? = some (.cells #[v0, v1, v2, v3, v4, v5, v6, v7, v8, v9] t)) (u : Value) : (x.setCell ⟨b, 4, none⟩ u).heap[b]? = some (.cells #[v0, v1, v2, v3, u, v5, v6, v7, v8, v9] t) := here h 4 u
theorem st5 {x : World} {b : Nat} {v0 v1 v2 v3 v4 v5 v6 v7 v8 v9 : Value} {t : TypeId} (h : x.heap[b]? = some (.cells #[v0, v1, v2, v3, v4, v5, v6, v7, v8, v9] t)) (u : Value) : (x.setCell ⟨b, 5, none⟩ u).heap[b]? = some (.cells #[v0, v1, v2, v3, v4, u, v6, v7, v8, v9] t) := here h 5 u
theorem st6 {x : World} {b : Nat} {v0 v1 v2 v3 v4 v5 v6 v7 v8 v9 : Value} {t : TypeId} (h : x.heap[b]? = some (.cells #[v0, v1, v2, v3, v4, v5, v6, v7, v8, v9] t)) (u : Value) : (x.setCell ⟨b, 6, none⟩ u).heap[b]? = some (.cells #[v0, v1, v2, v3, v4, v5, u, v7, v8, v9] t) := here h 6 u
theorem st7 {x : World} {b : Nat} {v0 v1 v2 v3 v4 v5 v6 v7 v8 v9 : Value} {t : TypeId} (h : x.heap[b]? = some (.cells #[v0, v1, v2, v3, v4, v5, v6, v7, v8, v9] t)) (u : Value) : (x.setCell ⟨b, 7, none⟩ u).heap[b]? = some (.cells #[v0, v1, v2, v3, v4, v5, v6, u, v8, v9] t) := here h 7 u
theorem st8 {x : World} {b : Nat} {v0 v1 v2 v3 v4 v5 v6 v7 v8 v9 : Value} {t : TypeId} (h : x.heap[b]? = some (.cells #[v0, v1, v2, v3, v4, v5, v6, v7, v8, v9] t)) (u : Value) : (x.setCell ⟨b, 8, none⟩ u).heap[b]? = some (.cells #[v0, v1, v2, v3, v4, v5, v6, v7, u, v9] t) := here h 8 u
theorem st9 {x : World} {b : Nat} {v0 v1 v2 v3 v4 v5 v6 v7 v8 v9 : Value} {t : TypeId} (h : x.heap[b]? = some (.cells #[v0, v1, v2, v3, v4, v5, v6, v7, v8, v9] t)) (u : Value) : (x.setCell ⟨b, 9, none⟩ u).heap[b]? = some (.cells #[v0, v1, v2, v3, v4, v5, v6, v7, v8, u] t) := here h 9 u
theorem dr_fin {w wb : World} (hb : Below w.heap.size w wb) {v0 v1 v2 v3 v4 v5 v6 v7 v8 v9 : Value} (hr : wb.heap[w.heap.size]? = some (.cells #[v0, v1, v2, v3, v4, v5, v6, v7, v8, v9] 39)) (d : D) (a : Int) (nv : Value) :
    (drSet wb w.heap.size d a nv).heap[w.heap.size]? = some (drObj d a nv) ∧ Below w.heap.size w (drSet wb w.heap.size d a nv) := by
  refine ⟨?_, ?_⟩
  · exact st9 (st8 (st7 (st6 (st5 (st4 (st3 (st2 (st1 (st0 hr _) _) _) _) _) _) _) _) _) _
  · unfold drSet
    exact (((((((((hb.setCell (Nat.le_refl _) _).setCell (Nat.le_refl _) _).setCell (Nat.le_refl _) _).setCell (Nat.le_refl _) _).setCell (Nat.le_refl _) _).setCell (Nat.le_refl _) _).setCell (Nat.le_refl _) _).setCell (Nat.le_refl _) _).setCell (Nat.le_refl _) _).setCell (Nat.le_refl _) _
/-- A command that is none. -/
abbrev zObj : Obj := .cells #[.int .i64 0, .int .i64 0, .int .i64 0, .bool false, .string ⟨#[]⟩, .string ⟨#[]⟩, .string ⟨#[]⟩, .string ⟨#[]⟩, .string ⟨#[]⟩, .slice none 0 0] 39
/-- The result's block, as it was made. -/
structure ZAt (w W : World) : Prop where
  a : W.heap[w.heap.size]? = some zObj
  b : Below w.heap.size w W
theorem ZAt.below {w W W' : World} (h : ZAt w W) (hb : Below W.heap.size W W') : ZAt w W' := ⟨one_below h.a hb, h.b.trans (hb.mono h.b.size)⟩
theorem z_new (w : World) : ZAt w (w.alloc zObj) := ⟨heap_alloc_new w _, (Below.refl _ _).alloc (Nat.le_refl _) _⟩
theorem drSet_heap (w : World) {b c : Nat} (h : c ≠ b) (d : D) (a : Int) (nv : Value) : (drSet w b d a nv).heap[c]? = w.heap[c]? := by
  have key : ∀ (w : World) (i : Nat) (u : Value), (w.setCell ⟨b, i, none⟩ u).heap[c]? = w.heap[c]? := fun w i u => Below.heap_setCell _ _ _ _ h
  unfold drSet
  rw [key, key, key, key, key, key, key, key, key, key]
theorem drSet_nums {B : Nat} {w : World} {b : Nat} (hb : b < B) {p : Option Addr} {l : List Int} (h : NumsIn B w p l) (d : D) (a : Int) (nv : Value) : NumsIn B (drSet w b d a nv) p l := by
  intro hl
  obtain ⟨c, o, cs, rfl, hB, hh, hc⟩ := h hl
  exact ⟨c, o, cs, rfl, hB, (drSet_heap w (by omega) d a nv).trans hh, hc⟩
theorem str_is (S : ByteArray) (L : List UInt8) : (S.toList == L) = decide (S.data.toList = L) := by
  rw [Lib.toList_data, Bool.eq_iff_iff, beq_iff_eq, decide_eq_true_eq]
theorem drew_below {w w' : World} (h : Drew w w') : Below w.heap.size w w' := by
  obtain ⟨n, rfl⟩ := h
  exact below_drewN (Below.refl _ _) n
theorem countV_len {s : List UInt8} {m n : Nat} {r : List UInt8} (h : countV s m = some (n, r)) : r.length ≤ s.length ∧ n ≤ m := by
  unfold countV at h
  split at h
  · cases h
  · rename_i hc
    simp only [Option.some.injEq, Prod.mk.injEq] at h
    obtain ⟨rfl, rfl⟩ := h
    exact ⟨by simp, by omega⟩
theorem posV_len {s x y r : List UInt8} (h : posV s = some (x, y, r)) : r.length ≤ s.length := by
  unfold posV at h
  split at h
  · simp only [Option.some.injEq, Prod.mk.injEq] at h
    obtain ⟨_, _, rfl⟩ := h
    exact Nat.le_trans (coord_len _ _).2 (coord_len _ _).2
  · cases h
theorem parse_at (s : ByteArray) (v : Int) (b : Bool) (hv : Hid ((dec s.data.toList).getD 0 = v ∧ (dec s.data.toList).isSome = b)) (hs : s.size ≤ maxLen) (w : World) :
    Calls Tryd.prog 60 #[.string s] w fun e w' => e = .returned (.tuple #[.int .i64 v, .bool b]) ∧ w = w' := by
  obtain ⟨h1, h2⟩ := hv.out
  subst h1; subst h2
  exact parse_any s w hs

set_option maxRecDepth 100000 in
set_option maxHeartbeats 3200000 in
theorem tool_c (S : ByteArray) (hs : S.size ≤ maxLen) (o : Option D) (h : Hid (toolV S.data.toList = o)) (w : World) :
    Calls Tryd.prog 40 #[.string S] w (CmdOut o w) := by
  have hsm := Lib.hid hs
  have HZ : Hid (ZAt w _) := z_new w
  have ho := h.out
  unfold toolV at ho
  clear h
  by_cases h48 : S.data.toList = [48]
  · have hc : (S.toList == [48]) = true := by rw [str_is]; exact decide_eq_true h48
    rw [if_pos h48] at ho
    have HO : Hid (o = some (kd 6)) := ho.symm
    clear ho h48
    go_enter Tryd.func40, Tryd.ntmps40
    go_upto_region 1 with fail
    generalize w.alloc zObj = W1 at HZ ⊢
    obtain ⟨⟨c0, c1, c2, c3, c4, c5, c6, c7, c8, c9⟩, f0, f1, f2, f3, f4, f5, f6, f7, f8, f9⟩ := dr_at HZ.out.a
    have HF := Lib.hid (dr_fin HZ.out.b HZ.out.a (kd 6) 0 nils)
    go_wp2_with fail
    refine bodyPost_ret (w := drSet W1 w.heap.size (kd 6) 0 nils) (v := .tuple #[drVal (kd 6) 0 nils, .bool true]) ?_ rfl ⟨HF.out.2, ?_⟩
    · clear c0 c1 c2 c3 c4 c5 c6 c7 c8 c9 f0 f1 f2 f3 f4 f5 f6 f7 f8 f9
      generalize drSet W1 w.heap.size (kd 6) 0 nils = WE at HF ⊢
      obtain ⟨⟨c0, c1, c2, c3, c4, c5, c6, c7, c8, c9⟩, _⟩ := dr_at HF.out.1
      simp [results, Tryd.results40, go_sem, c0, c1, c2, c3, c4, c5, c6, c7, c8, c9] <;> rfl
    · rw [HO.out]
      exact ⟨none, 0, rfl, NumsIn.nil _ _ _⟩
  · have hc : (S.toList == [48]) = false := by rw [str_is]; exact decide_eq_false h48
    rw [if_neg h48] at ho
    clear h48
    cases hcv : countV S.data.toList 99 with
    | none =>
      rw [hcv] at ho
      have HO : Hid (o = none) := ho.symm
      have HCV := Lib.hid hcv
      clear ho hcv
      go_enter Tryd.func40, Tryd.ntmps40
      go_upto_region 1 with fail
      generalize w.alloc zObj = W1 at HZ ⊢
      go_wp2_with fail
      refine (count_c S hsm.out 99 (by decide) 99 (Lib.hid rfl) none HCV _).mono ?_
      rintro en W2 ⟨⟨n0, r0, rfl⟩, hw2⟩
      have HZ0 := HZ
      clear HZ
      have HZ := Lib.hid (HZ0.out.below (drew_below hw2))
      clear HZ0 hw2
      obtain ⟨⟨c0, c1, c2, c3, c4, c5, c6, c7, c8, c9⟩, f0, f1, f2, f3, f4, f5, f6, f7, f8, f9⟩ := dr_at HZ.out.a
      have HF := Lib.hid (dr_fin HZ.out.b HZ.out.a D0 0 nils)
      go_wp2_with fail
      refine bodyPost_ret (w := drSet W2 w.heap.size D0 0 nils) (v := .tuple #[drVal D0 0 nils, .bool false]) ?_ rfl ⟨HF.out.2, ?_⟩
      · clear c0 c1 c2 c3 c4 c5 c6 c7 c8 c9 f0 f1 f2 f3 f4 f5 f6 f7 f8 f9
        generalize drSet W2 w.heap.size D0 0 nils = WE at HF ⊢
        obtain ⟨⟨c0, c1, c2, c3, c4, c5, c6, c7, c8, c9⟩, _⟩ := dr_at HF.out.1
        simp [results, Tryd.results40, go_sem, c0, c1, c2, c3, c4, c5, c6, c7, c8, c9] <;> rfl
      · rw [HO.out]
    | some nr =>
      obtain ⟨n, r⟩ := nr
      rw [hcv] at ho
      have HCV := Lib.hid hcv
      have hrl := (countV_len hcv).1
      rw [len_list] at hrl
      clear hcv
      cases r with
      | nil =>
        have HO : Hid (o = some { kd 6 with n := n }) := ho.symm
        clear ho hrl
        go_enter Tryd.func40, Tryd.ntmps40
        go_upto_region 1 with fail
        generalize w.alloc zObj = W1 at HZ ⊢
        go_wp2_with fail
        refine (count_c S hsm.out 99 (by decide) 99 (Lib.hid rfl) (some (n, [])) HCV _).mono ?_
        rintro en W2 ⟨rfl, hw2⟩
        have HZ0 := HZ
        clear HZ
        have HZ := Lib.hid (HZ0.out.below (drew_below hw2))
        clear HZ0 hw2
        obtain ⟨⟨c0, c1, c2, c3, c4, c5, c6, c7, c8, c9⟩, f0, f1, f2, f3, f4, f5, f6, f7, f8, f9⟩ := dr_at HZ.out.a
        have HF := Lib.hid (dr_fin HZ.out.b HZ.out.a { kd 6 with n := (n : Int) } 0 nils)
        go_wp2_with fail
        refine bodyPost_ret (w := drSet W2 w.heap.size { kd 6 with n := (n : Int) } 0 nils) (v := .tuple #[drVal { kd 6 with n := (n : Int) } 0 nils, .bool true]) ?_ rfl ⟨HF.out.2, ?_⟩
        · clear c0 c1 c2 c3 c4 c5 c6 c7 c8 c9 f0 f1 f2 f3 f4 f5 f6 f7 f8 f9
          generalize drSet W2 w.heap.size { kd 6 with n := (n : Int) } 0 nils = WE at HF ⊢
          obtain ⟨⟨c0, c1, c2, c3, c4, c5, c6, c7, c8, c9⟩, _⟩ := dr_at HF.out.1
          simp [results, Tryd.results40, go_sem, c0, c1, c2, c3, c4, c5, c6, c7, c8, c9] <;> rfl
        · rw [HO.out]
          exact ⟨none, 0, rfl, NumsIn.nil _ _ _⟩
      | cons c r =>
        obtain ⟨R, hR⟩ := str_ex (c :: r)
        have eR : (⟨(c :: r).toArray⟩ : ByteArray) = R := str_eq hR.symm
        have hRs : R.size ≤ S.size := by rw [← len_list, hR]; exact hrl
        have hp : 0 < R.size := by rw [← len_list, hR]; simp
        have hRn : (R.toList == []) = false := by rw [str_nil]; exact decide_eq_false (by omega)
        obtain ⟨r1, hr1, hr2⟩ := head_byte R hp
        rw [hR] at hr1
        injection hr1 with hr1 hr3
        have hR0 : R[0] = c := hr1.symm
        have HR1 : Hid ((R.extract 1 R.size).data.toList = r) := by show _ = _; rw [hr2, hr3]
        have hRm : R.size ≤ 9223372036854775807 := by have := hsm.out; unfold maxLen at this; omega
        have hXs : (R.extract 1 R.size).size ≤ maxLen := by
          rw [← len_list, HR1.out]
          have : (c :: r).length ≤ S.size := hrl
          simp at this
          have := hsm.out
          omega
        clear hR hr1 hr2 hr3 hrl
        by_cases h67 : c = 67
        · subst h67
          have hc67 : (R[0].toNat : Int) = 67 := by rw [hR0]; rfl
          cases hdv : dec r with
          | none =>
            have HO : Hid (o = none) := by show _ = _; rw [← ho]; simp [hdv]
            have HDV : Hid ((dec (R.extract 1 R.size).data.toList).getD 0 = 0 ∧ (dec (R.extract 1 R.size).data.toList).isSome = false) := by show _ ∧ _; rw [HR1.out, hdv]; exact ⟨rfl, rfl⟩
            clear ho hdv
            go_enter Tryd.func40, Tryd.ntmps40
            go_upto_region 1 with fail
            generalize w.alloc zObj = W1 at HZ ⊢
            go_wp2_with fail
            refine (count_c S hsm.out 99 (by decide) 99 (Lib.hid rfl) (some (n, 67 :: r)) HCV _).mono ?_
            rintro en W2 ⟨rfl, hw2⟩
            have HZ0 := HZ
            clear HZ
            have HZ := Lib.hid (HZ0.out.below (drew_below hw2))
            clear HZ0 hw2
            rw [eR]
            go_wp2_with fail
            refine (parse_at _ 0 false HDV hXs _).mono ?_
            rintro en w3 ⟨rfl, rfl⟩
            obtain ⟨⟨c0, c1, c2, c3, c4, c5, c6, c7, c8, c9⟩, f0, f1, f2, f3, f4, f5, f6, f7, f8, f9⟩ := dr_at HZ.out.a
            have HF := Lib.hid (dr_fin HZ.out.b HZ.out.a D0 0 nils)
            go_wp2_with fail
            refine bodyPost_ret (w := drSet W2 w.heap.size D0 0 nils) (v := .tuple #[drVal D0 0 nils, .bool false]) ?_ rfl ⟨HF.out.2, ?_⟩
            · clear c0 c1 c2 c3 c4 c5 c6 c7 c8 c9 f0 f1 f2 f3 f4 f5 f6 f7 f8 f9
              generalize drSet W2 w.heap.size D0 0 nils = WE at HF ⊢
              obtain ⟨⟨c0, c1, c2, c3, c4, c5, c6, c7, c8, c9⟩, _⟩ := dr_at HF.out.1
              simp [results, Tryd.results40, go_sem, c0, c1, c2, c3, c4, c5, c6, c7, c8, c9] <;> rfl
            · rw [HO.out]
          | some v =>
            have HO : Hid (o = some { kd 4 with n := (n : Int), nums := [v] }) := by show _ = _; rw [← ho]; simp [hdv]
            have HDV : Hid ((dec (R.extract 1 R.size).data.toList).getD 0 = v ∧ (dec (R.extract 1 R.size).data.toList).isSome = true) := by show _ ∧ _; rw [HR1.out, hdv]; exact ⟨rfl, rfl⟩
            clear ho hdv
            go_enter Tryd.func40, Tryd.ntmps40
            go_upto_region 1 with fail
            generalize w.alloc zObj = W1 at HZ ⊢
            go_wp2_with fail
            refine (count_c S hsm.out 99 (by decide) 99 (Lib.hid rfl) (some (n, 67 :: r)) HCV _).mono ?_
            rintro en W2 ⟨rfl, hw2⟩
            have HZ0 := HZ
            clear HZ
            have HZ := Lib.hid (HZ0.out.below (drew_below hw2))
            clear HZ0 hw2
            rw [eR]
            go_wp2_with fail
            refine (parse_at _ v true HDV hXs _).mono ?_
            rintro en w3 ⟨rfl, rfl⟩
            go_upto_region 13 with fail
            obtain ⟨⟨p0, p1, p2, p3, p4, p5, p6, p7, p8, p9⟩, q0, q1, q2, q3, q4, q5, q6, q7, q8, q9⟩ := dr_at HZ.out.a
            have hlt := (Array.getElem?_eq_some_iff.1 HZ.out.a).1
            have HF := Lib.hid (dr_fin HZ.out.b HZ.out.a { kd 4 with n := (n : Int), nums := [v] } 0 (.slice (some ⟨W2.heap.size, 0, none⟩) 1 1))
            have hsz : (drSet W2 w.heap.size { kd 4 with n := (n : Int), nums := [v] } 0 (.slice (some ⟨W2.heap.size, 0, none⟩) 1 1)).heap.size = W2.heap.size := by simp [drSet, World.setCell]
            go_wp2_with fail
            clear p0 p1 p2 p3 p4 p5 p6 p7 p8 p9 q0 q1 q2 q3 q4 q5 q6 q7 q8 q9
            refine bodyPost_ret (w := (drSet W2 w.heap.size { kd 4 with n := (n : Int), nums := [v] } 0 (.slice (some ⟨W2.heap.size, 0, none⟩) 1 1)).alloc (.cells #[.int .i64 v] 2)) (v := .tuple #[drVal { kd 4 with n := (n : Int), nums := [v] } 0 (.slice (some ⟨W2.heap.size, 0, none⟩) 1 1), .bool true]) ?_ rfl ⟨HF.out.2.alloc HF.out.2.size _, ?_⟩
            · generalize drSet W2 w.heap.size { kd 4 with n := (n : Int), nums := [v] } 0 (.slice (some ⟨W2.heap.size, 0, none⟩) 1 1) = WE at HF ⊢
              obtain ⟨⟨c0, c1, c2, c3, c4, c5, c6, c7, c8, c9⟩, _⟩ := dr_at (one_below HF.out.1 ((Below.refl _ _).alloc (Nat.le_refl _) (.cells #[.int .i64 v] 2)))
              generalize WE.alloc (.cells #[.int .i64 v] 2) = WF at *
              simp [results, Tryd.results40, go_sem, c0, c1, c2, c3, c4, c5, c6, c7, c8, c9] <;> rfl
            · rw [HO.out]
              have hn := heap_alloc_new (drSet W2 w.heap.size { kd 4 with n := (n : Int), nums := [v] } 0 (.slice (some ⟨W2.heap.size, 0, none⟩) 1 1)) (.cells #[.int .i64 v] 2)
              rw [hsz] at hn
              refine ⟨_, _, rfl, fun _ => ⟨W2.heap.size, 0, _, rfl, HZ.out.b.size, hn, fun i hi => ?_⟩⟩
              obtain rfl : i = 0 := by simp at hi; omega
              rfl
        · have hc67 : ((c.toNat : Int) == 67) = false := by
            rw [beq_eq_false_iff_ne]
            intro e
            exact h67 (UInt8.toNat_inj.1 (by show c.toNat = 67; omega))
          have HO : Hid (o = none) := by show _ = _; rw [← ho]; simp [h67]
          clear ho
          go_enter Tryd.func40, Tryd.ntmps40
          go_upto_region 1 with fail
          generalize w.alloc zObj = W1 at HZ ⊢
          go_wp2_with fail
          refine (count_c S hsm.out 99 (by decide) 99 (Lib.hid rfl) (some (n, c :: r)) HCV _).mono ?_
          rintro en W2 ⟨rfl, hw2⟩
          have HZ0 := HZ
          clear HZ
          have HZ := Lib.hid (HZ0.out.below (drew_below hw2))
          clear HZ0 hw2
          rw [eR]
          obtain ⟨⟨c0, c1, c2, c3, c4, c5, c6, c7, c8, c9⟩, f0, f1, f2, f3, f4, f5, f6, f7, f8, f9⟩ := dr_at HZ.out.a
          have HF := Lib.hid (dr_fin HZ.out.b HZ.out.a D0 0 nils)
          go_wp2_with fail
          refine bodyPost_ret (w := drSet W2 w.heap.size D0 0 nils) (v := .tuple #[drVal D0 0 nils, .bool false]) ?_ rfl ⟨HF.out.2, ?_⟩
          · clear c0 c1 c2 c3 c4 c5 c6 c7 c8 c9 f0 f1 f2 f3 f4 f5 f6 f7 f8 f9
            generalize drSet W2 w.heap.size D0 0 nils = WE at HF ⊢
            obtain ⟨⟨c0, c1, c2, c3, c4, c5, c6, c7, c8, c9⟩, _⟩ := dr_at HF.out.1
            simp [results, Tryd.results40, go_sem, c0, c1, c2, c3, c4, c5, c6, c7, c8, c9] <;> rfl
          · rw [HO.out]
end Go.Proofs.YtecpmnkgikcpnaaDoor.XW
