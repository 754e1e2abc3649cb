/-
  The walk of the document's own reading of a line.
-/
import Derived.Test.YtecpmnkgikcpnaaGreatDoorXyB
import Derived.Test.YtecpmnkgikcpnaaGreatDoorXwE
set_option linter.unusedVariables false
set_option linter.unusedSimpArgs false
namespace Go.Proofs.YtecpmnkgikcpnaaGreatDoor.YW
open Go.RowKit Go.Proofs.YtecpmnkgikcpnaaGreatDoor.Base Go.Proofs.YtecpmnkgikcpnaaGreatDoor.Dp Go.Proofs.YtecpmnkgikcpnaaGreatDoor.DeciW Go.Proofs.YtecpmnkgikcpnaaGreatDoor.Xp Go.Proofs.YtecpmnkgikcpnaaGreatDoor.XW

/-- What line returns. -/
def LineOut (o : Option D) (w : World) (e : Ending) (w' : World) : Prop := Below w.heap.size w w' ∧ match o with
  | some d => ∃ p c, e = .returned (.tuple #[drVal d 0 (.slice p d.nums.length c), .bool true]) ∧ NumsIn w.heap.size w' p d.nums
  | none => ∃ (d : D) (p : Option Addr) (c : Nat), e = .returned (.tuple #[drVal d 0 (.slice p d.nums.length c), .bool false])
theorem rline_other {s : List UInt8} (h : ∀ x ∈ fixed, s ≠ x.1) (h2 : s ≠ [84, 48]) : rlineV s = rotherV s := by
  have hl : fixed.lookup s = none := by
    rw [List.lookup_eq_none_iff]
    intro p hp
    exact bne_iff_ne.2 (h p hp)
  unfold rlineV
  rw [hl]
  simp only [if_neg h2]
theorem rplaced_some {k : Int} {s : List UInt8} {d : D} (h : rplaced k s = some d) : ∃ x y, rplace s = some (x, y, []) ∧ d = { kd k with x := x, y := y } := by
  unfold rplaced at h
  split at h
  · rename_i x y hp
    exact ⟨x, y, hp, (Option.some.inj h).symm⟩
  · cases h
theorem ragain_eq {s q : List UInt8} {n : Nat} (h : rcount s 4 = some (n, q)) : ragain s = (rplaced 12 q).map fun d => { d with n := (n : Int) } := by
  unfold ragain rplaced
  rw [h]
  dsimp only
  cases hr : rplace q with
  | none => rfl
  | some p =>
    obtain ⟨x, y, r⟩ := p
    cases r <;> rfl
theorem rhit_no {c : UInt8} {r : List UInt8} (h1 : c ≠ 88) (h2 : c ≠ 89) : rhit (c :: r) = none := by
  have : rplace (c :: r) = none := by
    unfold rplace
    simp [rcoord_cons, h1, h2]
  unfold rhit
  rw [this]
theorem nums_new (w : World) (v : Int) : NumsIn w.heap.size (w.alloc (.cells #[.int .i64 v] 2)) (some ⟨w.heap.size, 0, none⟩) [v] := by
  intro _
  refine ⟨w.heap.size, 0, _, rfl, Nat.le_refl _, heap_alloc_new w _, fun i hi => ?_⟩
  obtain rfl : i = 0 := by simp at hi; omega
  rfl
theorem rplace_no {c : UInt8} {r : List UInt8} (h1 : c ≠ 88) (h2 : c ≠ 89) : rplace (c :: r) = none := by
  unfold rplace
  simp [rcoord_cons, h1, h2]
theorem rother71 {r : List UInt8} (h1 : ∀ q, r ≠ 48 :: 48 :: q) (h2 : ∀ q, r ≠ 48 :: 49 :: q) : rotherV (71 :: r) = none := by
  unfold rotherV
  split
  · rename_i h; injection h with h _; exact absurd h (by decide)
  · rename_i h; injection h with h _; exact absurd h (by decide)
  · rename_i h; injection h with _ h; exact absurd h (h1 _)
  · rename_i h; injection h with _ h; exact absurd h (h2 _)
  · rename_i h; injection h with h _; exact absurd h (by decide)
  · exact rhit_no (by decide) (by decide)
theorem rother_hit {c : UInt8} {r : List UInt8} (h1 : c ≠ 59) (h2 : c ≠ 84) (h3 : c ≠ 82) (h4 : c ≠ 71) : rotherV (c :: r) = rhit (c :: r) := by
  unfold rotherV
  split
  · rename_i h; injection h with h _; exact absurd h h1
  · rename_i h; injection h with h _; exact absurd h h2
  · rename_i h; injection h with h _; exact absurd h h4
  · rename_i h; injection h with h _; exact absurd h h4
  · rename_i h; injection h with h _; exact absurd h h3
  · rfl
theorem take3c (s : List UInt8) : (s.take 3 == [71, 56, 53]) = true → ∃ r, s = 71 :: 56 :: 53 :: r := by
  intro h
  match s, h with
  | a :: b :: c :: r, h => simp at h; exact ⟨r, by rw [h.1, h.2.1, h.2.2]⟩
  | [], h => simp at h
  | [a], h => simp at h
  | [a, b], h => simp at h
theorem rplace_len {s x y r : List UInt8} (h : rplace s = some (x, y, r)) : r.length ≤ s.length := by
  unfold rplace at h
  split at h
  · simp only [Option.some.injEq, Prod.mk.injEq] at h
    obtain ⟨_, _, rfl⟩ := h
    exact Nat.le_trans (rcoord_len _ _).2 (rcoord_len _ _).2
  · cases h
theorem take3b (s : List UInt8) : (s.take 3 == [71, 48, 49]) = true → ∃ r, s = 71 :: 48 :: 49 :: r := by
  intro h
  match s, h with
  | a :: b :: c :: r, h => simp at h; exact ⟨r, by rw [h.1, h.2.1, h.2.2]⟩
  | [], h => simp at h
  | [a], h => simp at h
  | [a, b], h => simp at h
theorem take3 (s : List UInt8) : (s.take 3 == [71, 48, 48]) = true → ∃ r, s = 71 :: 48 :: 48 :: r := by
  intro h
  match s, h with
  | a :: b :: c :: r, h => simp at h; exact ⟨r, by rw [h.1, h.2.1, h.2.2]⟩
  | [], h => simp at h
  | [a], h => simp at h
  | [a, b], h => simp at h

set_option maxRecDepth 100000 in
set_option maxHeartbeats 12800000 in
theorem rline_c (S : ByteArray) (hs : S.size ≤ maxLen) (hp : 0 < S.size) (o : Option D) (h : Hid (rlineV S.data.toList = o)) (w : World) :
    Calls Tryz.prog 16 #[.string S] w (LineOut o w) := by
  have hsm := Lib.hid hs
  have zS : S.size ≤ 9223372036854775807 := by have := hs; unfold maxLen at this; omega
  have HZ : Hid (ZAt w _) := z_new w
  have ho := h.out
  clear h
  by_cases n0 : S.data.toList = [77, 52, 56]
  · obtain rfl : S = ⟨#[77, 52, 56]⟩ := str_eq n0
    have HO : Hid (o = some (kd 2)) := by show _ = _; rw [← ho]; decide +kernel
    clear ho n0
    go_enter Tryz.func16, Tryz.ntmps16
    go_upto_region 1 with fail
    generalize w.alloc zObj = W1 at HZ ⊢
    obtain ⟨⟨c0, c1, c2, c3, c4, c5, c6, c7, c8, c9⟩, f0, f1, f2, f3, f4, f5, f6, f7, f8, f9⟩ := dr_at HZ.out.a
    have HF := Lib.hid (dr_fin HZ.out.b HZ.out.a (kd 2) 0 nils)
    go_wp2_with fail
    refine bodyPost_ret (w := drSet W1 w.heap.size (kd 2) 0 nils) (v := .tuple #[drVal (kd 2) 0 nils, .bool true]) ?_ rfl ⟨HF.out.2, ?_⟩
    · clear c0 c1 c2 c3 c4 c5 c6 c7 c8 c9 f0 f1 f2 f3 f4 f5 f6 f7 f8 f9
      generalize drSet W1 w.heap.size (kd 2) 0 nils = WE at HF ⊢
      obtain ⟨⟨c0, c1, c2, c3, c4, c5, c6, c7, c8, c9⟩, _⟩ := dr_at HF.out.1
      simp [results, Tryz.results16, go_sem, c0, c1, c2, c3, c4, c5, c6, c7, c8, c9] <;> rfl
    · rw [HO.out]
      exact ⟨none, 0, rfl, NumsIn.nil _ _ _⟩
  · by_cases n1 : S.data.toList = [77, 69, 84, 82, 73, 67]
    · obtain rfl : S = ⟨#[77, 69, 84, 82, 73, 67]⟩ := str_eq n1
      have HO : Hid (o = some { kd 3 with n := 1 }) := by show _ = _; rw [← ho]; decide +kernel
      clear ho n0 n1
      go_enter Tryz.func16, Tryz.ntmps16
      go_upto_region 1 with fail
      generalize w.alloc zObj = W1 at HZ ⊢
      obtain ⟨⟨c0, c1, c2, c3, c4, c5, c6, c7, c8, c9⟩, f0, f1, f2, f3, f4, f5, f6, f7, f8, f9⟩ := dr_at HZ.out.a
      have HF := Lib.hid (dr_fin HZ.out.b HZ.out.a { kd 3 with n := 1 } 0 nils)
      go_wp2_with fail
      refine bodyPost_ret (w := drSet W1 w.heap.size { kd 3 with n := 1 } 0 nils) (v := .tuple #[drVal { kd 3 with n := 1 } 0 nils, .bool true]) ?_ rfl ⟨HF.out.2, ?_⟩
      · clear c0 c1 c2 c3 c4 c5 c6 c7 c8 c9 f0 f1 f2 f3 f4 f5 f6 f7 f8 f9
        generalize drSet W1 w.heap.size { kd 3 with n := 1 } 0 nils = WE at HF ⊢
        obtain ⟨⟨c0, c1, c2, c3, c4, c5, c6, c7, c8, c9⟩, _⟩ := dr_at HF.out.1
        simp [results, Tryz.results16, go_sem, c0, c1, c2, c3, c4, c5, c6, c7, c8, c9] <;> rfl
      · rw [HO.out]
        exact ⟨none, 0, rfl, NumsIn.nil _ _ _⟩
    · by_cases n2 : S.data.toList = [77, 69, 84, 82, 73, 67, 44, 76, 90]
      · obtain rfl : S = ⟨#[77, 69, 84, 82, 73, 67, 44, 76, 90]⟩ := str_eq n2
        have HO : Hid (o = some { kd 3 with n := 1 }) := by show _ = _; rw [← ho]; decide +kernel
        clear ho n0 n1 n2
        go_enter Tryz.func16, Tryz.ntmps16
        go_upto_region 1 with fail
        generalize w.alloc zObj = W1 at HZ ⊢
        obtain ⟨⟨c0, c1, c2, c3, c4, c5, c6, c7, c8, c9⟩, f0, f1, f2, f3, f4, f5, f6, f7, f8, f9⟩ := dr_at HZ.out.a
        have HF := Lib.hid (dr_fin HZ.out.b HZ.out.a { kd 3 with n := 1 } 0 nils)
        go_wp2_with fail
        refine bodyPost_ret (w := drSet W1 w.heap.size { kd 3 with n := 1 } 0 nils) (v := .tuple #[drVal { kd 3 with n := 1 } 0 nils, .bool true]) ?_ rfl ⟨HF.out.2, ?_⟩
        · clear c0 c1 c2 c3 c4 c5 c6 c7 c8 c9 f0 f1 f2 f3 f4 f5 f6 f7 f8 f9
          generalize drSet W1 w.heap.size { kd 3 with n := 1 } 0 nils = WE at HF ⊢
          obtain ⟨⟨c0, c1, c2, c3, c4, c5, c6, c7, c8, c9⟩, _⟩ := dr_at HF.out.1
          simp [results, Tryz.results16, go_sem, c0, c1, c2, c3, c4, c5, c6, c7, c8, c9] <;> rfl
        · rw [HO.out]
          exact ⟨none, 0, rfl, NumsIn.nil _ _ _⟩
      · by_cases n3 : S.data.toList = [77, 69, 84, 82, 73, 67, 44, 84, 90]
        · obtain rfl : S = ⟨#[77, 69, 84, 82, 73, 67, 44, 84, 90]⟩ := str_eq n3
          have HO : Hid (o = some { kd 3 with n := 1, on := true }) := by show _ = _; rw [← ho]; decide +kernel
          clear ho n0 n1 n2 n3
          go_enter Tryz.func16, Tryz.ntmps16
          go_upto_region 1 with fail
          generalize w.alloc zObj = W1 at HZ ⊢
          obtain ⟨⟨c0, c1, c2, c3, c4, c5, c6, c7, c8, c9⟩, f0, f1, f2, f3, f4, f5, f6, f7, f8, f9⟩ := dr_at HZ.out.a
          have HF := Lib.hid (dr_fin HZ.out.b HZ.out.a { kd 3 with n := 1, on := true } 0 nils)
          go_wp2_with fail
          refine bodyPost_ret (w := drSet W1 w.heap.size { kd 3 with n := 1, on := true } 0 nils) (v := .tuple #[drVal { kd 3 with n := 1, on := true } 0 nils, .bool true]) ?_ rfl ⟨HF.out.2, ?_⟩
          · clear c0 c1 c2 c3 c4 c5 c6 c7 c8 c9 f0 f1 f2 f3 f4 f5 f6 f7 f8 f9
            generalize drSet W1 w.heap.size { kd 3 with n := 1, on := true } 0 nils = WE at HF ⊢
            obtain ⟨⟨c0, c1, c2, c3, c4, c5, c6, c7, c8, c9⟩, _⟩ := dr_at HF.out.1
            simp [results, Tryz.results16, go_sem, c0, c1, c2, c3, c4, c5, c6, c7, c8, c9] <;> rfl
          · rw [HO.out]
            exact ⟨none, 0, rfl, NumsIn.nil _ _ _⟩
        · by_cases n4 : S.data.toList = [73, 78, 67, 72]
          · obtain rfl : S = ⟨#[73, 78, 67, 72]⟩ := str_eq n4
            have HO : Hid (o = some { kd 3 with n := 2 }) := by show _ = _; rw [← ho]; decide +kernel
            clear ho n0 n1 n2 n3 n4
            go_enter Tryz.func16, Tryz.ntmps16
            go_upto_region 1 with fail
            generalize w.alloc zObj = W1 at HZ ⊢
            obtain ⟨⟨c0, c1, c2, c3, c4, c5, c6, c7, c8, c9⟩, f0, f1, f2, f3, f4, f5, f6, f7, f8, f9⟩ := dr_at HZ.out.a
            have HF := Lib.hid (dr_fin HZ.out.b HZ.out.a { kd 3 with n := 2 } 0 nils)
            go_wp2_with fail
            refine bodyPost_ret (w := drSet W1 w.heap.size { kd 3 with n := 2 } 0 nils) (v := .tuple #[drVal { kd 3 with n := 2 } 0 nils, .bool true]) ?_ rfl ⟨HF.out.2, ?_⟩
            · clear c0 c1 c2 c3 c4 c5 c6 c7 c8 c9 f0 f1 f2 f3 f4 f5 f6 f7 f8 f9
              generalize drSet W1 w.heap.size { kd 3 with n := 2 } 0 nils = WE at HF ⊢
              obtain ⟨⟨c0, c1, c2, c3, c4, c5, c6, c7, c8, c9⟩, _⟩ := dr_at HF.out.1
              simp [results, Tryz.results16, go_sem, c0, c1, c2, c3, c4, c5, c6, c7, c8, c9] <;> rfl
            · rw [HO.out]
              exact ⟨none, 0, rfl, NumsIn.nil _ _ _⟩
          · by_cases n5 : S.data.toList = [73, 78, 67, 72, 44, 76, 90]
            · obtain rfl : S = ⟨#[73, 78, 67, 72, 44, 76, 90]⟩ := str_eq n5
              have HO : Hid (o = some { kd 3 with n := 2 }) := by show _ = _; rw [← ho]; decide +kernel
              clear ho n0 n1 n2 n3 n4 n5
              go_enter Tryz.func16, Tryz.ntmps16
              go_upto_region 1 with fail
              generalize w.alloc zObj = W1 at HZ ⊢
              obtain ⟨⟨c0, c1, c2, c3, c4, c5, c6, c7, c8, c9⟩, f0, f1, f2, f3, f4, f5, f6, f7, f8, f9⟩ := dr_at HZ.out.a
              have HF := Lib.hid (dr_fin HZ.out.b HZ.out.a { kd 3 with n := 2 } 0 nils)
              go_wp2_with fail
              refine bodyPost_ret (w := drSet W1 w.heap.size { kd 3 with n := 2 } 0 nils) (v := .tuple #[drVal { kd 3 with n := 2 } 0 nils, .bool true]) ?_ rfl ⟨HF.out.2, ?_⟩
              · clear c0 c1 c2 c3 c4 c5 c6 c7 c8 c9 f0 f1 f2 f3 f4 f5 f6 f7 f8 f9
                generalize drSet W1 w.heap.size { kd 3 with n := 2 } 0 nils = WE at HF ⊢
                obtain ⟨⟨c0, c1, c2, c3, c4, c5, c6, c7, c8, c9⟩, _⟩ := dr_at HF.out.1
                simp [results, Tryz.results16, go_sem, c0, c1, c2, c3, c4, c5, c6, c7, c8, c9] <;> rfl
              · rw [HO.out]
                exact ⟨none, 0, rfl, NumsIn.nil _ _ _⟩
            · by_cases n6 : S.data.toList = [73, 78, 67, 72, 44, 84, 90]
              · obtain rfl : S = ⟨#[73, 78, 67, 72, 44, 84, 90]⟩ := str_eq n6
                have HO : Hid (o = some { kd 3 with n := 2, on := true }) := by show _ = _; rw [← ho]; decide +kernel
                clear ho n0 n1 n2 n3 n4 n5 n6
                go_enter Tryz.func16, Tryz.ntmps16
                go_upto_region 1 with fail
                generalize w.alloc zObj = W1 at HZ ⊢
                obtain ⟨⟨c0, c1, c2, c3, c4, c5, c6, c7, c8, c9⟩, f0, f1, f2, f3, f4, f5, f6, f7, f8, f9⟩ := dr_at HZ.out.a
                have HF := Lib.hid (dr_fin HZ.out.b HZ.out.a { kd 3 with n := 2, on := true } 0 nils)
                go_wp2_with fail
                refine bodyPost_ret (w := drSet W1 w.heap.size { kd 3 with n := 2, on := true } 0 nils) (v := .tuple #[drVal { kd 3 with n := 2, on := true } 0 nils, .bool true]) ?_ rfl ⟨HF.out.2, ?_⟩
                · clear c0 c1 c2 c3 c4 c5 c6 c7 c8 c9 f0 f1 f2 f3 f4 f5 f6 f7 f8 f9
                  generalize drSet W1 w.heap.size { kd 3 with n := 2, on := true } 0 nils = WE at HF ⊢
                  obtain ⟨⟨c0, c1, c2, c3, c4, c5, c6, c7, c8, c9⟩, _⟩ := dr_at HF.out.1
                  simp [results, Tryz.results16, go_sem, c0, c1, c2, c3, c4, c5, c6, c7, c8, c9] <;> rfl
                · rw [HO.out]
                  exact ⟨none, 0, rfl, NumsIn.nil _ _ _⟩
              · by_cases n7 : S.data.toList = [37]
                · obtain rfl : S = ⟨#[37]⟩ := str_eq n7
                  have HO : Hid (o = some (kd 5)) := by show _ = _; rw [← ho]; decide +kernel
                  clear ho n0 n1 n2 n3 n4 n5 n6 n7
                  go_enter Tryz.func16, Tryz.ntmps16
                  go_upto_region 1 with fail
                  generalize w.alloc zObj = W1 at HZ ⊢
                  obtain ⟨⟨c0, c1, c2, c3, c4, c5, c6, c7, c8, c9⟩, f0, f1, f2, f3, f4, f5, f6, f7, f8, f9⟩ := dr_at HZ.out.a
                  have HF := Lib.hid (dr_fin HZ.out.b HZ.out.a (kd 5) 0 nils)
                  go_wp2_with fail
                  refine bodyPost_ret (w := drSet W1 w.heap.size (kd 5) 0 nils) (v := .tuple #[drVal (kd 5) 0 nils, .bool true]) ?_ rfl ⟨HF.out.2, ?_⟩
                  · clear c0 c1 c2 c3 c4 c5 c6 c7 c8 c9 f0 f1 f2 f3 f4 f5 f6 f7 f8 f9
                    generalize drSet W1 w.heap.size (kd 5) 0 nils = WE at HF ⊢
                    obtain ⟨⟨c0, c1, c2, c3, c4, c5, c6, c7, c8, c9⟩, _⟩ := dr_at HF.out.1
                    simp [results, Tryz.results16, go_sem, c0, c1, c2, c3, c4, c5, c6, c7, c8, c9] <;> rfl
                  · rw [HO.out]
                    exact ⟨none, 0, rfl, NumsIn.nil _ _ _⟩
                · by_cases n8 : S.data.toList = [77, 49, 53]
                  · obtain rfl : S = ⟨#[77, 49, 53]⟩ := str_eq n8
                    have HO : Hid (o = some { kd 10 with on := true }) := by show _ = _; rw [← ho]; decide +kernel
                    clear ho n0 n1 n2 n3 n4 n5 n6 n7 n8
                    go_enter Tryz.func16, Tryz.ntmps16
                    go_upto_region 1 with fail
                    generalize w.alloc zObj = W1 at HZ ⊢
                    obtain ⟨⟨c0, c1, c2, c3, c4, c5, c6, c7, c8, c9⟩, f0, f1, f2, f3, f4, f5, f6, f7, f8, f9⟩ := dr_at HZ.out.a
                    have HF := Lib.hid (dr_fin HZ.out.b HZ.out.a { kd 10 with on := true } 0 nils)
                    go_wp2_with fail
                    refine bodyPost_ret (w := drSet W1 w.heap.size { kd 10 with on := true } 0 nils) (v := .tuple #[drVal { kd 10 with on := true } 0 nils, .bool true]) ?_ rfl ⟨HF.out.2, ?_⟩
                    · clear c0 c1 c2 c3 c4 c5 c6 c7 c8 c9 f0 f1 f2 f3 f4 f5 f6 f7 f8 f9
                      generalize drSet W1 w.heap.size { kd 10 with on := true } 0 nils = WE at HF ⊢
                      obtain ⟨⟨c0, c1, c2, c3, c4, c5, c6, c7, c8, c9⟩, _⟩ := dr_at HF.out.1
                      simp [results, Tryz.results16, go_sem, c0, c1, c2, c3, c4, c5, c6, c7, c8, c9] <;> rfl
                    · rw [HO.out]
                      exact ⟨none, 0, rfl, NumsIn.nil _ _ _⟩
                  · by_cases n9 : S.data.toList = [77, 49, 54]
                    · obtain rfl : S = ⟨#[77, 49, 54]⟩ := str_eq n9
                      have HO : Hid (o = some (kd 10)) := by show _ = _; rw [← ho]; decide +kernel
                      clear ho n0 n1 n2 n3 n4 n5 n6 n7 n8 n9
                      go_enter Tryz.func16, Tryz.ntmps16
                      go_upto_region 1 with fail
                      generalize w.alloc zObj = W1 at HZ ⊢
                      obtain ⟨⟨c0, c1, c2, c3, c4, c5, c6, c7, c8, c9⟩, f0, f1, f2, f3, f4, f5, f6, f7, f8, f9⟩ := dr_at HZ.out.a
                      have HF := Lib.hid (dr_fin HZ.out.b HZ.out.a (kd 10) 0 nils)
                      go_wp2_with fail
                      refine bodyPost_ret (w := drSet W1 w.heap.size (kd 10) 0 nils) (v := .tuple #[drVal (kd 10) 0 nils, .bool true]) ?_ rfl ⟨HF.out.2, ?_⟩
                      · clear c0 c1 c2 c3 c4 c5 c6 c7 c8 c9 f0 f1 f2 f3 f4 f5 f6 f7 f8 f9
                        generalize drSet W1 w.heap.size (kd 10) 0 nils = WE at HF ⊢
                        obtain ⟨⟨c0, c1, c2, c3, c4, c5, c6, c7, c8, c9⟩, _⟩ := dr_at HF.out.1
                        simp [results, Tryz.results16, go_sem, c0, c1, c2, c3, c4, c5, c6, c7, c8, c9] <;> rfl
                      · rw [HO.out]
                        exact ⟨none, 0, rfl, NumsIn.nil _ _ _⟩
                    · by_cases n10 : S.data.toList = [71, 48, 53]
                      · obtain rfl : S = ⟨#[71, 48, 53]⟩ := str_eq n10
                        have HO : Hid (o = some (kd 13)) := by show _ = _; rw [← ho]; decide +kernel
                        clear ho n0 n1 n2 n3 n4 n5 n6 n7 n8 n9 n10
                        go_enter Tryz.func16, Tryz.ntmps16
                        go_upto_region 1 with fail
                        generalize w.alloc zObj = W1 at HZ ⊢
                        obtain ⟨⟨c0, c1, c2, c3, c4, c5, c6, c7, c8, c9⟩, f0, f1, f2, f3, f4, f5, f6, f7, f8, f9⟩ := dr_at HZ.out.a
                        have HF := Lib.hid (dr_fin HZ.out.b HZ.out.a (kd 13) 0 nils)
                        go_wp2_with fail
                        refine bodyPost_ret (w := drSet W1 w.heap.size (kd 13) 0 nils) (v := .tuple #[drVal (kd 13) 0 nils, .bool true]) ?_ rfl ⟨HF.out.2, ?_⟩
                        · clear c0 c1 c2 c3 c4 c5 c6 c7 c8 c9 f0 f1 f2 f3 f4 f5 f6 f7 f8 f9
                          generalize drSet W1 w.heap.size (kd 13) 0 nils = WE at HF ⊢
                          obtain ⟨⟨c0, c1, c2, c3, c4, c5, c6, c7, c8, c9⟩, _⟩ := dr_at HF.out.1
                          simp [results, Tryz.results16, go_sem, c0, c1, c2, c3, c4, c5, c6, c7, c8, c9] <;> rfl
                        · rw [HO.out]
                          exact ⟨none, 0, rfl, NumsIn.nil _ _ _⟩
                      · by_cases n11 : S.data.toList = [71, 57, 48]
                        · obtain rfl : S = ⟨#[71, 57, 48]⟩ := str_eq n11
                          have HO : Hid (o = some (kd 14)) := by show _ = _; rw [← ho]; decide +kernel
                          clear ho n0 n1 n2 n3 n4 n5 n6 n7 n8 n9 n10 n11
                          go_enter Tryz.func16, Tryz.ntmps16
                          go_upto_region 1 with fail
                          generalize w.alloc zObj = W1 at HZ ⊢
                          obtain ⟨⟨c0, c1, c2, c3, c4, c5, c6, c7, c8, c9⟩, f0, f1, f2, f3, f4, f5, f6, f7, f8, f9⟩ := dr_at HZ.out.a
                          have HF := Lib.hid (dr_fin HZ.out.b HZ.out.a (kd 14) 0 nils)
                          go_wp2_with fail
                          refine bodyPost_ret (w := drSet W1 w.heap.size (kd 14) 0 nils) (v := .tuple #[drVal (kd 14) 0 nils, .bool true]) ?_ rfl ⟨HF.out.2, ?_⟩
                          · clear c0 c1 c2 c3 c4 c5 c6 c7 c8 c9 f0 f1 f2 f3 f4 f5 f6 f7 f8 f9
                            generalize drSet W1 w.heap.size (kd 14) 0 nils = WE at HF ⊢
                            obtain ⟨⟨c0, c1, c2, c3, c4, c5, c6, c7, c8, c9⟩, _⟩ := dr_at HF.out.1
                            simp [results, Tryz.results16, go_sem, c0, c1, c2, c3, c4, c5, c6, c7, c8, c9] <;> rfl
                          · rw [HO.out]
                            exact ⟨none, 0, rfl, NumsIn.nil _ _ _⟩
                        · by_cases n12 : S.data.toList = [77, 51, 48]
                          · obtain rfl : S = ⟨#[77, 51, 48]⟩ := str_eq n12
                            have HO : Hid (o = some (kd 15)) := by show _ = _; rw [← ho]; decide +kernel
                            clear ho n0 n1 n2 n3 n4 n5 n6 n7 n8 n9 n10 n11 n12
                            go_enter Tryz.func16, Tryz.ntmps16
                            go_upto_region 1 with fail
                            generalize w.alloc zObj = W1 at HZ ⊢
                            obtain ⟨⟨c0, c1, c2, c3, c4, c5, c6, c7, c8, c9⟩, f0, f1, f2, f3, f4, f5, f6, f7, f8, f9⟩ := dr_at HZ.out.a
                            have HF := Lib.hid (dr_fin HZ.out.b HZ.out.a (kd 15) 0 nils)
                            go_wp2_with fail
                            refine bodyPost_ret (w := drSet W1 w.heap.size (kd 15) 0 nils) (v := .tuple #[drVal (kd 15) 0 nils, .bool true]) ?_ rfl ⟨HF.out.2, ?_⟩
                            · clear c0 c1 c2 c3 c4 c5 c6 c7 c8 c9 f0 f1 f2 f3 f4 f5 f6 f7 f8 f9
                              generalize drSet W1 w.heap.size (kd 15) 0 nils = WE at HF ⊢
                              obtain ⟨⟨c0, c1, c2, c3, c4, c5, c6, c7, c8, c9⟩, _⟩ := dr_at HF.out.1
                              simp [results, Tryz.results16, go_sem, c0, c1, c2, c3, c4, c5, c6, c7, c8, c9] <;> rfl
                            · rw [HO.out]
                              exact ⟨none, 0, rfl, NumsIn.nil _ _ _⟩
                          · by_cases n13 : S.data.toList = [84, 48]
                            · obtain rfl : S = ⟨#[84, 48]⟩ := str_eq n13
                              have HO : Hid (o = some (kd 6)) := by show _ = _; rw [← ho]; decide +kernel
                              clear ho n0 n1 n2 n3 n4 n5 n6 n7 n8 n9 n10 n11 n12 n13
                              go_enter Tryz.func16, Tryz.ntmps16
                              go_upto_region 1 with fail
                              generalize w.alloc zObj = W1 at HZ ⊢
                              obtain ⟨⟨c0, c1, c2, c3, c4, c5, c6, c7, c8, c9⟩, f0, f1, f2, f3, f4, f5, f6, f7, f8, f9⟩ := dr_at HZ.out.a
                              have HF := Lib.hid (dr_fin HZ.out.b HZ.out.a (kd 6) 0 nils)
                              go_wp2_with fail
                              refine bodyPost_ret (w := drSet W1 w.heap.size (kd 6) 0 nils) (v := .tuple #[drVal (kd 6) 0 nils, .bool true]) ?_ rfl ⟨HF.out.2, ?_⟩
                              · clear c0 c1 c2 c3 c4 c5 c6 c7 c8 c9 f0 f1 f2 f3 f4 f5 f6 f7 f8 f9
                                generalize drSet W1 w.heap.size (kd 6) 0 nils = WE at HF ⊢
                                obtain ⟨⟨c0, c1, c2, c3, c4, c5, c6, c7, c8, c9⟩, _⟩ := dr_at HF.out.1
                                simp [results, Tryz.results16, go_sem, c0, c1, c2, c3, c4, c5, c6, c7, c8, c9] <;> rfl
                              · rw [HO.out]
                                exact ⟨none, 0, rfl, NumsIn.nil _ _ _⟩
                            · have e0 : (S.toList == [77, 52, 56]) = false := by rw [str_is]; exact decide_eq_false n0
                              have e1 : (S.toList == [77, 69, 84, 82, 73, 67]) = false := by rw [str_is]; exact decide_eq_false n1
                              have e2 : (S.toList == [77, 69, 84, 82, 73, 67, 44, 76, 90]) = false := by rw [str_is]; exact decide_eq_false n2
                              have e3 : (S.toList == [77, 69, 84, 82, 73, 67, 44, 84, 90]) = false := by rw [str_is]; exact decide_eq_false n3
                              have e4 : (S.toList == [73, 78, 67, 72]) = false := by rw [str_is]; exact decide_eq_false n4
                              have e5 : (S.toList == [73, 78, 67, 72, 44, 76, 90]) = false := by rw [str_is]; exact decide_eq_false n5
                              have e6 : (S.toList == [73, 78, 67, 72, 44, 84, 90]) = false := by rw [str_is]; exact decide_eq_false n6
                              have e7 : (S.toList == [37]) = false := by rw [str_is]; exact decide_eq_false n7
                              have e8 : (S.toList == [77, 49, 53]) = false := by rw [str_is]; exact decide_eq_false n8
                              have e9 : (S.toList == [77, 49, 54]) = false := by rw [str_is]; exact decide_eq_false n9
                              have e10 : (S.toList == [71, 48, 53]) = false := by rw [str_is]; exact decide_eq_false n10
                              have e11 : (S.toList == [71, 57, 48]) = false := by rw [str_is]; exact decide_eq_false n11
                              have e12 : (S.toList == [77, 51, 48]) = false := by rw [str_is]; exact decide_eq_false n12
                              have e13 : (S.toList == [84, 48]) = false := by rw [str_is]; exact decide_eq_false n13
                              have hco : rlineV S.data.toList = rotherV S.data.toList := rline_other (by
                                intro x hx
                                simp only [fixed, List.mem_cons, List.not_mem_nil, or_false] at hx
                                rcases hx with rfl | rfl | rfl | rfl | rfl | rfl | rfl | rfl | rfl | rfl | rfl | rfl | rfl
                                · exact n0
                                · exact n7
                                · exact n8
                                · exact n9
                                · exact n10
                                · exact n11
                                · exact n12
                                · exact n1
                                · exact n2
                                · exact n3
                                · exact n4
                                · exact n5
                                · exact n6) n13
                              rw [hco] at ho
                              obtain ⟨r, hr, hr2⟩ := head_byte S hp
                              obtain ⟨c, hc⟩ : ∃ c, S[0] = c := ⟨_, rfl⟩
                              rw [hc] at hr
                              rw [hr] at ho
                              obtain ⟨T, hT⟩ : ∃ T, S.extract 1 S.size = T := ⟨_, rfl⟩
                              rw [hT] at hr2
                              have hTs : T.size ≤ maxLen := by
                                rw [← len_list, hr2]
                                have h1 := len_list S
                                rw [hr] at h1
                                simp at h1
                                omega
                              have hS1 : (1 : Int) ≤ (S.size : Int) := by omega
                              clear hco n0 n1 n2 n3 n4 n5 n6 n7 n8 n9 n10 n11 n12 n13
                              have HOO := Lib.hid ho
                              have HR := Lib.hid hr
                              have HR2 := Lib.hid hr2
                              have HTe := Lib.hid hT
                              clear ho hr hr2
                              go_enter Tryz.func16, Tryz.ntmps16
                              go_upto_region 1 with fail
                              generalize w.alloc zObj = W1 at HZ ⊢
                              go_wp2_with fail
                              by_cases h59 : c = 59
                              · subst h59
                                have B59 : Hid ((S.data.toList.take 1 == [59]) = true) := by show _ = _; rw [HR.out]; simp
                                have ho := HOO.out
                                have hr := HR.out
                                have hr2 := HR2.out
                                have HO : Hid (o = some { kd 1 with t := T.data.toList }) := by show _ = _; rw [← ho, hr2]; rfl
                                clear ho hr hr2 hc
                                refine (has_c S ⟨#[59]⟩ zS (by decide) true B59 _).mono ?_
                                rintro e' w2 ⟨rfl, rfl⟩
                                obtain ⟨⟨c0, c1, c2, c3, c4, c5, c6, c7, c8, c9⟩, f0, f1, f2, f3, f4, f5, f6, f7, f8, f9⟩ := dr_at HZ.out.a
                                have HF := Lib.hid (dr_fin HZ.out.b HZ.out.a { kd 1 with t := T.data.toList } 0 nils)
                                go_wp2_with fail
                                refine bodyPost_ret (w := drSet W1 w.heap.size { kd 1 with t := T.data.toList } 0 nils) (v := .tuple #[drVal { kd 1 with t := T.data.toList } 0 nils, .bool true]) ?_ rfl ⟨HF.out.2, ?_⟩
                                · clear c0 c1 c2 c3 c4 c5 c6 c7 c8 c9 f0 f1 f2 f3 f4 f5 f6 f7 f8 f9
                                  generalize drSet W1 w.heap.size { kd 1 with t := T.data.toList } 0 nils = WE at HF ⊢
                                  obtain ⟨⟨c0, c1, c2, c3, c4, c5, c6, c7, c8, c9⟩, _⟩ := dr_at HF.out.1
                                  simp [results, Tryz.results16, go_sem, c0, c1, c2, c3, c4, c5, c6, c7, c8, c9] <;> rfl
                                · rw [HO.out]
                                  exact ⟨none, 0, rfl, NumsIn.nil _ _ _⟩
                              · have B59 : Hid ((S.data.toList.take 1 == [59]) = false) := by show _ = _; rw [HR.out]; simp [h59]
                                refine (has_c S ⟨#[59]⟩ zS (by decide) false B59 _).mono ?_
                                rintro e' w2 ⟨rfl, rfl⟩
                                go_wp2_with fail
                                by_cases h84 : c = 84
                                · subst h84
                                  have B84 : Hid ((S.data.toList.take 1 == [84]) = true) := by show _ = _; rw [HR.out]; simp
                                  have ho := HOO.out
                                  have hr := HR.out
                                  have hr2 := HR2.out
                                  have HOT : Hid (rtoolV T.data.toList = o) := by show _ = _; rw [hr2]; exact ho
                                  clear ho hr hr2 hc
                                  refine (has_c S ⟨#[84]⟩ zS (by decide) true B84 _).mono ?_
                                  rintro e' w2 ⟨rfl, rfl⟩
                                  go_wp2_with fail
                                  have HH := HOT.out
                                  unfold rtoolV at HH
                                  cases hrc : rcount T.data.toList 2 with
                                  | none =>
                                    rw [hrc] at HH
                                    have HO : Hid (o = none) := HH.symm
                                    have HT0 : Hid (match rcount T.data.toList 2 with | some (k, _) => (0 : Nat) = k ∧ 0 = nd T.data.toList | none => (0 : Nat) = 0 ∧ 0 = 0) := by rw [hrc]; exact ⟨rfl, rfl⟩
                                    clear HH hrc HOT
                                    refine (rtool_c T hTs 0 0 HT0 _).mono ?_
                                    rintro e' w2 ⟨rfl, rfl⟩
                                    obtain ⟨⟨c0, c1, c2, c3, c4, c5, c6, c7, c8, c9⟩, f0, f1, f2, f3, f4, f5, f6, f7, f8, f9⟩ := dr_at HZ.out.a
                                    have HF := Lib.hid (dr_fin HZ.out.b HZ.out.a D0 0 nils)
                                    go_wp2_with fail
                                    refine bodyPost_ret (w := drSet W1 w.heap.size D0 0 nils) (v := .tuple #[drVal D0 0 nils, .bool false]) ?_ rfl ⟨HF.out.2, ?_⟩
                                    · clear c0 c1 c2 c3 c4 c5 c6 c7 c8 c9 f0 f1 f2 f3 f4 f5 f6 f7 f8 f9
                                      generalize drSet W1 w.heap.size D0 0 nils = WE at HF ⊢
                                      obtain ⟨⟨c0, c1, c2, c3, c4, c5, c6, c7, c8, c9⟩, _⟩ := dr_at HF.out.1
                                      simp [results, Tryz.results16, go_sem, c0, c1, c2, c3, c4, c5, c6, c7, c8, c9] <;> rfl
                                    · rw [HO.out]
                                      exact ⟨D0, none, 0, rfl⟩
                                  | some q =>
                                    obtain ⟨n, rest⟩ := q
                                    rw [hrc] at HH
                                    obtain ⟨d, hd⟩ : ∃ d, nd T.data.toList = d := ⟨_, rfl⟩
                                    have HT0 : Hid (match rcount T.data.toList 2 with | some (k, _) => n = k ∧ d = nd T.data.toList | none => n = 0 ∧ d = 0) := by rw [hrc]; exact ⟨rfl, hd.symm⟩
                                    have hdr : rest = T.data.toList.drop d ∧ d ≠ 0 ∧ d ≤ 2 := by
                                      unfold rcount at hrc
                                      split at hrc
                                      · cases hrc
                                      · simp only [Option.some.injEq, Prod.mk.injEq] at hrc
                                        rw [← hd]
                                        refine ⟨hrc.2.symm, ?_, ?_⟩ <;> omega
                                    have hdl : d ≤ T.size := by rw [← hd, ← len_list]; exact nd_le _
                                    have hTS : T.size + 1 = S.size := by rw [← hT, ByteArray.size_extract]; omega
                                    have hd0 : ((d : Int) == 0) = false := by rw [beq_eq_false_iff_ne]; omega
                                    obtain ⟨D1, hD1⟩ : ∃ D1 : Nat, (1 : Int) + (d : Int) = D1 := ⟨1 + d, by omega⟩
                                    have hD1S : (D1 : Int) ≤ (S.size : Int) := by omega
                                    have hD1z : (0 : Int) ≤ (D1 : Int) := by omega
                                    obtain ⟨Q, hQ⟩ : ∃ Q, S.extract D1 S.size = Q := ⟨_, rfl⟩
                                    have hQl : Q.data.toList = rest := by
                                      rw [hdr.1, ← hQ, ← hT, ext_list, ext_list, List.drop_drop, show 1 + d = D1 by omega]
                                    have hQs : Q.size ≤ S.size := by rw [← hQ, ByteArray.size_extract]; omega
                                    clear hrc hd hdr HOT hT
                                    cases rest with
                                    | nil =>
                                      have HO : Hid (o = some { kd 6 with n := n }) := HH.symm
                                      have hQe : (Q.toList == []) = true := by rw [str_is]; exact decide_eq_true hQl
                                      have hQi : Q.toList.isEmpty = true := by rw [Lib.toList_data, hQl]; rfl
                                      clear HH hQl
                                      refine (rtool_c T hTs n d HT0 _).mono ?_
                                      rintro e' w2 ⟨rfl, rfl⟩
                                      obtain ⟨⟨c0, c1, c2, c3, c4, c5, c6, c7, c8, c9⟩, f0, f1, f2, f3, f4, f5, f6, f7, f8, f9⟩ := dr_at HZ.out.a
                                      have HF := Lib.hid (dr_fin HZ.out.b HZ.out.a { kd 6 with n := (n : Int) } 0 nils)
                                      go_wp2_with fail
                                      refine bodyPost_ret (w := drSet W1 w.heap.size { kd 6 with n := (n : Int) } 0 nils) (v := .tuple #[drVal { kd 6 with n := (n : Int) } 0 nils, .bool true]) ?_ rfl ⟨HF.out.2, ?_⟩
                                      · clear c0 c1 c2 c3 c4 c5 c6 c7 c8 c9 f0 f1 f2 f3 f4 f5 f6 f7 f8 f9
                                        generalize drSet W1 w.heap.size { kd 6 with n := (n : Int) } 0 nils = WE at HF ⊢
                                        obtain ⟨⟨c0, c1, c2, c3, c4, c5, c6, c7, c8, c9⟩, _⟩ := dr_at HF.out.1
                                        simp [results, Tryz.results16, go_sem, c0, c1, c2, c3, c4, c5, c6, c7, c8, c9] <;> rfl
                                      · rw [HO.out]
                                        exact ⟨none, 0, rfl, NumsIn.nil _ _ _⟩
                                    | cons q0 r1 =>
                                      have hQe : (Q.toList == []) = false := by rw [str_is]; exact decide_eq_false (by rw [hQl]; simp)
                                      have hQi : Q.toList.isEmpty = false := by rw [Lib.toList_data, hQl]; rfl
                                      have hQp : 0 < Q.size := by rw [← len_list, hQl]; simp
                                      obtain ⟨r2, hr1, hr3⟩ := head_byte Q hQp
                                      rw [hQl] at hr1
                                      injection hr1 with hr1 hr4
                                      have hQ0 : Q[0] = q0 := hr1.symm
                                      obtain ⟨X, hX⟩ : ∃ X, Q.extract 1 Q.size = X := ⟨_, rfl⟩
                                      rw [hX, ← hr4] at hr3
                                      have hXz : X.size ≤ 9223372036854775807 := by rw [← hX, ByteArray.size_extract]; omega
                                      have hQpi : (0 : Int) < (Q.size : Int) := by omega
                                      have hQ1 : (1 : Int) ≤ (Q.size : Int) := by omega
                                      clear hr1 hr4 hQl
                                      by_cases h67 : q0 = 67
                                      · subst h67
                                        have hci : ((67 : UInt8).toNat : Int) = 67 := rfl
                                        have hcn : ((67 : Int) != 67) = false := by decide
                                        cases hdv : dec r1 with
                                        | none =>
                                          have HO : Hid (o = none) := by show _ = _; rw [← HH]; simp [hdv]
                                          have HDV : Hid ((dec X.data.toList).getD 0 = 0 ∧ (dec X.data.toList).isSome = false) := by show _ ∧ _; rw [hr3, hdv]; exact ⟨rfl, rfl⟩
                                          clear HH hdv hr3
                                          refine (rtool_c T hTs n d HT0 _).mono ?_
                                          rintro e' w2 ⟨rfl, rfl⟩
                                          go_wp2_with fail
                                          refine (rdec_any X _ hXz).mono ?_
                                          rintro e' w2 ⟨rfl, rfl⟩
                                          rw [HDV.out.1, HDV.out.2]
                                          obtain ⟨⟨p0, p1, p2, p3, p4, p5, p6, p7, p8, p9⟩, q0, q1, q2, q3, q4, q5, q6, q7, q8, q9⟩ := dr_at HZ.out.a
                                          have hlt := (Array.getElem?_eq_some_iff.1 HZ.out.a).1
                                          have HF := Lib.hid (dr_fin HZ.out.b HZ.out.a { kd 4 with n := (n : Int), nums := [0] } 0 (.slice (some ⟨W1.heap.size, 0, none⟩) 1 1))
                                          have hsz : (drSet W1 w.heap.size { kd 4 with n := (n : Int), nums := [0] } 0 (.slice (some ⟨W1.heap.size, 0, none⟩) 1 1)).heap.size = W1.heap.size := by simp [drSet, World.setCell]
                                          go_wp2_with fail
                                          clear p0 p1 p2 p3 p4 p5 p6 p7 p8 p9 q0 q1 q2 q3 q4 q5 q6 q7 q8 q9
                                          refine bodyPost_ret (w := (drSet W1 w.heap.size { kd 4 with n := (n : Int), nums := [0] } 0 (.slice (some ⟨W1.heap.size, 0, none⟩) 1 1)).alloc (.cells #[.int .i64 0] 2)) (v := .tuple #[drVal { kd 4 with n := (n : Int), nums := [0] } 0 (.slice (some ⟨W1.heap.size, 0, none⟩) 1 1), .bool false]) ?_ rfl ⟨HF.out.2.alloc HF.out.2.size _, ?_⟩
                                          · generalize drSet W1 w.heap.size { kd 4 with n := (n : Int), nums := [0] } 0 (.slice (some ⟨W1.heap.size, 0, none⟩) 1 1) = WE at HF ⊢
                                            obtain ⟨⟨c0, c1, c2, c3, c4, c5, c6, c7, c8, c9⟩, _⟩ := dr_at (one_below HF.out.1 ((Below.refl _ _).alloc (Nat.le_refl _) (.cells #[.int .i64 0] 2)))
                                            generalize WE.alloc (.cells #[.int .i64 0] 2) = WF at *
                                            simp [results, Tryz.results16, go_sem, c0, c1, c2, c3, c4, c5, c6, c7, c8, c9] <;> rfl
                                          · rw [HO.out]
                                            exact ⟨{ kd 4 with n := (n : Int), nums := [0] }, some ⟨W1.heap.size, 0, none⟩, 1, rfl⟩
                                        | some v =>
                                          have HO : Hid (o = some { kd 4 with n := (n : Int), nums := [v] }) := by show _ = _; rw [← HH]; simp [hdv]
                                          have HDV : Hid ((dec X.data.toList).getD 0 = v ∧ (dec X.data.toList).isSome = true) := by show _ ∧ _; rw [hr3, hdv]; exact ⟨rfl, rfl⟩
                                          clear HH hdv hr3
                                          refine (rtool_c T hTs n d HT0 _).mono ?_
                                          rintro e' w2 ⟨rfl, rfl⟩
                                          go_wp2_with fail
                                          refine (rdec_any X _ hXz).mono ?_
                                          rintro e' w2 ⟨rfl, rfl⟩
                                          rw [HDV.out.1, HDV.out.2]
                                          obtain ⟨⟨p0, p1, p2, p3, p4, p5, p6, p7, p8, p9⟩, q0, q1, q2, q3, q4, q5, q6, q7, q8, q9⟩ := dr_at HZ.out.a
                                          have hlt := (Array.getElem?_eq_some_iff.1 HZ.out.a).1
                                          have HF := Lib.hid (dr_fin HZ.out.b HZ.out.a { kd 4 with n := (n : Int), nums := [v] } 0 (.slice (some ⟨W1.heap.size, 0, none⟩) 1 1))
                                          have hsz : (drSet W1 w.heap.size { kd 4 with n := (n : Int), nums := [v] } 0 (.slice (some ⟨W1.heap.size, 0, none⟩) 1 1)).heap.size = W1.heap.size := by simp [drSet, World.setCell]
                                          go_wp2_with fail
                                          clear p0 p1 p2 p3 p4 p5 p6 p7 p8 p9 q0 q1 q2 q3 q4 q5 q6 q7 q8 q9
                                          refine bodyPost_ret (w := (drSet W1 w.heap.size { kd 4 with n := (n : Int), nums := [v] } 0 (.slice (some ⟨W1.heap.size, 0, none⟩) 1 1)).alloc (.cells #[.int .i64 v] 2)) (v := .tuple #[drVal { kd 4 with n := (n : Int), nums := [v] } 0 (.slice (some ⟨W1.heap.size, 0, none⟩) 1 1), .bool true]) ?_ rfl ⟨HF.out.2.alloc HF.out.2.size _, ?_⟩
                                          · generalize drSet W1 w.heap.size { kd 4 with n := (n : Int), nums := [v] } 0 (.slice (some ⟨W1.heap.size, 0, none⟩) 1 1) = WE at HF ⊢
                                            obtain ⟨⟨c0, c1, c2, c3, c4, c5, c6, c7, c8, c9⟩, _⟩ := dr_at (one_below HF.out.1 ((Below.refl _ _).alloc (Nat.le_refl _) (.cells #[.int .i64 v] 2)))
                                            generalize WE.alloc (.cells #[.int .i64 v] 2) = WF at *
                                            simp [results, Tryz.results16, go_sem, c0, c1, c2, c3, c4, c5, c6, c7, c8, c9] <;> rfl
                                          · rw [HO.out]
                                            have hn := heap_alloc_new (drSet W1 w.heap.size { kd 4 with n := (n : Int), nums := [v] } 0 (.slice (some ⟨W1.heap.size, 0, none⟩) 1 1)) (.cells #[.int .i64 v] 2)
                                            rw [hsz] at hn
                                            refine ⟨_, _, rfl, fun _ => ⟨W1.heap.size, 0, _, rfl, HZ.out.b.size, hn, fun i hi => ?_⟩⟩
                                            obtain rfl : i = 0 := by simp at hi; omega
                                            rfl
                                      · have g67 : ((q0.toNat : Int) == 67) = false := by rw [beq_eq_false_iff_ne]; intro e; exact h67 (UInt8.toNat_inj.1 (by show q0.toNat = 67; omega))
                                        have g67n : ((q0.toNat : Int) != 67) = true := by rw [bne, g67]; rfl
                                        have HO : Hid (o = none) := by show _ = _; rw [← HH]; simp [h67]
                                        clear HH hr3
                                        refine (rtool_c T hTs n d HT0 _).mono ?_
                                        rintro e' w2 ⟨rfl, rfl⟩
                                        obtain ⟨⟨c0, c1, c2, c3, c4, c5, c6, c7, c8, c9⟩, f0, f1, f2, f3, f4, f5, f6, f7, f8, f9⟩ := dr_at HZ.out.a
                                        have HF := Lib.hid (dr_fin HZ.out.b HZ.out.a D0 0 nils)
                                        go_wp2_with fail
                                        refine bodyPost_ret (w := drSet W1 w.heap.size D0 0 nils) (v := .tuple #[drVal D0 0 nils, .bool false]) ?_ rfl ⟨HF.out.2, ?_⟩
                                        · clear c0 c1 c2 c3 c4 c5 c6 c7 c8 c9 f0 f1 f2 f3 f4 f5 f6 f7 f8 f9
                                          generalize drSet W1 w.heap.size D0 0 nils = WE at HF ⊢
                                          obtain ⟨⟨c0, c1, c2, c3, c4, c5, c6, c7, c8, c9⟩, _⟩ := dr_at HF.out.1
                                          simp [results, Tryz.results16, go_sem, c0, c1, c2, c3, c4, c5, c6, c7, c8, c9] <;> rfl
                                        · rw [HO.out]
                                          exact ⟨D0, none, 0, rfl⟩
                                · have B84 : Hid ((S.data.toList.take 1 == [84]) = false) := by show _ = _; rw [HR.out]; simp [h84]
                                  refine (has_c S ⟨#[84]⟩ zS (by decide) false B84 _).mono ?_
                                  rintro e' w2 ⟨rfl, rfl⟩
                                  go_wp2_with fail
                                  cases hA : (S.data.toList.take 3 == [71, 48, 48]) with
                                  | true =>
                                    have B71 := Lib.hid hA
                                    have ho := HOO.out
                                    have hr := HR.out
                                    have hr2 := HR2.out
                                    obtain ⟨r3, hr3⟩ := take3 _ hA
                                    rw [hr] at hr3
                                    injection hr3 with hr3a hr3
                                    subst hr3a hr3
                                    obtain ⟨U, hU⟩ : ∃ U, S.extract 3 S.size = U := ⟨_, rfl⟩
                                    have hUl : U.data.toList = r3 := by rw [← hU, ext_list, hr]; rfl
                                    have hUs : U.size ≤ maxLen := by rw [← hU, ByteArray.size_extract]; omega
                                    have hS3 : (3 : Int) ≤ (S.size : Int) := by rw [← len_list, hr]; simp; omega
                                    have HC : Hid (rplaced 9 U.data.toList = o) := by show _ = _; rw [hUl]; exact ho
                                    clear ho hr hr2 hUl
                                    refine (has_c S ⟨#[71, 48, 48]⟩ zS (by decide) true B71 _).mono ?_
                                    rintro e' w2 ⟨rfl, rfl⟩
                                    have hz1 := (Array.getElem?_eq_some_iff.1 HZ.out.a).1
                                    go_wp2_with fail
                                    with_reducible refine (rplaced_c 9 U hUs o HC _).mono ?_
                                    intro en W2 hco2
                                    have hbb := hco2.1
                                    have hres := hco2.2
                                    have HZ0 := HZ
                                    clear HZ
                                    have HZ := Lib.hid (HZ0.out.below hbb)
                                    have hsz := HZ0.out.b.size
                                    clear HZ0 hco2 hbb
                                    cases o with
                                    | none =>
                                      have hres : en = .returned (.tuple #[drVal D0 0 nils, .bool false]) := hres
                                      subst hres
                                      dsimp only [drVal, drCells, D0]
                                      obtain ⟨⟨c0, c1, c2, c3, c4, c5, c6, c7, c8, c9⟩, f0, f1, f2, f3, f4, f5, f6, f7, f8, f9⟩ := dr_at HZ.out.a
                                      have HF := Lib.hid (dr_fin HZ.out.b HZ.out.a D0 0 nils)
                                      go_wp2_with fail
                                      refine bodyPost_ret (w := drSet W2 w.heap.size D0 0 nils) (v := .tuple #[drVal D0 0 nils, .bool false]) ?_ rfl ⟨HF.out.2, ?_⟩
                                      · clear c0 c1 c2 c3 c4 c5 c6 c7 c8 c9 f0 f1 f2 f3 f4 f5 f6 f7 f8 f9
                                        generalize drSet W2 w.heap.size D0 0 nils = WE at HF ⊢
                                        obtain ⟨⟨c0, c1, c2, c3, c4, c5, c6, c7, c8, c9⟩, _⟩ := dr_at HF.out.1
                                        simp [results, Tryz.results16, go_sem, c0, c1, c2, c3, c4, c5, c6, c7, c8, c9] <;> rfl
                                      · exact ⟨D0, none, 0, rfl⟩
                                    | some d =>
                                      obtain ⟨p, cp, rfl, hn⟩ := hres
                                      have HN := Lib.hid hn
                                      clear hn
                                      dsimp only [drVal, drCells]
                                      obtain ⟨⟨c0, c1, c2, c3, c4, c5, c6, c7, c8, c9⟩, f0, f1, f2, f3, f4, f5, f6, f7, f8, f9⟩ := dr_at HZ.out.a
                                      have HF := Lib.hid (dr_fin HZ.out.b HZ.out.a d 0 (.slice p d.nums.length cp))
                                      go_wp2_with fail
                                      refine bodyPost_ret (w := drSet W2 w.heap.size d 0 (.slice p d.nums.length cp)) (v := .tuple #[drVal d 0 (.slice p d.nums.length cp), .bool true]) ?_ rfl ⟨HF.out.2, ?_⟩
                                      · clear c0 c1 c2 c3 c4 c5 c6 c7 c8 c9 f0 f1 f2 f3 f4 f5 f6 f7 f8 f9
                                        generalize drSet W2 w.heap.size d 0 (.slice p d.nums.length cp) = WE at HF ⊢
                                        obtain ⟨⟨c0, c1, c2, c3, c4, c5, c6, c7, c8, c9⟩, _⟩ := dr_at HF.out.1
                                        simp [results, Tryz.results16, go_sem, c0, c1, c2, c3, c4, c5, c6, c7, c8, c9] <;> rfl
                                      · exact ⟨p, cp, rfl, (drSet_nums hz1 HN.out _ _ _).mono hsz⟩
                                  | false =>
                                    have B71 := Lib.hid hA
                                    refine (has_c S ⟨#[71, 48, 48]⟩ zS (by decide) false B71 _).mono ?_
                                    rintro e' w2 ⟨rfl, rfl⟩
                                    go_wp2_with fail
                                    cases hB : (S.data.toList.take 3 == [71, 48, 49]) with
                                    | true =>
                                      have B72 := Lib.hid hB
                                      have ho := HOO.out
                                      have hr := HR.out
                                      have hr2 := HR2.out
                                      obtain ⟨r3, hr3⟩ := take3b _ hB
                                      rw [hr] at hr3
                                      injection hr3 with hr3a hr3
                                      subst hr3a hr3
                                      obtain ⟨U, hU⟩ : ∃ U, S.extract 3 S.size = U := ⟨_, rfl⟩
                                      have hUl : U.data.toList = r3 := by rw [← hU, ext_list, hr]; rfl
                                      have hUs : U.size ≤ maxLen := by rw [← hU, ByteArray.size_extract]; omega
                                      have hS3 : (3 : Int) ≤ (S.size : Int) := by rw [← len_list, hr]; simp; omega
                                      have HC : Hid (rplaced 11 U.data.toList = o) := by show _ = _; rw [hUl]; exact ho
                                      clear ho hr hr2 hUl
                                      refine (has_c S ⟨#[71, 48, 49]⟩ zS (by decide) true B72 _).mono ?_
                                      rintro e' w2 ⟨rfl, rfl⟩
                                      have hz1 := (Array.getElem?_eq_some_iff.1 HZ.out.a).1
                                      go_wp2_with fail
                                      with_reducible refine (rplaced_c 11 U hUs o HC _).mono ?_
                                      intro en W2 hco2
                                      have hbb := hco2.1
                                      have hres := hco2.2
                                      have HZ0 := HZ
                                      clear HZ
                                      have HZ := Lib.hid (HZ0.out.below hbb)
                                      have hsz := HZ0.out.b.size
                                      clear HZ0 hco2 hbb
                                      cases o with
                                      | none =>
                                        have hres : en = .returned (.tuple #[drVal D0 0 nils, .bool false]) := hres
                                        subst hres
                                        dsimp only [drVal, drCells, D0]
                                        obtain ⟨⟨c0, c1, c2, c3, c4, c5, c6, c7, c8, c9⟩, f0, f1, f2, f3, f4, f5, f6, f7, f8, f9⟩ := dr_at HZ.out.a
                                        have HF := Lib.hid (dr_fin HZ.out.b HZ.out.a D0 0 nils)
                                        go_wp2_with fail
                                        refine bodyPost_ret (w := drSet W2 w.heap.size D0 0 nils) (v := .tuple #[drVal D0 0 nils, .bool false]) ?_ rfl ⟨HF.out.2, ?_⟩
                                        · clear c0 c1 c2 c3 c4 c5 c6 c7 c8 c9 f0 f1 f2 f3 f4 f5 f6 f7 f8 f9
                                          generalize drSet W2 w.heap.size D0 0 nils = WE at HF ⊢
                                          obtain ⟨⟨c0, c1, c2, c3, c4, c5, c6, c7, c8, c9⟩, _⟩ := dr_at HF.out.1
                                          simp [results, Tryz.results16, go_sem, c0, c1, c2, c3, c4, c5, c6, c7, c8, c9] <;> rfl
                                        · exact ⟨D0, none, 0, rfl⟩
                                      | some d =>
                                        obtain ⟨p, cp, rfl, hn⟩ := hres
                                        have HN := Lib.hid hn
                                        clear hn
                                        dsimp only [drVal, drCells]
                                        obtain ⟨⟨c0, c1, c2, c3, c4, c5, c6, c7, c8, c9⟩, f0, f1, f2, f3, f4, f5, f6, f7, f8, f9⟩ := dr_at HZ.out.a
                                        have HF := Lib.hid (dr_fin HZ.out.b HZ.out.a d 0 (.slice p d.nums.length cp))
                                        go_wp2_with fail
                                        refine bodyPost_ret (w := drSet W2 w.heap.size d 0 (.slice p d.nums.length cp)) (v := .tuple #[drVal d 0 (.slice p d.nums.length cp), .bool true]) ?_ rfl ⟨HF.out.2, ?_⟩
                                        · clear c0 c1 c2 c3 c4 c5 c6 c7 c8 c9 f0 f1 f2 f3 f4 f5 f6 f7 f8 f9
                                          generalize drSet W2 w.heap.size d 0 (.slice p d.nums.length cp) = WE at HF ⊢
                                          obtain ⟨⟨c0, c1, c2, c3, c4, c5, c6, c7, c8, c9⟩, _⟩ := dr_at HF.out.1
                                          simp [results, Tryz.results16, go_sem, c0, c1, c2, c3, c4, c5, c6, c7, c8, c9] <;> rfl
                                        · exact ⟨p, cp, rfl, (drSet_nums hz1 HN.out _ _ _).mono hsz⟩
                                    | false =>
                                      have B72 := Lib.hid hB
                                      refine (has_c S ⟨#[71, 48, 49]⟩ zS (by decide) false B72 _).mono ?_
                                      rintro e' w2 ⟨rfl, rfl⟩
                                      go_wp2_with fail
                                      by_cases h82 : c = 82
                                      · subst h82
                                        have B82 : Hid ((S.data.toList.take 1 == [82]) = true) := by show _ = _; rw [HR.out]; simp
                                        have ho := HOO.out
                                        have hr := HR.out
                                        have hr2 := HR2.out
                                        have HOT : Hid (ragain r = o) := ho
                                        clear ho
                                        refine (has_c S ⟨#[82]⟩ zS (by decide) true B82 _).mono ?_
                                        rintro e' w2 ⟨rfl, rfl⟩
                                        go_wp2_with fail
                                        obtain ⟨k, hk⟩ : ∃ k, nd r = k := ⟨_, rfl⟩
                                        have HK : Hid (nd (S.data.toList.drop 1) = k) := by show _ = _; rw [hr]; exact hk
                                        have hkl : k ≤ T.size := by rw [← hk, ← len_list, hr2]; exact nd_le _
                                        have hTS : T.size + 1 = S.size := by rw [← hT, ByteArray.size_extract]; omega
                                        have hrcd : rcount r 4 = if k = 0 ∨ 4 < k ∨ r.headD 0 = 48 then none else some (val (r.take k), r.drop k) := by unfold rcount; rw [hk]
                                        have HNO : Hid (rcount r 4 = none → o = none) := by
                                          intro hn
                                          rw [← HOT.out]
                                          unfold ragain
                                          rw [hn]
                                        by_cases k1 : (k : Int) < 1
                                        · have HO : Hid (o = none) := HNO.out (by rw [hrcd, if_pos (.inl (by omega))])
                                          clear hr hr2 hrcd hk HNO HOT
                                          refine (run_at S 1 1 rfl (by omega) k HK _ zS).mono ?_
                                          rintro e' w2 ⟨rfl, rfl⟩
                                          obtain ⟨⟨c0, c1, c2, c3, c4, c5, c6, c7, c8, c9⟩, f0, f1, f2, f3, f4, f5, f6, f7, f8, f9⟩ := dr_at HZ.out.a
                                          have HF := Lib.hid (dr_fin HZ.out.b HZ.out.a D0 0 nils)
                                          go_wp2_with fail
                                          refine bodyPost_ret (w := drSet W1 w.heap.size D0 0 nils) (v := .tuple #[drVal D0 0 nils, .bool false]) ?_ rfl ⟨HF.out.2, ?_⟩
                                          · clear c0 c1 c2 c3 c4 c5 c6 c7 c8 c9 f0 f1 f2 f3 f4 f5 f6 f7 f8 f9
                                            generalize drSet W1 w.heap.size D0 0 nils = WE at HF ⊢
                                            obtain ⟨⟨c0, c1, c2, c3, c4, c5, c6, c7, c8, c9⟩, _⟩ := dr_at HF.out.1
                                            simp [results, Tryz.results16, go_sem, c0, c1, c2, c3, c4, c5, c6, c7, c8, c9] <;> rfl
                                          · rw [HO.out]
                                            exact ⟨D0, none, 0, rfl⟩
                                        · by_cases k4 : (4 : Int) < (k : Int)
                                          · have HO : Hid (o = none) := HNO.out (by rw [hrcd, if_pos (.inr (.inl (by omega)))])
                                            clear hr hr2 hrcd hk HNO HOT
                                            refine (run_at S 1 1 rfl (by omega) k HK _ zS).mono ?_
                                            rintro e' w2 ⟨rfl, rfl⟩
                                            obtain ⟨⟨c0, c1, c2, c3, c4, c5, c6, c7, c8, c9⟩, f0, f1, f2, f3, f4, f5, f6, f7, f8, f9⟩ := dr_at HZ.out.a
                                            have HF := Lib.hid (dr_fin HZ.out.b HZ.out.a D0 0 nils)
                                            go_wp2_with fail
                                            refine bodyPost_ret (w := drSet W1 w.heap.size D0 0 nils) (v := .tuple #[drVal D0 0 nils, .bool false]) ?_ rfl ⟨HF.out.2, ?_⟩
                                            · clear c0 c1 c2 c3 c4 c5 c6 c7 c8 c9 f0 f1 f2 f3 f4 f5 f6 f7 f8 f9
                                              generalize drSet W1 w.heap.size D0 0 nils = WE at HF ⊢
                                              obtain ⟨⟨c0, c1, c2, c3, c4, c5, c6, c7, c8, c9⟩, _⟩ := dr_at HF.out.1
                                              simp [results, Tryz.results16, go_sem, c0, c1, c2, c3, c4, c5, c6, c7, c8, c9] <;> rfl
                                            · rw [HO.out]
                                              exact ⟨D0, none, 0, rfl⟩
                                          · have hS2 : 1 < S.size := by omega
                                            have hS2i : (1 : Int) < (S.size : Int) := by omega
                                            obtain ⟨c1, hc1⟩ : ∃ c1, S[1] = c1 := ⟨_, rfl⟩
                                            have hrl : 0 < r.length := by rw [← hr2, len_list]; omega
                                            have hcr : r.headD 0 = c1 := by
                                              obtain ⟨h3, h4⟩ := byte_list S 1 hS2
                                              rw [hc1] at h4
                                              rw [head_get _ hrl, ← h4]
                                              simp only [hr, List.getElem_cons_succ]
                                            by_cases g48 : c1 = 48
                                            · subst g48
                                              have hci : ((48 : UInt8).toNat : Int) = 48 := rfl
                                              have HO : Hid (o = none) := HNO.out (by rw [hrcd, if_pos (.inr (.inr hcr))])
                                              clear hr hr2 hrcd hk HNO HOT hcr hrl
                                              refine (run_at S 1 1 rfl (by omega) k HK _ zS).mono ?_
                                              rintro e' w2 ⟨rfl, rfl⟩
                                              obtain ⟨⟨c0, c1, c2, c3, c4, c5, c6, c7, c8, c9⟩, f0, f1, f2, f3, f4, f5, f6, f7, f8, f9⟩ := dr_at HZ.out.a
                                              have HF := Lib.hid (dr_fin HZ.out.b HZ.out.a D0 0 nils)
                                              go_wp2_with fail
                                              refine bodyPost_ret (w := drSet W1 w.heap.size D0 0 nils) (v := .tuple #[drVal D0 0 nils, .bool false]) ?_ rfl ⟨HF.out.2, ?_⟩
                                              · clear c0 c1 c2 c3 c4 c5 c6 c7 c8 c9 f0 f1 f2 f3 f4 f5 f6 f7 f8 f9
                                                generalize drSet W1 w.heap.size D0 0 nils = WE at HF ⊢
                                                obtain ⟨⟨c0, c1, c2, c3, c4, c5, c6, c7, c8, c9⟩, _⟩ := dr_at HF.out.1
                                                simp [results, Tryz.results16, go_sem, c0, c1, c2, c3, c4, c5, c6, c7, c8, c9] <;> rfl
                                              · rw [HO.out]
                                                exact ⟨D0, none, 0, rfl⟩
                                            · have g48b : ((c1.toNat : Int) == 48) = false := by rw [beq_eq_false_iff_ne]; intro e; exact g48 (UInt8.toNat_inj.1 (by show c1.toNat = 48; omega))
                                              rw [if_neg (by rintro (h | h | h); omega; omega; exact g48 (hcr.symm.trans h))] at hrcd
                                              have HOA := HOT.out
                                              rw [ragain_eq hrcd] at HOA
                                              obtain ⟨n, hn⟩ : ∃ n, val (r.take k) = n := ⟨_, rfl⟩
                                              rw [hn] at HOA
                                              obtain ⟨K1, hK1⟩ : ∃ K1 : Nat, (1 : Int) + (k : Int) = K1 := ⟨1 + k, by omega⟩
                                              have hK1S : (K1 : Int) ≤ (S.size : Int) := by omega
                                              have hK1z : (0 : Int) ≤ (K1 : Int) := by omega
                                              have hK11 : (1 : Int) ≤ (K1 : Int) := by omega
                                              obtain ⟨V, hV⟩ : ∃ V, S.extract K1 S.size = V := ⟨_, rfl⟩
                                              obtain ⟨M, hM⟩ : ∃ M, S.extract 1 K1 = M := ⟨_, rfl⟩
                                              have hVl : V.data.toList = r.drop k := by rw [← hV, ext_list, hr, show K1 = k + 1 by omega]; rfl
                                              have hVs : V.size ≤ maxLen := by rw [← hV, ByteArray.size_extract]; omega
                                              have hMl : M.data.toList = r.take k := by rw [← hM, sub_list, hr, show K1 = k + 1 by omega]; rfl
                                              have hMz : M.size ≤ 18 := by rw [← hM, ByteArray.size_extract]; omega
                                              have HML := Lib.hid hMl
                                              have HMD : Hid (∀ c ∈ r.take k, isD c = true) := take_nd _ _ (by rw [hk]; exact Nat.le_refl _)
                                              have HMV : Hid ((val (r.take k) : Int) = (n : Int)) := by show _ = _; rw [hn]
                                              obtain ⟨o2, ho2⟩ : ∃ o2, rplaced 12 V.data.toList = o2 := ⟨_, rfl⟩
                                              rw [← hVl, ho2] at HOA
                                              have HO2 := Lib.hid ho2
                                              have HOB := Lib.hid HOA
                                              clear hr hr2 hrcd hk HNO HOT hcr hrl HOA hn hVl hMl ho2
                                              refine (run_at S 1 1 rfl (by omega) k HK _ zS).mono ?_
                                              rintro e' w2 ⟨rfl, rfl⟩
                                              have hz1 := (Array.getElem?_eq_some_iff.1 HZ.out.a).1
                                              go_wp2_with fail
                                              with_reducible refine (rplaced_c 12 V hVs o2 HO2 _).mono ?_
                                              intro en W2 hco2
                                              have hbb := hco2.1
                                              have hres := hco2.2
                                              have HZ0 := HZ
                                              clear HZ
                                              have HZ := Lib.hid (HZ0.out.below hbb)
                                              have hsz := HZ0.out.b.size
                                              clear HZ0 hco2 hbb
                                              cases o2 with
                                              | none =>
                                                have hres : en = .returned (.tuple #[drVal D0 0 nils, .bool false]) := hres
                                                subst hres
                                                have HO : Hid (o = none) := HOB.out.symm
                                                dsimp only [drVal, drCells, D0]
                                                go_upto_region 49 with fail
                                                have HB10 : Hid (Below W2.heap.size W2 (W2.alloc (drObj D0 0 nils))) := (Below.refl _ _).alloc (Nat.le_refl _) _
                                                have HO10 := Lib.hid (heap_alloc_new W2 (drObj D0 0 nils))
                                                have HZ0 := HZ
                                                clear HZ
                                                have HZ := Lib.hid (HZ0.out.below HB10.out)
                                                have hne : w.heap.size < W2.heap.size := (Array.getElem?_eq_some_iff.1 HZ0.out.a).1
                                                clear HZ0 HB10
                                                change Code.wp _ _ _ _ (W2.alloc (drObj D0 0 nils))
                                                obtain ⟨g10, hg10⟩ : ∃ g, W2.heap.size = g := ⟨_, rfl⟩
                                                rw [hg10] at HO10 hne
                                                generalize W2.alloc (drObj D0 0 nils) = W3 at HO10 HZ ⊢
                                                rw [hg10]
                                                clear hg10
                                                obtain ⟨⟨d0, d1, d2, d3, d4, d5, d6, d7, d8, d9⟩, k0, k1', k2, k3, k4', k5, k6, k7, k8, k9⟩ := dr_at HO10.out
                                                go_wp2_with fail
                                                refine (whole_at M _ HML HMD hMz _ HMV _).mono ?_
                                                rintro e' w2 ⟨rfl, rfl⟩
                                                go_upto_region 50 with fail
                                                have HO11 := Lib.hid (st2 HO10.out (.int .i64 (n : Int)))
                                                have HZ0 := HZ
                                                clear HZ
                                                have HZ : Hid (ZAt w (W3.setCell ⟨g10, 2, none⟩ (.int .i64 (n : Int)))) := ⟨(Below.heap_setCell _ _ _ _ (by show w.heap.size ≠ g10; omega)).trans HZ0.out.a, HZ0.out.b.setCell (by show w.heap.size ≤ g10; omega) _⟩
                                                clear HZ0 HO10 d0 d1 d2 d3 d4 d5 d6 d7 d8 d9 k0 k1' k2 k3 k4' k5 k6 k7 k8 k9
                                                generalize W3.setCell ⟨g10, 2, none⟩ (.int .i64 (n : Int)) = W4 at HO11 HZ ⊢
                                                obtain ⟨⟨d0, d1, d2, d3, d4, d5, d6, d7, d8, d9⟩, _⟩ := dr_at HO11.out
                                                obtain ⟨⟨c0, c1, c2, c3, c4, c5, c6, c7, c8, c9⟩, f0, f1, f2, f3, f4, f5, f6, f7, f8, f9⟩ := dr_at HZ.out.a
                                                have HF := Lib.hid (dr_fin HZ.out.b HZ.out.a { D0 with n := (n : Int) } 0 nils)
                                                go_wp2_with fail
                                                refine bodyPost_ret (w := drSet W4 w.heap.size { D0 with n := (n : Int) } 0 nils) (v := .tuple #[drVal { D0 with n := (n : Int) } 0 nils, .bool false]) ?_ rfl ⟨HF.out.2, ?_⟩
                                                · clear c0 c1 c2 c3 c4 c5 c6 c7 c8 c9 f0 f1 f2 f3 f4 f5 f6 f7 f8 f9
                                                  generalize drSet W4 w.heap.size { D0 with n := (n : Int) } 0 nils = WE at HF ⊢
                                                  obtain ⟨⟨c0, c1, c2, c3, c4, c5, c6, c7, c8, c9⟩, _⟩ := dr_at HF.out.1
                                                  simp [results, Tryz.results16, go_sem, c0, c1, c2, c3, c4, c5, c6, c7, c8, c9] <;> rfl
                                                · rw [HO.out]
                                                  exact ⟨{ D0 with n := (n : Int) }, none, 0, rfl⟩
                                              | some d2 =>
                                                obtain ⟨x2, y2, hxy, rfl⟩ := rplaced_some HO2.out
                                                obtain ⟨p, cp, rfl, _⟩ := hres
                                                have HO : Hid (o = some { kd 12 with n := (n : Int), x := x2, y := y2 }) := HOB.out.symm
                                                clear hxy
                                                dsimp only [drVal, drCells]
                                                go_upto_region 49 with fail
                                                have HB10 : Hid (Below W2.heap.size W2 (W2.alloc (drObj { kd 12 with x := x2, y := y2 } 0 (.slice p 0 cp)))) := (Below.refl _ _).alloc (Nat.le_refl _) _
                                                have HO10 := Lib.hid (heap_alloc_new W2 (drObj { kd 12 with x := x2, y := y2 } 0 (.slice p 0 cp)))
                                                have HZ0 := HZ
                                                clear HZ
                                                have HZ := Lib.hid (HZ0.out.below HB10.out)
                                                have hne : w.heap.size < W2.heap.size := (Array.getElem?_eq_some_iff.1 HZ0.out.a).1
                                                clear HZ0 HB10
                                                change Code.wp _ _ _ _ (W2.alloc (drObj { kd 12 with x := x2, y := y2 } 0 (.slice p 0 cp)))
                                                obtain ⟨g10, hg10⟩ : ∃ g, W2.heap.size = g := ⟨_, rfl⟩
                                                rw [hg10] at HO10 hne
                                                generalize W2.alloc (drObj { kd 12 with x := x2, y := y2 } 0 (.slice p 0 cp)) = W3 at HO10 HZ ⊢
                                                rw [hg10]
                                                clear hg10
                                                obtain ⟨⟨d0, d1, d2, d3, d4, d5, d6, d7, d8, d9⟩, k0, k1', k2, k3, k4', k5, k6, k7, k8, k9⟩ := dr_at HO10.out
                                                go_wp2_with fail
                                                refine (whole_at M _ HML HMD hMz _ HMV _).mono ?_
                                                rintro e' w2 ⟨rfl, rfl⟩
                                                go_upto_region 50 with fail
                                                have HO11 := Lib.hid (st2 HO10.out (.int .i64 (n : Int)))
                                                have HZ0 := HZ
                                                clear HZ
                                                have HZ : Hid (ZAt w (W3.setCell ⟨g10, 2, none⟩ (.int .i64 (n : Int)))) := ⟨(Below.heap_setCell _ _ _ _ (by show w.heap.size ≠ g10; omega)).trans HZ0.out.a, HZ0.out.b.setCell (by show w.heap.size ≤ g10; omega) _⟩
                                                clear HZ0 HO10 d0 d1 d2 d3 d4 d5 d6 d7 d8 d9 k0 k1' k2 k3 k4' k5 k6 k7 k8 k9
                                                generalize W3.setCell ⟨g10, 2, none⟩ (.int .i64 (n : Int)) = W4 at HO11 HZ ⊢
                                                obtain ⟨⟨d0, d1, d2, d3, d4, d5, d6, d7, d8, d9⟩, _⟩ := dr_at HO11.out
                                                obtain ⟨⟨c0, c1, c2, c3, c4, c5, c6, c7, c8, c9⟩, f0, f1, f2, f3, f4, f5, f6, f7, f8, f9⟩ := dr_at HZ.out.a
                                                have HF := Lib.hid (dr_fin HZ.out.b HZ.out.a { kd 12 with n := (n : Int), x := x2, y := y2 } 0 (.slice p 0 cp))
                                                go_wp2_with fail
                                                refine bodyPost_ret (w := drSet W4 w.heap.size { kd 12 with n := (n : Int), x := x2, y := y2 } 0 (.slice p 0 cp)) (v := .tuple #[drVal { kd 12 with n := (n : Int), x := x2, y := y2 } 0 (.slice p 0 cp), .bool true]) ?_ rfl ⟨HF.out.2, ?_⟩
                                                · clear c0 c1 c2 c3 c4 c5 c6 c7 c8 c9 f0 f1 f2 f3 f4 f5 f6 f7 f8 f9
                                                  generalize drSet W4 w.heap.size { kd 12 with n := (n : Int), x := x2, y := y2 } 0 (.slice p 0 cp) = WE at HF ⊢
                                                  obtain ⟨⟨c0, c1, c2, c3, c4, c5, c6, c7, c8, c9⟩, _⟩ := dr_at HF.out.1
                                                  simp [results, Tryz.results16, go_sem, c0, c1, c2, c3, c4, c5, c6, c7, c8, c9] <;> rfl
                                                · rw [HO.out]
                                                  exact ⟨p, cp, rfl, NumsIn.nil _ _ _⟩
                                      · have B82 : Hid ((S.data.toList.take 1 == [82]) = false) := by show _ = _; rw [HR.out]; simp [h82]
                                        have HOT : Hid (rhit S.data.toList = o) := by
                                          show _ = _
                                          rw [← HOO.out, HR.out]
                                          by_cases h71 : c = 71
                                          · subst h71
                                            rw [rother71 (fun q e => by rw [HR.out, e] at hA; simp at hA) (fun q e => by rw [HR.out, e] at hB; simp at hB)]
                                            exact rhit_no (by decide) (by decide)
                                          · exact (rother_hit h59 h84 h82 h71).symm
                                        clear hA hB
                                        refine (has_c S ⟨#[82]⟩ zS (by decide) false B82 _).mono ?_
                                        rintro e' w2 ⟨rfl, rfl⟩
                                        go_wp2_with fail
                                        have HOH := HOT.out
                                        unfold rhit at HOH
                                        cases hpv : rplace S.data.toList with
                                        | none =>
                                          rw [hpv] at HOH
                                          have HO : Hid (o = none) := HOH.symm
                                          have HPV := Lib.hid hpv
                                          clear HOH hpv HOT
                                          refine (place_c S hsm.out none HPV _).mono ?_
                                          rintro en W2 ⟨⟨X0, Y0, Z0, rfl⟩, hw2⟩
                                          have HZ0 := HZ
                                          clear HZ
                                          have HZ := Lib.hid (HZ0.out.below (drew_below hw2))
                                          clear HZ0 hw2
                                          obtain ⟨⟨c0, c1, c2, c3, c4, c5, c6, c7, c8, c9⟩, f0, f1, f2, f3, f4, f5, f6, f7, f8, f9⟩ := dr_at HZ.out.a
                                          have HF := Lib.hid (dr_fin HZ.out.b HZ.out.a D0 0 nils)
                                          go_wp2_with fail
                                          refine bodyPost_ret (w := drSet W2 w.heap.size D0 0 nils) (v := .tuple #[drVal D0 0 nils, .bool false]) ?_ rfl ⟨HF.out.2, ?_⟩
                                          · clear c0 c1 c2 c3 c4 c5 c6 c7 c8 c9 f0 f1 f2 f3 f4 f5 f6 f7 f8 f9
                                            generalize drSet W2 w.heap.size D0 0 nils = WE at HF ⊢
                                            obtain ⟨⟨c0, c1, c2, c3, c4, c5, c6, c7, c8, c9⟩, _⟩ := dr_at HF.out.1
                                            simp [results, Tryz.results16, go_sem, c0, c1, c2, c3, c4, c5, c6, c7, c8, c9] <;> rfl
                                          · rw [HO.out]
                                            exact ⟨D0, none, 0, rfl⟩
                                        | some q =>
                                          obtain ⟨x, y, z⟩ := q
                                          rw [hpv] at HOH
                                          have HPV := Lib.hid hpv
                                          clear hpv HOT
                                          cases z with
                                          | nil =>
                                            have HO : Hid (o = some { kd 7 with x := x, y := y }) := HOH.symm
                                            clear HOH
                                            refine (place_c S hsm.out (some (x, y, [])) HPV _).mono ?_
                                            rintro en W2 ⟨rfl, hw2⟩
                                            have HZ0 := HZ
                                            clear HZ
                                            have HZ := Lib.hid (HZ0.out.below (drew_below hw2))
                                            clear HZ0 hw2
                                            go_upto_region 55 with fail
                                            have HB16 : Hid (Below W2.heap.size W2 (W2.alloc (drObj { kd 7 with x := x, y := y } 0 nils))) := (Below.refl _ _).alloc (Nat.le_refl _) _
                                            have HO16 := Lib.hid (heap_alloc_new W2 (drObj { kd 7 with x := x, y := y } 0 nils))
                                            have HZ0 := HZ
                                            clear HZ
                                            have HZ := Lib.hid (HZ0.out.below HB16.out)
                                            have hne : w.heap.size < W2.heap.size := (Array.getElem?_eq_some_iff.1 HZ0.out.a).1
                                            clear HZ0 HB16
                                            change Code.wp _ _ _ _ (W2.alloc (drObj { kd 7 with x := x, y := y } 0 nils))
                                            obtain ⟨g16, hg16⟩ : ∃ g, W2.heap.size = g := ⟨_, rfl⟩
                                            rw [hg16] at HO16 hne
                                            generalize W2.alloc (drObj { kd 7 with x := x, y := y } 0 nils) = W3 at HO16 HZ ⊢
                                            rw [hg16]
                                            clear hg16
                                            obtain ⟨⟨d0, d1, d2, d3, d4, d5, d6, d7, d8, d9⟩, k0, k1, k2, k3, k4, k5, k6, k7, k8, k9⟩ := dr_at HO16.out
                                            obtain ⟨⟨c0, c1, c2, c3, c4, c5, c6, c7, c8, c9⟩, f0, f1, f2, f3, f4, f5, f6, f7, f8, f9⟩ := dr_at HZ.out.a
                                            have HF := Lib.hid (dr_fin HZ.out.b HZ.out.a { kd 7 with x := x, y := y } 0 nils)
                                            go_wp2_with fail
                                            refine bodyPost_ret (w := drSet W3 w.heap.size { kd 7 with x := x, y := y } 0 nils) (v := .tuple #[drVal { kd 7 with x := x, y := y } 0 nils, .bool true]) ?_ rfl ⟨HF.out.2, ?_⟩
                                            · clear c0 c1 c2 c3 c4 c5 c6 c7 c8 c9 f0 f1 f2 f3 f4 f5 f6 f7 f8 f9
                                              generalize drSet W3 w.heap.size { kd 7 with x := x, y := y } 0 nils = WE at HF ⊢
                                              obtain ⟨⟨c0, c1, c2, c3, c4, c5, c6, c7, c8, c9⟩, _⟩ := dr_at HF.out.1
                                              simp [results, Tryz.results16, go_sem, c0, c1, c2, c3, c4, c5, c6, c7, c8, c9] <;> rfl
                                            · rw [HO.out]
                                              exact ⟨none, 0, rfl, NumsIn.nil _ _ _⟩
                                          | cons z0 z1 =>
                                            obtain ⟨Z, hZ⟩ : ∃ Z : ByteArray, (⟨(z0 :: z1).toArray⟩ : ByteArray) = Z := ⟨_, rfl⟩
                                            have hZl : Z.data.toList = z0 :: z1 := by rw [← hZ]
                                            have hZn : (Z.toList == []) = false := by rw [str_is, hZl]; exact decide_eq_false (by simp)
                                            have hZi : Z.toList.isEmpty = false := by rw [Lib.toList_data, hZl]; rfl
                                            have hZs : Z.size ≤ S.size := by
                                              have := rplace_len HPV.out
                                              rw [← len_list, hZl, ← len_list]
                                              exact this
                                            cases hB : (Z.data.toList.take 3 == [71, 56, 53]) with
                                            | false =>
                                              have HBZ := Lib.hid hB
                                              have HO : Hid (o = none) := by
                                                show _ = _
                                                rw [← HOH]
                                                split
                                                · rfl
                                                · rename_i e; simp at e
                                                · rename_i q e
                                                  simp only [Option.some.injEq, Prod.mk.injEq] at e
                                                  rw [hZl, e.2.2] at hB
                                                  simp at hB
                                                · rfl
                                              clear HOH hB hZl
                                              refine (place_c S hsm.out (some (x, y, z0 :: z1)) HPV _).mono ?_
                                              rintro en W2 ⟨rfl, hw2⟩
                                              have HZ0 := HZ
                                              clear HZ
                                              have HZ := Lib.hid (HZ0.out.below (drew_below hw2))
                                              clear HZ0 hw2
                                              rw [hZ]
                                              clear hZ
                                              go_wp2_with fail
                                              refine (has_c Z ⟨#[71, 56, 53]⟩ (by omega) (by decide) false HBZ _).mono ?_
                                              rintro e' w2 ⟨rfl, rfl⟩
                                              obtain ⟨⟨c0, c1, c2, c3, c4, c5, c6, c7, c8, c9⟩, f0, f1, f2, f3, f4, f5, f6, f7, f8, f9⟩ := dr_at HZ.out.a
                                              have HF := Lib.hid (dr_fin HZ.out.b HZ.out.a D0 0 nils)
                                              go_wp2_with fail
                                              refine bodyPost_ret (w := drSet W2 w.heap.size D0 0 nils) (v := .tuple #[drVal D0 0 nils, .bool false]) ?_ rfl ⟨HF.out.2, ?_⟩
                                              · clear c0 c1 c2 c3 c4 c5 c6 c7 c8 c9 f0 f1 f2 f3 f4 f5 f6 f7 f8 f9
                                                generalize drSet W2 w.heap.size D0 0 nils = WE at HF ⊢
                                                obtain ⟨⟨c0, c1, c2, c3, c4, c5, c6, c7, c8, c9⟩, _⟩ := dr_at HF.out.1
                                                simp [results, Tryz.results16, go_sem, c0, c1, c2, c3, c4, c5, c6, c7, c8, c9] <;> rfl
                                              · rw [HO.out]
                                                exact ⟨D0, none, 0, rfl⟩
                                            | true =>
                                              obtain ⟨z3, hz3⟩ := take3c _ hB
                                              have HBZ := Lib.hid hB
                                              rw [hZl] at hz3
                                              injection hz3 with hz3a hz3b
                                              subst hz3a hz3b
                                              obtain ⟨V, hV⟩ : ∃ V, Z.extract 3 Z.size = V := ⟨_, rfl⟩
                                              have hVl : V.data.toList = z3 := by rw [← hV, ext_list, hZl]; rfl
                                              have hVs : V.size ≤ maxLen := by rw [← hV, ByteArray.size_extract]; omega
                                              have hZ3 : (3 : Int) ≤ (Z.size : Int) := by rw [← len_list, hZl]; simp; omega
                                              have HVL := Lib.hid hVl
                                              clear hB hVl hZl
                                              cases hqv : rplace z3 with
                                              | none =>
                                                have HO : Hid (o = none) := by show _ = _; rw [← HOH]; simp [hqv]
                                                have HQV : Hid (rplace V.data.toList = none) := by show _ = _; rw [HVL.out]; exact hqv
                                                clear HOH hqv
                                                refine (place_c S hsm.out (some (x, y, 71 :: 56 :: 53 :: z3)) HPV _).mono ?_
                                                rintro en W2 ⟨rfl, hw2⟩
                                                have HZ0 := HZ
                                                clear HZ
                                                have HZ := Lib.hid (HZ0.out.below (drew_below hw2))
                                                clear HZ0 hw2
                                                rw [hZ]
                                                clear hZ
                                                go_wp2_with fail
                                                refine (has_c Z ⟨#[71, 56, 53]⟩ (by omega) (by decide) true HBZ _).mono ?_
                                                rintro e' w2 ⟨rfl, rfl⟩
                                                go_upto_region 55 with fail
                                                have HB16 : Hid (Below W2.heap.size W2 (W2.alloc (drObj { kd 7 with x := x, y := y } 0 nils))) := (Below.refl _ _).alloc (Nat.le_refl _) _
                                                have HO16 := Lib.hid (heap_alloc_new W2 (drObj { kd 7 with x := x, y := y } 0 nils))
                                                have HZ0 := HZ
                                                clear HZ
                                                have HZ := Lib.hid (HZ0.out.below HB16.out)
                                                have hne : w.heap.size < W2.heap.size := (Array.getElem?_eq_some_iff.1 HZ0.out.a).1
                                                clear HZ0 HB16
                                                change Code.wp _ _ _ _ (W2.alloc (drObj { kd 7 with x := x, y := y } 0 nils))
                                                obtain ⟨g16, hg16⟩ : ∃ g, W2.heap.size = g := ⟨_, rfl⟩
                                                rw [hg16] at HO16 hne
                                                generalize W2.alloc (drObj { kd 7 with x := x, y := y } 0 nils) = W3 at HO16 HZ ⊢
                                                rw [hg16]
                                                clear hg16
                                                obtain ⟨⟨d0, d1, d2, d3, d4, d5, d6, d7, d8, d9⟩, k0, k1, k2, k3, k4, k5, k6, k7, k8, k9⟩ := dr_at HO16.out
                                                go_upto_region 57 with fail
                                                have HO17 := Lib.hid (st1 HO16.out (.int .i64 8))
                                                have HZ0 := HZ
                                                clear HZ
                                                have HZ : Hid (ZAt w (W3.setCell ⟨g16, 1, none⟩ (.int .i64 8))) := ⟨(Below.heap_setCell _ _ _ _ (by show w.heap.size ≠ g16; omega)).trans HZ0.out.a, HZ0.out.b.setCell (by show w.heap.size ≤ g16; omega) _⟩
                                                clear HZ0 HO16 d0 d1 d2 d3 d4 d5 d6 d7 d8 d9 k0 k1 k2 k3 k4 k5 k6 k7 k8 k9
                                                generalize W3.setCell ⟨g16, 1, none⟩ (.int .i64 8) = W4 at HO17 HZ ⊢
                                                go_wp2_with fail
                                                refine (place_c V hVs none HQV _).mono ?_
                                                rintro en W5 ⟨⟨X0, Y0, Z0, rfl⟩, hw5⟩
                                                have HZ0 := HZ
                                                clear HZ
                                                have HZ := Lib.hid (HZ0.out.below (drew_below hw5))
                                                have HO18 := Lib.hid (one_below HO17.out (drew_below hw5))
                                                clear HZ0 HO17 hw5
                                                obtain ⟨⟨d0, d1, d2, d3, d4, d5, d6, d7, d8, d9⟩, k0, k1, k2, k3, k4, k5, k6, k7, k8, k9⟩ := dr_at HO18.out
                                                go_upto_region 58 with fail
                                                have HO19 := Lib.hid (st8 (st7 HO18.out (.string X0)) (.string Y0))
                                                have HZ0 := HZ
                                                clear HZ
                                                have HZ : Hid (ZAt w ((W5.setCell ⟨g16, 7, none⟩ (.string X0)).setCell ⟨g16, 8, none⟩ (.string Y0))) := ⟨(Below.heap_setCell _ _ _ _ (by show w.heap.size ≠ g16; omega)).trans ((Below.heap_setCell _ _ _ _ (by show w.heap.size ≠ g16; omega)).trans HZ0.out.a), (HZ0.out.b.setCell (by show w.heap.size ≤ g16; omega) _).setCell (by show w.heap.size ≤ g16; omega) _⟩
                                                clear HZ0 HO18 d0 d1 d2 d3 d4 d5 d6 d7 d8 d9 k0 k1 k2 k3 k4 k5 k6 k7 k8 k9
                                                generalize (W5.setCell ⟨g16, 7, none⟩ (.string X0)).setCell ⟨g16, 8, none⟩ (.string Y0) = W6 at HO19 HZ ⊢
                                                obtain ⟨⟨d0, d1, d2, d3, d4, d5, d6, d7, d8, d9⟩, _⟩ := dr_at HO19.out
                                                obtain ⟨⟨c0, c1, c2, c3, c4, c5, c6, c7, c8, c9⟩, f0, f1, f2, f3, f4, f5, f6, f7, f8, f9⟩ := dr_at HZ.out.a
                                                have HF := Lib.hid (dr_fin HZ.out.b HZ.out.a { kd 8 with x := x, y := y, u := X0.data.toList, v := Y0.data.toList } 0 nils)
                                                go_wp2_with fail
                                                refine bodyPost_ret (w := drSet W6 w.heap.size { kd 8 with x := x, y := y, u := X0.data.toList, v := Y0.data.toList } 0 nils) (v := .tuple #[drVal { kd 8 with x := x, y := y, u := X0.data.toList, v := Y0.data.toList } 0 nils, .bool false]) ?_ rfl ⟨HF.out.2, ?_⟩
                                                · clear c0 c1 c2 c3 c4 c5 c6 c7 c8 c9 f0 f1 f2 f3 f4 f5 f6 f7 f8 f9
                                                  generalize drSet W6 w.heap.size { kd 8 with x := x, y := y, u := X0.data.toList, v := Y0.data.toList } 0 nils = WE at HF ⊢
                                                  obtain ⟨⟨c0, c1, c2, c3, c4, c5, c6, c7, c8, c9⟩, _⟩ := dr_at HF.out.1
                                                  simp [results, Tryz.results16, go_sem, c0, c1, c2, c3, c4, c5, c6, c7, c8, c9] <;> rfl
                                                · rw [HO.out]
                                                  exact ⟨{ kd 8 with x := x, y := y, u := X0.data.toList, v := Y0.data.toList }, none, 0, rfl⟩
                                              | some q2 =>
                                                obtain ⟨u, v, z2⟩ := q2
                                                have HQV : Hid (rplace V.data.toList = some (u, v, z2)) := by show _ = _; rw [HVL.out]; exact hqv
                                                cases z2 with
                                                | nil =>
                                                  have HO : Hid (o = some { kd 8 with x := x, y := y, u := u, v := v }) := by show _ = _; rw [← HOH]; simp [hqv]
                                                  clear HOH hqv
                                                  refine (place_c S hsm.out (some (x, y, 71 :: 56 :: 53 :: z3)) HPV _).mono ?_
                                                  rintro en W2 ⟨rfl, hw2⟩
                                                  have HZ0 := HZ
                                                  clear HZ
                                                  have HZ := Lib.hid (HZ0.out.below (drew_below hw2))
                                                  clear HZ0 hw2
                                                  rw [hZ]
                                                  clear hZ
                                                  go_wp2_with fail
                                                  refine (has_c Z ⟨#[71, 56, 53]⟩ (by omega) (by decide) true HBZ _).mono ?_
                                                  rintro e' w2 ⟨rfl, rfl⟩
                                                  go_upto_region 55 with fail
                                                  have HB16 : Hid (Below W2.heap.size W2 (W2.alloc (drObj { kd 7 with x := x, y := y } 0 nils))) := (Below.refl _ _).alloc (Nat.le_refl _) _
                                                  have HO16 := Lib.hid (heap_alloc_new W2 (drObj { kd 7 with x := x, y := y } 0 nils))
                                                  have HZ0 := HZ
                                                  clear HZ
                                                  have HZ := Lib.hid (HZ0.out.below HB16.out)
                                                  have hne : w.heap.size < W2.heap.size := (Array.getElem?_eq_some_iff.1 HZ0.out.a).1
                                                  clear HZ0 HB16
                                                  change Code.wp _ _ _ _ (W2.alloc (drObj { kd 7 with x := x, y := y } 0 nils))
                                                  obtain ⟨g16, hg16⟩ : ∃ g, W2.heap.size = g := ⟨_, rfl⟩
                                                  rw [hg16] at HO16 hne
                                                  generalize W2.alloc (drObj { kd 7 with x := x, y := y } 0 nils) = W3 at HO16 HZ ⊢
                                                  rw [hg16]
                                                  clear hg16
                                                  obtain ⟨⟨d0, d1, d2, d3, d4, d5, d6, d7, d8, d9⟩, k0, k1, k2, k3, k4, k5, k6, k7, k8, k9⟩ := dr_at HO16.out
                                                  go_upto_region 57 with fail
                                                  have HO17 := Lib.hid (st1 HO16.out (.int .i64 8))
                                                  have HZ0 := HZ
                                                  clear HZ
                                                  have HZ : Hid (ZAt w (W3.setCell ⟨g16, 1, none⟩ (.int .i64 8))) := ⟨(Below.heap_setCell _ _ _ _ (by show w.heap.size ≠ g16; omega)).trans HZ0.out.a, HZ0.out.b.setCell (by show w.heap.size ≤ g16; omega) _⟩
                                                  clear HZ0 HO16 d0 d1 d2 d3 d4 d5 d6 d7 d8 d9 k0 k1 k2 k3 k4 k5 k6 k7 k8 k9
                                                  generalize W3.setCell ⟨g16, 1, none⟩ (.int .i64 8) = W4 at HO17 HZ ⊢
                                                  go_wp2_with fail
                                                  refine (place_c V hVs (some (u, v, [])) HQV _).mono ?_
                                                  rintro en W5 ⟨rfl, hw5⟩
                                                  have HZ0 := HZ
                                                  clear HZ
                                                  have HZ := Lib.hid (HZ0.out.below (drew_below hw5))
                                                  have HO18 := Lib.hid (one_below HO17.out (drew_below hw5))
                                                  clear HZ0 HO17 hw5
                                                  obtain ⟨⟨d0, d1, d2, d3, d4, d5, d6, d7, d8, d9⟩, k0, k1, k2, k3, k4, k5, k6, k7, k8, k9⟩ := dr_at HO18.out
                                                  go_upto_region 58 with fail
                                                  have HO19 := Lib.hid (st8 (st7 HO18.out (.string ⟨u.toArray⟩)) (.string ⟨v.toArray⟩))
                                                  have HZ0 := HZ
                                                  clear HZ
                                                  have HZ : Hid (ZAt w ((W5.setCell ⟨g16, 7, none⟩ (.string ⟨u.toArray⟩)).setCell ⟨g16, 8, none⟩ (.string ⟨v.toArray⟩))) := ⟨(Below.heap_setCell _ _ _ _ (by show w.heap.size ≠ g16; omega)).trans ((Below.heap_setCell _ _ _ _ (by show w.heap.size ≠ g16; omega)).trans HZ0.out.a), (HZ0.out.b.setCell (by show w.heap.size ≤ g16; omega) _).setCell (by show w.heap.size ≤ g16; omega) _⟩
                                                  clear HZ0 HO18 d0 d1 d2 d3 d4 d5 d6 d7 d8 d9 k0 k1 k2 k3 k4 k5 k6 k7 k8 k9
                                                  generalize (W5.setCell ⟨g16, 7, none⟩ (.string ⟨u.toArray⟩)).setCell ⟨g16, 8, none⟩ (.string ⟨v.toArray⟩) = W6 at HO19 HZ ⊢
                                                  obtain ⟨⟨d0, d1, d2, d3, d4, d5, d6, d7, d8, d9⟩, _⟩ := dr_at HO19.out
                                                  obtain ⟨⟨c0, c1, c2, c3, c4, c5, c6, c7, c8, c9⟩, f0, f1, f2, f3, f4, f5, f6, f7, f8, f9⟩ := dr_at HZ.out.a
                                                  have HF := Lib.hid (dr_fin HZ.out.b HZ.out.a { kd 8 with x := x, y := y, u := u, v := v } 0 nils)
                                                  go_wp2_with fail
                                                  refine bodyPost_ret (w := drSet W6 w.heap.size { kd 8 with x := x, y := y, u := u, v := v } 0 nils) (v := .tuple #[drVal { kd 8 with x := x, y := y, u := u, v := v } 0 nils, .bool true]) ?_ rfl ⟨HF.out.2, ?_⟩
                                                  · clear c0 c1 c2 c3 c4 c5 c6 c7 c8 c9 f0 f1 f2 f3 f4 f5 f6 f7 f8 f9
                                                    generalize drSet W6 w.heap.size { kd 8 with x := x, y := y, u := u, v := v } 0 nils = WE at HF ⊢
                                                    obtain ⟨⟨c0, c1, c2, c3, c4, c5, c6, c7, c8, c9⟩, _⟩ := dr_at HF.out.1
                                                    simp [results, Tryz.results16, go_sem, c0, c1, c2, c3, c4, c5, c6, c7, c8, c9] <;> rfl
                                                  · rw [HO.out]
                                                    exact ⟨none, 0, rfl, NumsIn.nil _ _ _⟩
                                                | cons z20 z21 =>
                                                  have HO : Hid (o = none) := by show _ = _; rw [← HOH]; simp [hqv]
                                                  have hz2 := bs_ne z20 z21
                                                  clear HOH hqv
                                                  refine (place_c S hsm.out (some (x, y, 71 :: 56 :: 53 :: z3)) HPV _).mono ?_
                                                  rintro en W2 ⟨rfl, hw2⟩
                                                  have HZ0 := HZ
                                                  clear HZ
                                                  have HZ := Lib.hid (HZ0.out.below (drew_below hw2))
                                                  clear HZ0 hw2
                                                  rw [hZ]
                                                  clear hZ
                                                  go_wp2_with fail
                                                  refine (has_c Z ⟨#[71, 56, 53]⟩ (by omega) (by decide) true HBZ _).mono ?_
                                                  rintro e' w2 ⟨rfl, rfl⟩
                                                  go_upto_region 55 with fail
                                                  have HB16 : Hid (Below W2.heap.size W2 (W2.alloc (drObj { kd 7 with x := x, y := y } 0 nils))) := (Below.refl _ _).alloc (Nat.le_refl _) _
                                                  have HO16 := Lib.hid (heap_alloc_new W2 (drObj { kd 7 with x := x, y := y } 0 nils))
                                                  have HZ0 := HZ
                                                  clear HZ
                                                  have HZ := Lib.hid (HZ0.out.below HB16.out)
                                                  have hne : w.heap.size < W2.heap.size := (Array.getElem?_eq_some_iff.1 HZ0.out.a).1
                                                  clear HZ0 HB16
                                                  change Code.wp _ _ _ _ (W2.alloc (drObj { kd 7 with x := x, y := y } 0 nils))
                                                  obtain ⟨g16, hg16⟩ : ∃ g, W2.heap.size = g := ⟨_, rfl⟩
                                                  rw [hg16] at HO16 hne
                                                  generalize W2.alloc (drObj { kd 7 with x := x, y := y } 0 nils) = W3 at HO16 HZ ⊢
                                                  rw [hg16]
                                                  clear hg16
                                                  obtain ⟨⟨d0, d1, d2, d3, d4, d5, d6, d7, d8, d9⟩, k0, k1, k2, k3, k4, k5, k6, k7, k8, k9⟩ := dr_at HO16.out
                                                  go_upto_region 57 with fail
                                                  have HO17 := Lib.hid (st1 HO16.out (.int .i64 8))
                                                  have HZ0 := HZ
                                                  clear HZ
                                                  have HZ : Hid (ZAt w (W3.setCell ⟨g16, 1, none⟩ (.int .i64 8))) := ⟨(Below.heap_setCell _ _ _ _ (by show w.heap.size ≠ g16; omega)).trans HZ0.out.a, HZ0.out.b.setCell (by show w.heap.size ≤ g16; omega) _⟩
                                                  clear HZ0 HO16 d0 d1 d2 d3 d4 d5 d6 d7 d8 d9 k0 k1 k2 k3 k4 k5 k6 k7 k8 k9
                                                  generalize W3.setCell ⟨g16, 1, none⟩ (.int .i64 8) = W4 at HO17 HZ ⊢
                                                  go_wp2_with fail
                                                  refine (place_c V hVs (some (u, v, z20 :: z21)) HQV _).mono ?_
                                                  rintro en W5 ⟨rfl, hw5⟩
                                                  have HZ0 := HZ
                                                  clear HZ
                                                  have HZ := Lib.hid (HZ0.out.below (drew_below hw5))
                                                  have HO18 := Lib.hid (one_below HO17.out (drew_below hw5))
                                                  clear HZ0 HO17 hw5
                                                  obtain ⟨Z2, hZ2⟩ : ∃ Z : ByteArray, Z = ⟨(z20 :: z21).toArray⟩ := ⟨_, rfl⟩
                                                  rw [← hZ2] at hz2 ⊢
                                                  clear hZ2
                                                  have hz2i : Z2.toList.isEmpty = false := by rw [List.isEmpty_eq_false_iff]; intro e; rw [e] at hz2; simp at hz2
                                                  obtain ⟨⟨d0, d1, d2, d3, d4, d5, d6, d7, d8, d9⟩, k0, k1, k2, k3, k4, k5, k6, k7, k8, k9⟩ := dr_at HO18.out
                                                  go_upto_region 58 with fail
                                                  have HO19 := Lib.hid (st8 (st7 HO18.out (.string ⟨u.toArray⟩)) (.string ⟨v.toArray⟩))
                                                  have HZ0 := HZ
                                                  clear HZ
                                                  have HZ : Hid (ZAt w ((W5.setCell ⟨g16, 7, none⟩ (.string ⟨u.toArray⟩)).setCell ⟨g16, 8, none⟩ (.string ⟨v.toArray⟩))) := ⟨(Below.heap_setCell _ _ _ _ (by show w.heap.size ≠ g16; omega)).trans ((Below.heap_setCell _ _ _ _ (by show w.heap.size ≠ g16; omega)).trans HZ0.out.a), (HZ0.out.b.setCell (by show w.heap.size ≤ g16; omega) _).setCell (by show w.heap.size ≤ g16; omega) _⟩
                                                  clear HZ0 HO18 d0 d1 d2 d3 d4 d5 d6 d7 d8 d9 k0 k1 k2 k3 k4 k5 k6 k7 k8 k9
                                                  generalize (W5.setCell ⟨g16, 7, none⟩ (.string ⟨u.toArray⟩)).setCell ⟨g16, 8, none⟩ (.string ⟨v.toArray⟩) = W6 at HO19 HZ ⊢
                                                  obtain ⟨⟨d0, d1, d2, d3, d4, d5, d6, d7, d8, d9⟩, _⟩ := dr_at HO19.out
                                                  obtain ⟨⟨c0, c1, c2, c3, c4, c5, c6, c7, c8, c9⟩, f0, f1, f2, f3, f4, f5, f6, f7, f8, f9⟩ := dr_at HZ.out.a
                                                  have HF := Lib.hid (dr_fin HZ.out.b HZ.out.a { kd 8 with x := x, y := y, u := u, v := v } 0 nils)
                                                  go_wp2_with fail
                                                  refine bodyPost_ret (w := drSet W6 w.heap.size { kd 8 with x := x, y := y, u := u, v := v } 0 nils) (v := .tuple #[drVal { kd 8 with x := x, y := y, u := u, v := v } 0 nils, .bool false]) ?_ rfl ⟨HF.out.2, ?_⟩
                                                  · clear c0 c1 c2 c3 c4 c5 c6 c7 c8 c9 f0 f1 f2 f3 f4 f5 f6 f7 f8 f9
                                                    generalize drSet W6 w.heap.size { kd 8 with x := x, y := y, u := u, v := v } 0 nils = WE at HF ⊢
                                                    obtain ⟨⟨c0, c1, c2, c3, c4, c5, c6, c7, c8, c9⟩, _⟩ := dr_at HF.out.1
                                                    simp [results, Tryz.results16, go_sem, c0, c1, c2, c3, c4, c5, c6, c7, c8, c9] <;> rfl
                                                  · rw [HO.out]
                                                    exact ⟨{ kd 8 with x := x, y := y, u := u, v := v }, none, 0, rfl⟩
end Go.Proofs.YtecpmnkgikcpnaaGreatDoor.YW
