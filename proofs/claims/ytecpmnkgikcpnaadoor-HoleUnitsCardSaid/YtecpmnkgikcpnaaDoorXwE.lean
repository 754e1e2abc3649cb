/-
  The walk of exce's command.
-/
import Derived.Test.YtecpmnkgikcpnaaDoorXwD
namespace Go.Proofs.YtecpmnkgikcpnaaDoor.XW
open Go.RowKit Go.Proofs.YtecpmnkgikcpnaaDoor.Base Go.Proofs.YtecpmnkgikcpnaaDoor.Dp Go.Proofs.YtecpmnkgikcpnaaDoor.DeciW Go.Proofs.YtecpmnkgikcpnaaDoor.Xp

theorem cmd_other {s : List UInt8} (h : ∀ x ∈ fixed, s ≠ x.1) : cmdV s = otherV s := by
  have hl : fixed.lookup s = none := by
    rw [List.lookup_eq_none_iff]
    intro p hp
    exact bne_iff_ne.2 (h p hp)
  unfold cmdV
  rw [hl]
theorem other_hit {c : UInt8} {r : List UInt8} (h1 : c ≠ 59) (h2 : c ≠ 84) (h3 : c ≠ 82) (h4 : c ≠ 71) : otherV (c :: r) = hitV (c :: r) := by
  unfold otherV
  split
  · rename_i h; injection h with h _; exact absurd h h1
  · rename_i h; injection h with h _; exact absurd h h2
  · rename_i h; injection h with h _; exact absurd h h3
  · rename_i h; injection h with h _; exact absurd h h4
  · rfl

set_option maxRecDepth 100000 in
set_option maxHeartbeats 3200000 in
theorem cmd_c (S : ByteArray) (hs : S.size ≤ maxLen) (hp : 0 < S.size) (o : Option D) (h : Hid (cmdV S.data.toList = o)) (w : World) :
    Calls Tryd.prog 26 #[.string S] w (CmdOut o w) := by
  have hsm := Lib.hid hs
  have HZ : Hid (ZAt w _) := z_new w
  have ho := h.out
  clear h
  by_cases n0 : S.data.toList = [77, 52, 56]
  · obtain rfl : S = ⟨#[77, 52, 56]⟩ := str_eq n0
    have HO : Hid (o = some (kd 2)) := by show _ = _; rw [← ho]; decide +kernel
    clear ho n0
    go_enter Tryd.func26, Tryd.ntmps26
    go_upto_region 1 with fail
    generalize w.alloc zObj = W1 at HZ ⊢
    obtain ⟨⟨c0, c1, c2, c3, c4, c5, c6, c7, c8, c9⟩, f0, f1, f2, f3, f4, f5, f6, f7, f8, f9⟩ := dr_at HZ.out.a
    have HF := Lib.hid (dr_fin HZ.out.b HZ.out.a (kd 2) 0 nils)
    go_wp2_with fail
    refine bodyPost_ret (w := drSet W1 w.heap.size (kd 2) 0 nils) (v := .tuple #[drVal (kd 2) 0 nils, .bool true]) ?_ rfl ⟨HF.out.2, ?_⟩
    · clear c0 c1 c2 c3 c4 c5 c6 c7 c8 c9 f0 f1 f2 f3 f4 f5 f6 f7 f8 f9
      generalize drSet W1 w.heap.size (kd 2) 0 nils = WE at HF ⊢
      obtain ⟨⟨c0, c1, c2, c3, c4, c5, c6, c7, c8, c9⟩, _⟩ := dr_at HF.out.1
      simp [results, Tryd.results26, go_sem, c0, c1, c2, c3, c4, c5, c6, c7, c8, c9] <;> rfl
    · rw [HO.out]
      exact ⟨none, 0, rfl, NumsIn.nil _ _ _⟩
  · by_cases n1 : S.data.toList = [37]
    · obtain rfl : S = ⟨#[37]⟩ := str_eq n1
      have HO : Hid (o = some (kd 5)) := by show _ = _; rw [← ho]; decide +kernel
      clear ho n0 n1
      go_enter Tryd.func26, Tryd.ntmps26
      go_upto_region 1 with fail
      generalize w.alloc zObj = W1 at HZ ⊢
      obtain ⟨⟨c0, c1, c2, c3, c4, c5, c6, c7, c8, c9⟩, f0, f1, f2, f3, f4, f5, f6, f7, f8, f9⟩ := dr_at HZ.out.a
      have HF := Lib.hid (dr_fin HZ.out.b HZ.out.a (kd 5) 0 nils)
      go_wp2_with fail
      refine bodyPost_ret (w := drSet W1 w.heap.size (kd 5) 0 nils) (v := .tuple #[drVal (kd 5) 0 nils, .bool true]) ?_ rfl ⟨HF.out.2, ?_⟩
      · clear c0 c1 c2 c3 c4 c5 c6 c7 c8 c9 f0 f1 f2 f3 f4 f5 f6 f7 f8 f9
        generalize drSet W1 w.heap.size (kd 5) 0 nils = WE at HF ⊢
        obtain ⟨⟨c0, c1, c2, c3, c4, c5, c6, c7, c8, c9⟩, _⟩ := dr_at HF.out.1
        simp [results, Tryd.results26, go_sem, c0, c1, c2, c3, c4, c5, c6, c7, c8, c9] <;> rfl
      · rw [HO.out]
        exact ⟨none, 0, rfl, NumsIn.nil _ _ _⟩
    · by_cases n2 : S.data.toList = [77, 49, 53]
      · obtain rfl : S = ⟨#[77, 49, 53]⟩ := str_eq n2
        have HO : Hid (o = some { kd 10 with on := true }) := by show _ = _; rw [← ho]; decide +kernel
        clear ho n0 n1 n2
        go_enter Tryd.func26, Tryd.ntmps26
        go_upto_region 1 with fail
        generalize w.alloc zObj = W1 at HZ ⊢
        obtain ⟨⟨c0, c1, c2, c3, c4, c5, c6, c7, c8, c9⟩, f0, f1, f2, f3, f4, f5, f6, f7, f8, f9⟩ := dr_at HZ.out.a
        have HF := Lib.hid (dr_fin HZ.out.b HZ.out.a { kd 10 with on := true } 0 nils)
        go_wp2_with fail
        refine bodyPost_ret (w := drSet W1 w.heap.size { kd 10 with on := true } 0 nils) (v := .tuple #[drVal { kd 10 with on := true } 0 nils, .bool true]) ?_ rfl ⟨HF.out.2, ?_⟩
        · clear c0 c1 c2 c3 c4 c5 c6 c7 c8 c9 f0 f1 f2 f3 f4 f5 f6 f7 f8 f9
          generalize drSet W1 w.heap.size { kd 10 with on := true } 0 nils = WE at HF ⊢
          obtain ⟨⟨c0, c1, c2, c3, c4, c5, c6, c7, c8, c9⟩, _⟩ := dr_at HF.out.1
          simp [results, Tryd.results26, go_sem, c0, c1, c2, c3, c4, c5, c6, c7, c8, c9] <;> rfl
        · rw [HO.out]
          exact ⟨none, 0, rfl, NumsIn.nil _ _ _⟩
      · by_cases n3 : S.data.toList = [77, 49, 54]
        · obtain rfl : S = ⟨#[77, 49, 54]⟩ := str_eq n3
          have HO : Hid (o = some (kd 10)) := by show _ = _; rw [← ho]; decide +kernel
          clear ho n0 n1 n2 n3
          go_enter Tryd.func26, Tryd.ntmps26
          go_upto_region 1 with fail
          generalize w.alloc zObj = W1 at HZ ⊢
          obtain ⟨⟨c0, c1, c2, c3, c4, c5, c6, c7, c8, c9⟩, f0, f1, f2, f3, f4, f5, f6, f7, f8, f9⟩ := dr_at HZ.out.a
          have HF := Lib.hid (dr_fin HZ.out.b HZ.out.a (kd 10) 0 nils)
          go_wp2_with fail
          refine bodyPost_ret (w := drSet W1 w.heap.size (kd 10) 0 nils) (v := .tuple #[drVal (kd 10) 0 nils, .bool true]) ?_ rfl ⟨HF.out.2, ?_⟩
          · clear c0 c1 c2 c3 c4 c5 c6 c7 c8 c9 f0 f1 f2 f3 f4 f5 f6 f7 f8 f9
            generalize drSet W1 w.heap.size (kd 10) 0 nils = WE at HF ⊢
            obtain ⟨⟨c0, c1, c2, c3, c4, c5, c6, c7, c8, c9⟩, _⟩ := dr_at HF.out.1
            simp [results, Tryd.results26, go_sem, c0, c1, c2, c3, c4, c5, c6, c7, c8, c9] <;> rfl
          · rw [HO.out]
            exact ⟨none, 0, rfl, NumsIn.nil _ _ _⟩
        · by_cases n4 : S.data.toList = [71, 48, 53]
          · obtain rfl : S = ⟨#[71, 48, 53]⟩ := str_eq n4
            have HO : Hid (o = some (kd 13)) := by show _ = _; rw [← ho]; decide +kernel
            clear ho n0 n1 n2 n3 n4
            go_enter Tryd.func26, Tryd.ntmps26
            go_upto_region 1 with fail
            generalize w.alloc zObj = W1 at HZ ⊢
            obtain ⟨⟨c0, c1, c2, c3, c4, c5, c6, c7, c8, c9⟩, f0, f1, f2, f3, f4, f5, f6, f7, f8, f9⟩ := dr_at HZ.out.a
            have HF := Lib.hid (dr_fin HZ.out.b HZ.out.a (kd 13) 0 nils)
            go_wp2_with fail
            refine bodyPost_ret (w := drSet W1 w.heap.size (kd 13) 0 nils) (v := .tuple #[drVal (kd 13) 0 nils, .bool true]) ?_ rfl ⟨HF.out.2, ?_⟩
            · clear c0 c1 c2 c3 c4 c5 c6 c7 c8 c9 f0 f1 f2 f3 f4 f5 f6 f7 f8 f9
              generalize drSet W1 w.heap.size (kd 13) 0 nils = WE at HF ⊢
              obtain ⟨⟨c0, c1, c2, c3, c4, c5, c6, c7, c8, c9⟩, _⟩ := dr_at HF.out.1
              simp [results, Tryd.results26, go_sem, c0, c1, c2, c3, c4, c5, c6, c7, c8, c9] <;> rfl
            · rw [HO.out]
              exact ⟨none, 0, rfl, NumsIn.nil _ _ _⟩
          · by_cases n5 : S.data.toList = [71, 57, 48]
            · obtain rfl : S = ⟨#[71, 57, 48]⟩ := str_eq n5
              have HO : Hid (o = some (kd 14)) := by show _ = _; rw [← ho]; decide +kernel
              clear ho n0 n1 n2 n3 n4 n5
              go_enter Tryd.func26, Tryd.ntmps26
              go_upto_region 1 with fail
              generalize w.alloc zObj = W1 at HZ ⊢
              obtain ⟨⟨c0, c1, c2, c3, c4, c5, c6, c7, c8, c9⟩, f0, f1, f2, f3, f4, f5, f6, f7, f8, f9⟩ := dr_at HZ.out.a
              have HF := Lib.hid (dr_fin HZ.out.b HZ.out.a (kd 14) 0 nils)
              go_wp2_with fail
              refine bodyPost_ret (w := drSet W1 w.heap.size (kd 14) 0 nils) (v := .tuple #[drVal (kd 14) 0 nils, .bool true]) ?_ rfl ⟨HF.out.2, ?_⟩
              · clear c0 c1 c2 c3 c4 c5 c6 c7 c8 c9 f0 f1 f2 f3 f4 f5 f6 f7 f8 f9
                generalize drSet W1 w.heap.size (kd 14) 0 nils = WE at HF ⊢
                obtain ⟨⟨c0, c1, c2, c3, c4, c5, c6, c7, c8, c9⟩, _⟩ := dr_at HF.out.1
                simp [results, Tryd.results26, go_sem, c0, c1, c2, c3, c4, c5, c6, c7, c8, c9] <;> rfl
              · rw [HO.out]
                exact ⟨none, 0, rfl, NumsIn.nil _ _ _⟩
            · by_cases n6 : S.data.toList = [77, 51, 48]
              · obtain rfl : S = ⟨#[77, 51, 48]⟩ := str_eq n6
                have HO : Hid (o = some (kd 15)) := by show _ = _; rw [← ho]; decide +kernel
                clear ho n0 n1 n2 n3 n4 n5 n6
                go_enter Tryd.func26, Tryd.ntmps26
                go_upto_region 1 with fail
                generalize w.alloc zObj = W1 at HZ ⊢
                obtain ⟨⟨c0, c1, c2, c3, c4, c5, c6, c7, c8, c9⟩, f0, f1, f2, f3, f4, f5, f6, f7, f8, f9⟩ := dr_at HZ.out.a
                have HF := Lib.hid (dr_fin HZ.out.b HZ.out.a (kd 15) 0 nils)
                go_wp2_with fail
                refine bodyPost_ret (w := drSet W1 w.heap.size (kd 15) 0 nils) (v := .tuple #[drVal (kd 15) 0 nils, .bool true]) ?_ rfl ⟨HF.out.2, ?_⟩
                · clear c0 c1 c2 c3 c4 c5 c6 c7 c8 c9 f0 f1 f2 f3 f4 f5 f6 f7 f8 f9
                  generalize drSet W1 w.heap.size (kd 15) 0 nils = WE at HF ⊢
                  obtain ⟨⟨c0, c1, c2, c3, c4, c5, c6, c7, c8, c9⟩, _⟩ := dr_at HF.out.1
                  simp [results, Tryd.results26, go_sem, c0, c1, c2, c3, c4, c5, c6, c7, c8, c9] <;> rfl
                · rw [HO.out]
                  exact ⟨none, 0, rfl, NumsIn.nil _ _ _⟩
              · by_cases n7 : S.data.toList = [77, 69, 84, 82, 73, 67]
                · obtain rfl : S = ⟨#[77, 69, 84, 82, 73, 67]⟩ := str_eq n7
                  have HO : Hid (o = some { kd 3 with n := 1 }) := by show _ = _; rw [← ho]; decide +kernel
                  clear ho n0 n1 n2 n3 n4 n5 n6 n7
                  go_enter Tryd.func26, Tryd.ntmps26
                  go_upto_region 1 with fail
                  generalize w.alloc zObj = W1 at HZ ⊢
                  obtain ⟨⟨c0, c1, c2, c3, c4, c5, c6, c7, c8, c9⟩, f0, f1, f2, f3, f4, f5, f6, f7, f8, f9⟩ := dr_at HZ.out.a
                  have HF := Lib.hid (dr_fin HZ.out.b HZ.out.a { kd 3 with n := 1 } 0 nils)
                  go_wp2_with fail
                  refine bodyPost_ret (w := drSet W1 w.heap.size { kd 3 with n := 1 } 0 nils) (v := .tuple #[drVal { kd 3 with n := 1 } 0 nils, .bool true]) ?_ rfl ⟨HF.out.2, ?_⟩
                  · clear c0 c1 c2 c3 c4 c5 c6 c7 c8 c9 f0 f1 f2 f3 f4 f5 f6 f7 f8 f9
                    generalize drSet W1 w.heap.size { kd 3 with n := 1 } 0 nils = WE at HF ⊢
                    obtain ⟨⟨c0, c1, c2, c3, c4, c5, c6, c7, c8, c9⟩, _⟩ := dr_at HF.out.1
                    simp [results, Tryd.results26, go_sem, c0, c1, c2, c3, c4, c5, c6, c7, c8, c9] <;> rfl
                  · rw [HO.out]
                    exact ⟨none, 0, rfl, NumsIn.nil _ _ _⟩
                · by_cases n8 : S.data.toList = [77, 69, 84, 82, 73, 67, 44, 76, 90]
                  · obtain rfl : S = ⟨#[77, 69, 84, 82, 73, 67, 44, 76, 90]⟩ := str_eq n8
                    have HO : Hid (o = some { kd 3 with n := 1 }) := by show _ = _; rw [← ho]; decide +kernel
                    clear ho n0 n1 n2 n3 n4 n5 n6 n7 n8
                    go_enter Tryd.func26, Tryd.ntmps26
                    go_upto_region 1 with fail
                    generalize w.alloc zObj = W1 at HZ ⊢
                    obtain ⟨⟨c0, c1, c2, c3, c4, c5, c6, c7, c8, c9⟩, f0, f1, f2, f3, f4, f5, f6, f7, f8, f9⟩ := dr_at HZ.out.a
                    have HF := Lib.hid (dr_fin HZ.out.b HZ.out.a { kd 3 with n := 1 } 0 nils)
                    go_wp2_with fail
                    refine bodyPost_ret (w := drSet W1 w.heap.size { kd 3 with n := 1 } 0 nils) (v := .tuple #[drVal { kd 3 with n := 1 } 0 nils, .bool true]) ?_ rfl ⟨HF.out.2, ?_⟩
                    · clear c0 c1 c2 c3 c4 c5 c6 c7 c8 c9 f0 f1 f2 f3 f4 f5 f6 f7 f8 f9
                      generalize drSet W1 w.heap.size { kd 3 with n := 1 } 0 nils = WE at HF ⊢
                      obtain ⟨⟨c0, c1, c2, c3, c4, c5, c6, c7, c8, c9⟩, _⟩ := dr_at HF.out.1
                      simp [results, Tryd.results26, go_sem, c0, c1, c2, c3, c4, c5, c6, c7, c8, c9] <;> rfl
                    · rw [HO.out]
                      exact ⟨none, 0, rfl, NumsIn.nil _ _ _⟩
                  · by_cases n9 : S.data.toList = [77, 69, 84, 82, 73, 67, 44, 84, 90]
                    · obtain rfl : S = ⟨#[77, 69, 84, 82, 73, 67, 44, 84, 90]⟩ := str_eq n9
                      have HO : Hid (o = some { kd 3 with n := 1, on := true }) := by show _ = _; rw [← ho]; decide +kernel
                      clear ho n0 n1 n2 n3 n4 n5 n6 n7 n8 n9
                      go_enter Tryd.func26, Tryd.ntmps26
                      go_upto_region 1 with fail
                      generalize w.alloc zObj = W1 at HZ ⊢
                      obtain ⟨⟨c0, c1, c2, c3, c4, c5, c6, c7, c8, c9⟩, f0, f1, f2, f3, f4, f5, f6, f7, f8, f9⟩ := dr_at HZ.out.a
                      have HF := Lib.hid (dr_fin HZ.out.b HZ.out.a { kd 3 with n := 1, on := true } 0 nils)
                      go_wp2_with fail
                      refine bodyPost_ret (w := drSet W1 w.heap.size { kd 3 with n := 1, on := true } 0 nils) (v := .tuple #[drVal { kd 3 with n := 1, on := true } 0 nils, .bool true]) ?_ rfl ⟨HF.out.2, ?_⟩
                      · clear c0 c1 c2 c3 c4 c5 c6 c7 c8 c9 f0 f1 f2 f3 f4 f5 f6 f7 f8 f9
                        generalize drSet W1 w.heap.size { kd 3 with n := 1, on := true } 0 nils = WE at HF ⊢
                        obtain ⟨⟨c0, c1, c2, c3, c4, c5, c6, c7, c8, c9⟩, _⟩ := dr_at HF.out.1
                        simp [results, Tryd.results26, go_sem, c0, c1, c2, c3, c4, c5, c6, c7, c8, c9] <;> rfl
                      · rw [HO.out]
                        exact ⟨none, 0, rfl, NumsIn.nil _ _ _⟩
                    · by_cases n10 : S.data.toList = [73, 78, 67, 72]
                      · obtain rfl : S = ⟨#[73, 78, 67, 72]⟩ := str_eq n10
                        have HO : Hid (o = some { kd 3 with n := 2 }) := by show _ = _; rw [← ho]; decide +kernel
                        clear ho n0 n1 n2 n3 n4 n5 n6 n7 n8 n9 n10
                        go_enter Tryd.func26, Tryd.ntmps26
                        go_upto_region 1 with fail
                        generalize w.alloc zObj = W1 at HZ ⊢
                        obtain ⟨⟨c0, c1, c2, c3, c4, c5, c6, c7, c8, c9⟩, f0, f1, f2, f3, f4, f5, f6, f7, f8, f9⟩ := dr_at HZ.out.a
                        have HF := Lib.hid (dr_fin HZ.out.b HZ.out.a { kd 3 with n := 2 } 0 nils)
                        go_wp2_with fail
                        refine bodyPost_ret (w := drSet W1 w.heap.size { kd 3 with n := 2 } 0 nils) (v := .tuple #[drVal { kd 3 with n := 2 } 0 nils, .bool true]) ?_ rfl ⟨HF.out.2, ?_⟩
                        · clear c0 c1 c2 c3 c4 c5 c6 c7 c8 c9 f0 f1 f2 f3 f4 f5 f6 f7 f8 f9
                          generalize drSet W1 w.heap.size { kd 3 with n := 2 } 0 nils = WE at HF ⊢
                          obtain ⟨⟨c0, c1, c2, c3, c4, c5, c6, c7, c8, c9⟩, _⟩ := dr_at HF.out.1
                          simp [results, Tryd.results26, go_sem, c0, c1, c2, c3, c4, c5, c6, c7, c8, c9] <;> rfl
                        · rw [HO.out]
                          exact ⟨none, 0, rfl, NumsIn.nil _ _ _⟩
                      · by_cases n11 : S.data.toList = [73, 78, 67, 72, 44, 76, 90]
                        · obtain rfl : S = ⟨#[73, 78, 67, 72, 44, 76, 90]⟩ := str_eq n11
                          have HO : Hid (o = some { kd 3 with n := 2 }) := by show _ = _; rw [← ho]; decide +kernel
                          clear ho n0 n1 n2 n3 n4 n5 n6 n7 n8 n9 n10 n11
                          go_enter Tryd.func26, Tryd.ntmps26
                          go_upto_region 1 with fail
                          generalize w.alloc zObj = W1 at HZ ⊢
                          obtain ⟨⟨c0, c1, c2, c3, c4, c5, c6, c7, c8, c9⟩, f0, f1, f2, f3, f4, f5, f6, f7, f8, f9⟩ := dr_at HZ.out.a
                          have HF := Lib.hid (dr_fin HZ.out.b HZ.out.a { kd 3 with n := 2 } 0 nils)
                          go_wp2_with fail
                          refine bodyPost_ret (w := drSet W1 w.heap.size { kd 3 with n := 2 } 0 nils) (v := .tuple #[drVal { kd 3 with n := 2 } 0 nils, .bool true]) ?_ rfl ⟨HF.out.2, ?_⟩
                          · clear c0 c1 c2 c3 c4 c5 c6 c7 c8 c9 f0 f1 f2 f3 f4 f5 f6 f7 f8 f9
                            generalize drSet W1 w.heap.size { kd 3 with n := 2 } 0 nils = WE at HF ⊢
                            obtain ⟨⟨c0, c1, c2, c3, c4, c5, c6, c7, c8, c9⟩, _⟩ := dr_at HF.out.1
                            simp [results, Tryd.results26, go_sem, c0, c1, c2, c3, c4, c5, c6, c7, c8, c9] <;> rfl
                          · rw [HO.out]
                            exact ⟨none, 0, rfl, NumsIn.nil _ _ _⟩
                        · by_cases n12 : S.data.toList = [73, 78, 67, 72, 44, 84, 90]
                          · obtain rfl : S = ⟨#[73, 78, 67, 72, 44, 84, 90]⟩ := str_eq n12
                            have HO : Hid (o = some { kd 3 with n := 2, on := true }) := by show _ = _; rw [← ho]; decide +kernel
                            clear ho n0 n1 n2 n3 n4 n5 n6 n7 n8 n9 n10 n11 n12
                            go_enter Tryd.func26, Tryd.ntmps26
                            go_upto_region 1 with fail
                            generalize w.alloc zObj = W1 at HZ ⊢
                            obtain ⟨⟨c0, c1, c2, c3, c4, c5, c6, c7, c8, c9⟩, f0, f1, f2, f3, f4, f5, f6, f7, f8, f9⟩ := dr_at HZ.out.a
                            have HF := Lib.hid (dr_fin HZ.out.b HZ.out.a { kd 3 with n := 2, on := true } 0 nils)
                            go_wp2_with fail
                            refine bodyPost_ret (w := drSet W1 w.heap.size { kd 3 with n := 2, on := true } 0 nils) (v := .tuple #[drVal { kd 3 with n := 2, on := true } 0 nils, .bool true]) ?_ rfl ⟨HF.out.2, ?_⟩
                            · clear c0 c1 c2 c3 c4 c5 c6 c7 c8 c9 f0 f1 f2 f3 f4 f5 f6 f7 f8 f9
                              generalize drSet W1 w.heap.size { kd 3 with n := 2, on := true } 0 nils = WE at HF ⊢
                              obtain ⟨⟨c0, c1, c2, c3, c4, c5, c6, c7, c8, c9⟩, _⟩ := dr_at HF.out.1
                              simp [results, Tryd.results26, go_sem, c0, c1, c2, c3, c4, c5, c6, c7, c8, c9] <;> rfl
                            · rw [HO.out]
                              exact ⟨none, 0, rfl, NumsIn.nil _ _ _⟩
                          · have e0 : (S.toList == [77, 52, 56]) = false := by rw [str_is]; exact decide_eq_false n0
                            have e1 : (S.toList == [37]) = false := by rw [str_is]; exact decide_eq_false n1
                            have e2 : (S.toList == [77, 49, 53]) = false := by rw [str_is]; exact decide_eq_false n2
                            have e3 : (S.toList == [77, 49, 54]) = false := by rw [str_is]; exact decide_eq_false n3
                            have e4 : (S.toList == [71, 48, 53]) = false := by rw [str_is]; exact decide_eq_false n4
                            have e5 : (S.toList == [71, 57, 48]) = false := by rw [str_is]; exact decide_eq_false n5
                            have e6 : (S.toList == [77, 51, 48]) = false := by rw [str_is]; exact decide_eq_false n6
                            have e7 : (S.toList == [77, 69, 84, 82, 73, 67]) = false := by rw [str_is]; exact decide_eq_false n7
                            have e8 : (S.toList == [77, 69, 84, 82, 73, 67, 44, 76, 90]) = false := by rw [str_is]; exact decide_eq_false n8
                            have e9 : (S.toList == [77, 69, 84, 82, 73, 67, 44, 84, 90]) = false := by rw [str_is]; exact decide_eq_false n9
                            have e10 : (S.toList == [73, 78, 67, 72]) = false := by rw [str_is]; exact decide_eq_false n10
                            have e11 : (S.toList == [73, 78, 67, 72, 44, 76, 90]) = false := by rw [str_is]; exact decide_eq_false n11
                            have e12 : (S.toList == [73, 78, 67, 72, 44, 84, 90]) = false := by rw [str_is]; exact decide_eq_false n12
                            have hco : cmdV S.data.toList = otherV S.data.toList := cmd_other (by
                              intro x hx
                              simp only [fixed, List.mem_cons, List.not_mem_nil, or_false] at hx
                              rcases hx with rfl | rfl | rfl | rfl | rfl | rfl | rfl | rfl | rfl | rfl | rfl | rfl | rfl
                              · exact n0
                              · exact n1
                              · exact n2
                              · exact n3
                              · exact n4
                              · exact n5
                              · exact n6
                              · exact n7
                              · exact n8
                              · exact n9
                              · exact n10
                              · exact n11
                              · exact n12)
                            rw [hco] at ho
                            obtain ⟨r, hr, hr2⟩ := head_byte S hp
                            obtain ⟨c, hc⟩ : ∃ c, S[0] = c := ⟨_, rfl⟩
                            rw [hc] at hr
                            rw [hr] at ho
                            obtain ⟨T, hT⟩ : ∃ T, S.extract 1 S.size = T := ⟨_, rfl⟩
                            rw [hT] at hr2
                            have hTs : T.size ≤ maxLen := by
                              rw [← len_list, hr2]
                              have h1 := len_list S
                              rw [hr] at h1
                              simp at h1
                              omega
                            clear hco n0 n1 n2 n3 n4 n5 n6 n7 n8 n9 n10 n11 n12
                            by_cases h59 : c = 59
                            · subst h59
                              have hci : ((59 : UInt8).toNat : Int) = 59 := rfl
                              have HO : Hid (o = some { kd 1 with t := T.data.toList }) := by show _ = _; rw [← ho, hr2]; rfl
                              clear ho hr hr2
                              go_enter Tryd.func26, Tryd.ntmps26
                              go_upto_region 1 with fail
                              generalize w.alloc zObj = W1 at HZ ⊢
                              obtain ⟨⟨c0, c1, c2, c3, c4, c5, c6, c7, c8, c9⟩, f0, f1, f2, f3, f4, f5, f6, f7, f8, f9⟩ := dr_at HZ.out.a
                              have HF := Lib.hid (dr_fin HZ.out.b HZ.out.a { kd 1 with t := T.data.toList } 0 nils)
                              go_wp2_with fail
                              refine bodyPost_ret (w := drSet W1 w.heap.size { kd 1 with t := T.data.toList } 0 nils) (v := .tuple #[drVal { kd 1 with t := T.data.toList } 0 nils, .bool true]) ?_ rfl ⟨HF.out.2, ?_⟩
                              · clear c0 c1 c2 c3 c4 c5 c6 c7 c8 c9 f0 f1 f2 f3 f4 f5 f6 f7 f8 f9
                                generalize drSet W1 w.heap.size { kd 1 with t := T.data.toList } 0 nils = WE at HF ⊢
                                obtain ⟨⟨c0, c1, c2, c3, c4, c5, c6, c7, c8, c9⟩, _⟩ := dr_at HF.out.1
                                simp [results, Tryd.results26, go_sem, c0, c1, c2, c3, c4, c5, c6, c7, c8, c9] <;> rfl
                              · rw [HO.out]
                                exact ⟨none, 0, rfl, NumsIn.nil _ _ _⟩
                            · have g59 : ((c.toNat : Int) == 59) = false := by rw [beq_eq_false_iff_ne]; intro e; exact h59 (UInt8.toNat_inj.1 (by show c.toNat = 59; omega))
                              by_cases h84 : c = 84
                              · subst h84
                                have hci : ((84 : UInt8).toNat : Int) = 84 := rfl
                                have HC : Hid (toolV T.data.toList = o) := by show _ = _; rw [← ho, hr2] <;> rfl
                                clear ho hr hr2
                                go_enter Tryd.func26, Tryd.ntmps26
                                go_upto_region 1 with fail
                                generalize w.alloc zObj = W1 at HZ ⊢
                                have hz1 := (Array.getElem?_eq_some_iff.1 HZ.out.a).1
                                go_wp2_with fail
                                with_reducible refine (tool_c T hTs o HC _).mono ?_
                                intro en W2 hco2
                                have hbb := hco2.1
                                have hres := hco2.2
                                have HZ0 := HZ
                                clear HZ
                                have HZ := Lib.hid (HZ0.out.below hbb)
                                have hsz := HZ0.out.b.size
                                clear HZ0 hco2 hbb
                                cases o with
                                | none =>
                                  have hres : en = .returned (.tuple #[drVal D0 0 nils, .bool false]) := hres
                                  subst hres
                                  have HO : Hid ((none : Option D) = none) := Lib.hid (Eq.refl _)
                                  dsimp only [drVal, drCells, D0]
                                  obtain ⟨⟨c0, c1, c2, c3, c4, c5, c6, c7, c8, c9⟩, f0, f1, f2, f3, f4, f5, f6, f7, f8, f9⟩ := dr_at HZ.out.a
                                  have HF := Lib.hid (dr_fin HZ.out.b HZ.out.a D0 0 nils)
                                  go_wp2_with fail
                                  refine bodyPost_ret (w := drSet W2 w.heap.size D0 0 nils) (v := .tuple #[drVal D0 0 nils, .bool false]) ?_ rfl ⟨HF.out.2, ?_⟩
                                  · clear c0 c1 c2 c3 c4 c5 c6 c7 c8 c9 f0 f1 f2 f3 f4 f5 f6 f7 f8 f9
                                    generalize drSet W2 w.heap.size D0 0 nils = WE at HF ⊢
                                    obtain ⟨⟨c0, c1, c2, c3, c4, c5, c6, c7, c8, c9⟩, _⟩ := dr_at HF.out.1
                                    simp [results, Tryd.results26, go_sem, c0, c1, c2, c3, c4, c5, c6, c7, c8, c9] <;> rfl
                                  · rfl
                                | some d =>
                                  obtain ⟨p, cp, rfl, hn⟩ := hres
                                  have HN := Lib.hid hn
                                  clear hn
                                  dsimp only [drVal, drCells]
                                  obtain ⟨⟨c0, c1, c2, c3, c4, c5, c6, c7, c8, c9⟩, f0, f1, f2, f3, f4, f5, f6, f7, f8, f9⟩ := dr_at HZ.out.a
                                  have HF := Lib.hid (dr_fin HZ.out.b HZ.out.a d 0 (.slice p d.nums.length cp))
                                  go_wp2_with fail
                                  refine bodyPost_ret (w := drSet W2 w.heap.size d 0 (.slice p d.nums.length cp)) (v := .tuple #[drVal d 0 (.slice p d.nums.length cp), .bool true]) ?_ rfl ⟨HF.out.2, ?_⟩
                                  · clear c0 c1 c2 c3 c4 c5 c6 c7 c8 c9 f0 f1 f2 f3 f4 f5 f6 f7 f8 f9
                                    generalize drSet W2 w.heap.size d 0 (.slice p d.nums.length cp) = WE at HF ⊢
                                    obtain ⟨⟨c0, c1, c2, c3, c4, c5, c6, c7, c8, c9⟩, _⟩ := dr_at HF.out.1
                                    simp [results, Tryd.results26, go_sem, c0, c1, c2, c3, c4, c5, c6, c7, c8, c9] <;> rfl
                                  · exact ⟨p, cp, rfl, (drSet_nums hz1 HN.out _ _ _).mono hsz⟩
                              · have g84 : ((c.toNat : Int) == 84) = false := by rw [beq_eq_false_iff_ne]; intro e; exact h84 (UInt8.toNat_inj.1 (by show c.toNat = 84; omega))
                                by_cases h82 : c = 82
                                · subst h82
                                  have hci : ((82 : UInt8).toNat : Int) = 82 := rfl
                                  have HC : Hid (againV T.data.toList = o) := by show _ = _; rw [← ho, hr2] <;> rfl
                                  clear ho hr hr2
                                  go_enter Tryd.func26, Tryd.ntmps26
                                  go_upto_region 1 with fail
                                  generalize w.alloc zObj = W1 at HZ ⊢
                                  have hz1 := (Array.getElem?_eq_some_iff.1 HZ.out.a).1
                                  go_wp2_with fail
                                  with_reducible refine (again_c T hTs o HC _).mono ?_
                                  intro en W2 hco2
                                  have hbb := hco2.1
                                  have hres := hco2.2
                                  have HZ0 := HZ
                                  clear HZ
                                  have HZ := Lib.hid (HZ0.out.below hbb)
                                  have hsz := HZ0.out.b.size
                                  clear HZ0 hco2 hbb
                                  cases o with
                                  | none =>
                                    have hres : en = .returned (.tuple #[drVal D0 0 nils, .bool false]) := hres
                                    subst hres
                                    have HO : Hid ((none : Option D) = none) := Lib.hid (Eq.refl _)
                                    dsimp only [drVal, drCells, D0]
                                    obtain ⟨⟨c0, c1, c2, c3, c4, c5, c6, c7, c8, c9⟩, f0, f1, f2, f3, f4, f5, f6, f7, f8, f9⟩ := dr_at HZ.out.a
                                    have HF := Lib.hid (dr_fin HZ.out.b HZ.out.a D0 0 nils)
                                    go_wp2_with fail
                                    refine bodyPost_ret (w := drSet W2 w.heap.size D0 0 nils) (v := .tuple #[drVal D0 0 nils, .bool false]) ?_ rfl ⟨HF.out.2, ?_⟩
                                    · clear c0 c1 c2 c3 c4 c5 c6 c7 c8 c9 f0 f1 f2 f3 f4 f5 f6 f7 f8 f9
                                      generalize drSet W2 w.heap.size D0 0 nils = WE at HF ⊢
                                      obtain ⟨⟨c0, c1, c2, c3, c4, c5, c6, c7, c8, c9⟩, _⟩ := dr_at HF.out.1
                                      simp [results, Tryd.results26, go_sem, c0, c1, c2, c3, c4, c5, c6, c7, c8, c9] <;> rfl
                                    · rfl
                                  | some d =>
                                    obtain ⟨p, cp, rfl, hn⟩ := hres
                                    have HN := Lib.hid hn
                                    clear hn
                                    dsimp only [drVal, drCells]
                                    obtain ⟨⟨c0, c1, c2, c3, c4, c5, c6, c7, c8, c9⟩, f0, f1, f2, f3, f4, f5, f6, f7, f8, f9⟩ := dr_at HZ.out.a
                                    have HF := Lib.hid (dr_fin HZ.out.b HZ.out.a d 0 (.slice p d.nums.length cp))
                                    go_wp2_with fail
                                    refine bodyPost_ret (w := drSet W2 w.heap.size d 0 (.slice p d.nums.length cp)) (v := .tuple #[drVal d 0 (.slice p d.nums.length cp), .bool true]) ?_ rfl ⟨HF.out.2, ?_⟩
                                    · clear c0 c1 c2 c3 c4 c5 c6 c7 c8 c9 f0 f1 f2 f3 f4 f5 f6 f7 f8 f9
                                      generalize drSet W2 w.heap.size d 0 (.slice p d.nums.length cp) = WE at HF ⊢
                                      obtain ⟨⟨c0, c1, c2, c3, c4, c5, c6, c7, c8, c9⟩, _⟩ := dr_at HF.out.1
                                      simp [results, Tryd.results26, go_sem, c0, c1, c2, c3, c4, c5, c6, c7, c8, c9] <;> rfl
                                    · exact ⟨p, cp, rfl, (drSet_nums hz1 HN.out _ _ _).mono hsz⟩
                                · have g82 : ((c.toNat : Int) == 82) = false := by rw [beq_eq_false_iff_ne]; intro e; exact h82 (UInt8.toNat_inj.1 (by show c.toNat = 82; omega))
                                  by_cases h71 : c = 71
                                  · subst h71
                                    have hci : ((71 : UInt8).toNat : Int) = 71 := rfl
                                    have HC : Hid (moveV S.data.toList = o) := by show _ = _; rw [← ho, hr] <;> rfl
                                    clear ho hr hr2
                                    go_enter Tryd.func26, Tryd.ntmps26
                                    go_upto_region 1 with fail
                                    generalize w.alloc zObj = W1 at HZ ⊢
                                    have hz1 := (Array.getElem?_eq_some_iff.1 HZ.out.a).1
                                    go_wp2_with fail
                                    with_reducible refine (move_c S hsm.out o HC _).mono ?_
                                    intro en W2 hco2
                                    have hbb := hco2.1
                                    have hres := hco2.2
                                    have HZ0 := HZ
                                    clear HZ
                                    have HZ := Lib.hid (HZ0.out.below hbb)
                                    have hsz := HZ0.out.b.size
                                    clear HZ0 hco2 hbb
                                    cases o with
                                    | none =>
                                      have hres : en = .returned (.tuple #[drVal D0 0 nils, .bool false]) := hres
                                      subst hres
                                      have HO : Hid ((none : Option D) = none) := Lib.hid (Eq.refl _)
                                      dsimp only [drVal, drCells, D0]
                                      obtain ⟨⟨c0, c1, c2, c3, c4, c5, c6, c7, c8, c9⟩, f0, f1, f2, f3, f4, f5, f6, f7, f8, f9⟩ := dr_at HZ.out.a
                                      have HF := Lib.hid (dr_fin HZ.out.b HZ.out.a D0 0 nils)
                                      go_wp2_with fail
                                      refine bodyPost_ret (w := drSet W2 w.heap.size D0 0 nils) (v := .tuple #[drVal D0 0 nils, .bool false]) ?_ rfl ⟨HF.out.2, ?_⟩
                                      · clear c0 c1 c2 c3 c4 c5 c6 c7 c8 c9 f0 f1 f2 f3 f4 f5 f6 f7 f8 f9
                                        generalize drSet W2 w.heap.size D0 0 nils = WE at HF ⊢
                                        obtain ⟨⟨c0, c1, c2, c3, c4, c5, c6, c7, c8, c9⟩, _⟩ := dr_at HF.out.1
                                        simp [results, Tryd.results26, go_sem, c0, c1, c2, c3, c4, c5, c6, c7, c8, c9] <;> rfl
                                      · rfl
                                    | some d =>
                                      obtain ⟨p, cp, rfl, hn⟩ := hres
                                      have HN := Lib.hid hn
                                      clear hn
                                      dsimp only [drVal, drCells]
                                      obtain ⟨⟨c0, c1, c2, c3, c4, c5, c6, c7, c8, c9⟩, f0, f1, f2, f3, f4, f5, f6, f7, f8, f9⟩ := dr_at HZ.out.a
                                      have HF := Lib.hid (dr_fin HZ.out.b HZ.out.a d 0 (.slice p d.nums.length cp))
                                      go_wp2_with fail
                                      refine bodyPost_ret (w := drSet W2 w.heap.size d 0 (.slice p d.nums.length cp)) (v := .tuple #[drVal d 0 (.slice p d.nums.length cp), .bool true]) ?_ rfl ⟨HF.out.2, ?_⟩
                                      · clear c0 c1 c2 c3 c4 c5 c6 c7 c8 c9 f0 f1 f2 f3 f4 f5 f6 f7 f8 f9
                                        generalize drSet W2 w.heap.size d 0 (.slice p d.nums.length cp) = WE at HF ⊢
                                        obtain ⟨⟨c0, c1, c2, c3, c4, c5, c6, c7, c8, c9⟩, _⟩ := dr_at HF.out.1
                                        simp [results, Tryd.results26, go_sem, c0, c1, c2, c3, c4, c5, c6, c7, c8, c9] <;> rfl
                                      · exact ⟨p, cp, rfl, (drSet_nums hz1 HN.out _ _ _).mono hsz⟩
                                  · have g71 : ((c.toNat : Int) == 71) = false := by rw [beq_eq_false_iff_ne]; intro e; exact h71 (UInt8.toNat_inj.1 (by show c.toNat = 71; omega))
                                    rw [other_hit h59 h84 h82 h71] at ho
                                    clear h59 h84 h82 h71
                                    have HC : Hid (hitV S.data.toList = o) := by show _ = _; rw [← ho, hr] <;> rfl
                                    clear ho hr hr2
                                    go_enter Tryd.func26, Tryd.ntmps26
                                    go_upto_region 1 with fail
                                    generalize w.alloc zObj = W1 at HZ ⊢
                                    have hz1 := (Array.getElem?_eq_some_iff.1 HZ.out.a).1
                                    go_wp2_with fail
                                    with_reducible refine (hit_c S hsm.out o HC _).mono ?_
                                    intro en W2 hco2
                                    have hbb := hco2.1
                                    have hres := hco2.2
                                    have HZ0 := HZ
                                    clear HZ
                                    have HZ := Lib.hid (HZ0.out.below hbb)
                                    have hsz := HZ0.out.b.size
                                    clear HZ0 hco2 hbb
                                    cases o with
                                    | none =>
                                      have hres : en = .returned (.tuple #[drVal D0 0 nils, .bool false]) := hres
                                      subst hres
                                      have HO : Hid ((none : Option D) = none) := Lib.hid (Eq.refl _)
                                      dsimp only [drVal, drCells, D0]
                                      obtain ⟨⟨c0, c1, c2, c3, c4, c5, c6, c7, c8, c9⟩, f0, f1, f2, f3, f4, f5, f6, f7, f8, f9⟩ := dr_at HZ.out.a
                                      have HF := Lib.hid (dr_fin HZ.out.b HZ.out.a D0 0 nils)
                                      go_wp2_with fail
                                      refine bodyPost_ret (w := drSet W2 w.heap.size D0 0 nils) (v := .tuple #[drVal D0 0 nils, .bool false]) ?_ rfl ⟨HF.out.2, ?_⟩
                                      · clear c0 c1 c2 c3 c4 c5 c6 c7 c8 c9 f0 f1 f2 f3 f4 f5 f6 f7 f8 f9
                                        generalize drSet W2 w.heap.size D0 0 nils = WE at HF ⊢
                                        obtain ⟨⟨c0, c1, c2, c3, c4, c5, c6, c7, c8, c9⟩, _⟩ := dr_at HF.out.1
                                        simp [results, Tryd.results26, go_sem, c0, c1, c2, c3, c4, c5, c6, c7, c8, c9] <;> rfl
                                      · rfl
                                    | some d =>
                                      obtain ⟨p, cp, rfl, hn⟩ := hres
                                      have HN := Lib.hid hn
                                      clear hn
                                      dsimp only [drVal, drCells]
                                      obtain ⟨⟨c0, c1, c2, c3, c4, c5, c6, c7, c8, c9⟩, f0, f1, f2, f3, f4, f5, f6, f7, f8, f9⟩ := dr_at HZ.out.a
                                      have HF := Lib.hid (dr_fin HZ.out.b HZ.out.a d 0 (.slice p d.nums.length cp))
                                      go_wp2_with fail
                                      refine bodyPost_ret (w := drSet W2 w.heap.size d 0 (.slice p d.nums.length cp)) (v := .tuple #[drVal d 0 (.slice p d.nums.length cp), .bool true]) ?_ rfl ⟨HF.out.2, ?_⟩
                                      · clear c0 c1 c2 c3 c4 c5 c6 c7 c8 c9 f0 f1 f2 f3 f4 f5 f6 f7 f8 f9
                                        generalize drSet W2 w.heap.size d 0 (.slice p d.nums.length cp) = WE at HF ⊢
                                        obtain ⟨⟨c0, c1, c2, c3, c4, c5, c6, c7, c8, c9⟩, _⟩ := dr_at HF.out.1
                                        simp [results, Tryd.results26, go_sem, c0, c1, c2, c3, c4, c5, c6, c7, c8, c9] <;> rfl
                                      · exact ⟨p, cp, rfl, (drSet_nums hz1 HN.out _ _ _).mono hsz⟩
end Go.Proofs.YtecpmnkgikcpnaaDoor.XW
