/-
  The walks of exce's again, move, hit.
-/
import Derived.Test.YtecpmnkgikcpnaaDoorXwC
namespace Go.Proofs.YtecpmnkgikcpnaaDoor.XW
open Go.RowKit Go.Proofs.YtecpmnkgikcpnaaDoor.Base Go.Proofs.YtecpmnkgikcpnaaDoor.Dp Go.Proofs.YtecpmnkgikcpnaaDoor.DeciW Go.Proofs.YtecpmnkgikcpnaaDoor.Xp

theorem bs_size (l : List UInt8) : (⟨l.toArray⟩ : ByteArray).size = l.length := rfl
theorem bs_list (l : List UInt8) : (⟨l.toArray⟩ : ByteArray).data.toList = l := rfl
theorem bs_ne (c : UInt8) (r : List UInt8) : ((⟨(c :: r).toArray⟩ : ByteArray).toList == []) = false := by rw [str_is, bs_list]; exact decide_eq_false (by simp)
theorem cut_yes_c (S P : ByteArray) (r : List UInt8) (h : Hid (S.data.toList = P.data.toList ++ r)) (w : World) :
    Calls Tryd.prog 62 #[.string S, .string P] w fun e w' => e = .returned (.tuple #[.string ⟨r.toArray⟩, .bool true]) ∧ w = w' := by
  have h1 : Lib.hasPrefix S.data.toList P.data.toList = true := by
    rw [h.out]; unfold Lib.hasPrefix; rw [List.isPrefixOf_iff_prefix]; exact List.prefix_append _ _
  have h2 : Lib.trimPrefix S.data.toList P.data.toList = r := by
    unfold Lib.trimPrefix; rw [if_pos h1, h.out, List.drop_left]
  refine (Tryd.strings_CutPrefix S P w).mono fun e w' ⟨he, hw⟩ => ⟨?_, hw.symm⟩
  rw [he, h1, h2]
theorem cut_no_c (S P : ByteArray) (h : Hid (∀ r, S.data.toList ≠ P.data.toList ++ r)) (w : World) :
    Calls Tryd.prog 62 #[.string S, .string P] w fun e w' => e = .returned (.tuple #[.string S, .bool false]) ∧ w = w' := by
  have h1 : Lib.hasPrefix S.data.toList P.data.toList = false := by
    rw [Bool.eq_false_iff]; unfold Lib.hasPrefix
    intro hp
    obtain ⟨r, hr⟩ := List.isPrefixOf_iff_prefix.1 hp
    exact h.out r hr.symm
  have h2 : Lib.trimPrefix S.data.toList P.data.toList = S.data.toList := by
    unfold Lib.trimPrefix; rw [h1]; rfl
  refine (Tryd.strings_CutPrefix S P w).mono fun e w' ⟨he, hw⟩ => ⟨?_, hw.symm⟩
  rw [he, h1, h2, bs_eta]
theorem move_none {s : List UInt8} (h1 : ∀ r, s ≠ 71 :: 48 :: 48 :: r) (h2 : ∀ r, s ≠ 71 :: 48 :: 49 :: r) : moveV s = none := by
  unfold moveV
  split
  · exact absurd rfl (h1 _)
  · exact absurd rfl (h2 _)
  · rfl
theorem hit_other {s x y z : List UInt8} (h : posV s = some (x, y, z)) (h1 : z ≠ []) (h2 : ∀ r, z ≠ 71 :: 56 :: 53 :: r) : hitV s = none := by
  unfold hitV
  rw [h]
  split
  · rename_i he; cases he
  · rename_i he; simp only [Option.some.injEq, Prod.mk.injEq] at he; exact absurd he.2.2 h1
  · rename_i he; simp only [Option.some.injEq, Prod.mk.injEq] at he; exact absurd he.2.2 (h2 _)
  · rfl

set_option maxRecDepth 100000 in
set_option maxHeartbeats 3200000 in
theorem again_c (S : ByteArray) (hs : S.size ≤ maxLen) (o : Option D) (h : Hid (againV S.data.toList = o)) (w : World) :
    Calls Tryd.prog 41 #[.string S] w (CmdOut o w) := by
  have hsm := Lib.hid hs
  have HZ : Hid (ZAt w _) := z_new w
  have ho := h.out
  unfold againV at ho
  clear h
  cases hcv : countV S.data.toList 9999 with
  | none =>
    rw [hcv] at ho
    have HO : Hid (o = none) := ho.symm
    have HCV := Lib.hid hcv
    clear ho hcv
    go_enter Tryd.func41, Tryd.ntmps41
    go_upto_region 1 with fail
    generalize w.alloc zObj = W1 at HZ ⊢
    go_wp2_with fail
    refine (count_c S hsm.out 9999 (by decide) 9999 (Lib.hid rfl) none HCV _).mono ?_
    rintro en W2 ⟨⟨n0, r0, rfl⟩, hw2⟩
    have HZ0 := HZ
    clear HZ
    have HZ := Lib.hid (HZ0.out.below (drew_below hw2))
    clear HZ0 hw2
    obtain ⟨⟨c0, c1, c2, c3, c4, c5, c6, c7, c8, c9⟩, f0, f1, f2, f3, f4, f5, f6, f7, f8, f9⟩ := dr_at HZ.out.a
    have HF := Lib.hid (dr_fin HZ.out.b HZ.out.a D0 0 nils)
    go_wp2_with fail
    refine bodyPost_ret (w := drSet W2 w.heap.size D0 0 nils) (v := .tuple #[drVal D0 0 nils, .bool false]) ?_ rfl ⟨HF.out.2, ?_⟩
    · clear c0 c1 c2 c3 c4 c5 c6 c7 c8 c9 f0 f1 f2 f3 f4 f5 f6 f7 f8 f9
      generalize drSet W2 w.heap.size D0 0 nils = WE at HF ⊢
      obtain ⟨⟨c0, c1, c2, c3, c4, c5, c6, c7, c8, c9⟩, _⟩ := dr_at HF.out.1
      simp [results, Tryd.results41, go_sem, c0, c1, c2, c3, c4, c5, c6, c7, c8, c9] <;> rfl
    · rw [HO.out]
  | some nr =>
    obtain ⟨n, r⟩ := nr
    rw [hcv] at ho
    have HCV := Lib.hid hcv
    have hrl := (countV_len hcv).1
    rw [len_list] at hrl
    have HRM : Hid ((⟨r.toArray⟩ : ByteArray).size ≤ maxLen) := Nat.le_trans hrl hs
    clear hcv hrl
    cases hpv : posV r with
    | none =>
      have HO : Hid (o = none) := by show _ = _; rw [← ho]; simp [hpv]
      have HPV : Hid (posV (⟨r.toArray⟩ : ByteArray).data.toList = none) := hpv
      clear ho hpv
      go_enter Tryd.func41, Tryd.ntmps41
      go_upto_region 1 with fail
      generalize w.alloc zObj = W1 at HZ ⊢
      go_wp2_with fail
      refine (count_c S hsm.out 9999 (by decide) 9999 (Lib.hid rfl) (some (n, r)) HCV _).mono ?_
      rintro en W2 ⟨rfl, hw2⟩
      have HZ0 := HZ
      clear HZ
      have HZ := Lib.hid (HZ0.out.below (drew_below hw2))
      clear HZ0 hw2
      go_wp2_with fail
      refine (pos_c ⟨r.toArray⟩ HRM.out none HPV _).mono ?_
      rintro en W3 ⟨rfl, hw3⟩
      have HZ0 := HZ
      clear HZ
      have HZ := Lib.hid (HZ0.out.below (drew_below hw3))
      clear HZ0 hw3
      obtain ⟨⟨c0, c1, c2, c3, c4, c5, c6, c7, c8, c9⟩, f0, f1, f2, f3, f4, f5, f6, f7, f8, f9⟩ := dr_at HZ.out.a
      have HF := Lib.hid (dr_fin HZ.out.b HZ.out.a D0 0 nils)
      go_wp2_with fail
      refine bodyPost_ret (w := drSet W3 w.heap.size D0 0 nils) (v := .tuple #[drVal D0 0 nils, .bool false]) ?_ rfl ⟨HF.out.2, ?_⟩
      · clear c0 c1 c2 c3 c4 c5 c6 c7 c8 c9 f0 f1 f2 f3 f4 f5 f6 f7 f8 f9
        generalize drSet W3 w.heap.size D0 0 nils = WE at HF ⊢
        obtain ⟨⟨c0, c1, c2, c3, c4, c5, c6, c7, c8, c9⟩, _⟩ := dr_at HF.out.1
        simp [results, Tryd.results41, go_sem, c0, c1, c2, c3, c4, c5, c6, c7, c8, c9] <;> rfl
      · rw [HO.out]
    | some q =>
      obtain ⟨x, y, z⟩ := q
      have HPV : Hid (posV (⟨r.toArray⟩ : ByteArray).data.toList = some (x, y, z)) := hpv
      cases z with
      | nil =>
        have HO : Hid (o = some { kd 12 with n := (n : Int), x := x, y := y }) := by show _ = _; rw [← ho]; simp [hpv]
        clear ho hpv
        go_enter Tryd.func41, Tryd.ntmps41
        go_upto_region 1 with fail
        generalize w.alloc zObj = W1 at HZ ⊢
        go_wp2_with fail
        refine (count_c S hsm.out 9999 (by decide) 9999 (Lib.hid rfl) (some (n, r)) HCV _).mono ?_
        rintro en W2 ⟨rfl, hw2⟩
        have HZ0 := HZ
        clear HZ
        have HZ := Lib.hid (HZ0.out.below (drew_below hw2))
        clear HZ0 hw2
        go_wp2_with fail
        refine (pos_c ⟨r.toArray⟩ HRM.out (some (x, y, [])) HPV _).mono ?_
        rintro en W3 ⟨rfl, hw3⟩
        have HZ0 := HZ
        clear HZ
        have HZ := Lib.hid (HZ0.out.below (drew_below hw3))
        clear HZ0 hw3
        obtain ⟨⟨c0, c1, c2, c3, c4, c5, c6, c7, c8, c9⟩, f0, f1, f2, f3, f4, f5, f6, f7, f8, f9⟩ := dr_at HZ.out.a
        have HF := Lib.hid (dr_fin HZ.out.b HZ.out.a { kd 12 with n := (n : Int), x := x, y := y } 0 nils)
        go_wp2_with fail
        refine bodyPost_ret (w := drSet W3 w.heap.size { kd 12 with n := (n : Int), x := x, y := y } 0 nils) (v := .tuple #[drVal { kd 12 with n := (n : Int), x := x, y := y } 0 nils, .bool true]) ?_ rfl ⟨HF.out.2, ?_⟩
        · clear c0 c1 c2 c3 c4 c5 c6 c7 c8 c9 f0 f1 f2 f3 f4 f5 f6 f7 f8 f9
          generalize drSet W3 w.heap.size { kd 12 with n := (n : Int), x := x, y := y } 0 nils = WE at HF ⊢
          obtain ⟨⟨c0, c1, c2, c3, c4, c5, c6, c7, c8, c9⟩, _⟩ := dr_at HF.out.1
          simp [results, Tryd.results41, go_sem, c0, c1, c2, c3, c4, c5, c6, c7, c8, c9] <;> rfl
        · rw [HO.out]
          exact ⟨none, 0, rfl, NumsIn.nil _ _ _⟩
      | cons c z =>
        have HO : Hid (o = none) := by show _ = _; rw [← ho]; simp [hpv]
        have hz := bs_ne c z
        clear ho hpv
        go_enter Tryd.func41, Tryd.ntmps41
        go_upto_region 1 with fail
        generalize w.alloc zObj = W1 at HZ ⊢
        go_wp2_with fail
        refine (count_c S hsm.out 9999 (by decide) 9999 (Lib.hid rfl) (some (n, r)) HCV _).mono ?_
        rintro en W2 ⟨rfl, hw2⟩
        have HZ0 := HZ
        clear HZ
        have HZ := Lib.hid (HZ0.out.below (drew_below hw2))
        clear HZ0 hw2
        go_wp2_with fail
        refine (pos_c ⟨r.toArray⟩ HRM.out (some (x, y, c :: z)) HPV _).mono ?_
        rintro en W3 ⟨rfl, hw3⟩
        have HZ0 := HZ
        clear HZ
        have HZ := Lib.hid (HZ0.out.below (drew_below hw3))
        clear HZ0 hw3
        obtain ⟨Z, hZ⟩ : ∃ Z : ByteArray, Z = ⟨(c :: z).toArray⟩ := ⟨_, rfl⟩
        rw [← hZ] at hz ⊢
        clear hZ
        obtain ⟨⟨c0, c1, c2, c3, c4, c5, c6, c7, c8, c9⟩, f0, f1, f2, f3, f4, f5, f6, f7, f8, f9⟩ := dr_at HZ.out.a
        have HF := Lib.hid (dr_fin HZ.out.b HZ.out.a D0 0 nils)
        go_wp2_with fail
        refine bodyPost_ret (w := drSet W3 w.heap.size D0 0 nils) (v := .tuple #[drVal D0 0 nils, .bool false]) ?_ rfl ⟨HF.out.2, ?_⟩
        · clear c0 c1 c2 c3 c4 c5 c6 c7 c8 c9 f0 f1 f2 f3 f4 f5 f6 f7 f8 f9
          generalize drSet W3 w.heap.size D0 0 nils = WE at HF ⊢
          obtain ⟨⟨c0, c1, c2, c3, c4, c5, c6, c7, c8, c9⟩, _⟩ := dr_at HF.out.1
          simp [results, Tryd.results41, go_sem, c0, c1, c2, c3, c4, c5, c6, c7, c8, c9] <;> rfl
        · rw [HO.out]

set_option maxRecDepth 100000 in
set_option maxHeartbeats 3200000 in
theorem move_c (S : ByteArray) (hs : S.size ≤ maxLen) (o : Option D) (h : Hid (moveV S.data.toList = o)) (w : World) :
    Calls Tryd.prog 42 #[.string S] w (CmdOut o w) := by
  have hsm := Lib.hid hs
  have HZ : Hid (ZAt w _) := z_new w
  have ho := h.out
  clear h
  by_cases hA : ∃ r, S.data.toList = 71 :: 48 :: 48 :: r
  · obtain ⟨r, hr⟩ := hA
    rw [hr] at ho
    have ho : placedV 9 r = o := ho
    have HRM : Hid ((⟨r.toArray⟩ : ByteArray).size ≤ maxLen) := by
      have h1 := len_list S
      rw [hr] at h1
      show r.length ≤ _
      simp at h1
      omega
    have HCA : Hid (S.data.toList = (⟨#[71, 48, 48]⟩ : ByteArray).data.toList ++ r) := hr
    clear hr
    cases hpv : posV r with
    | none =>
      have HO : Hid (o = none) := by show _ = _; rw [← ho]; unfold placedV; rw [hpv]
      have HPV : Hid (posV (⟨r.toArray⟩ : ByteArray).data.toList = none) := hpv
      clear ho hpv
      go_enter Tryd.func42, Tryd.ntmps42
      go_upto_region 1 with fail
      generalize w.alloc zObj = W1 at HZ ⊢
      go_wp2_with fail
      with_reducible refine (cut_yes_c S _ r HCA _).mono ?_
      rintro en w2 ⟨rfl, rfl⟩
      go_wp2_with fail
      refine (pos_c ⟨r.toArray⟩ HRM.out none HPV _).mono ?_
      rintro en W3 ⟨rfl, hw3⟩
      have HZ0 := HZ
      clear HZ
      have HZ := Lib.hid (HZ0.out.below (drew_below hw3))
      clear HZ0 hw3
      obtain ⟨⟨c0, c1, c2, c3, c4, c5, c6, c7, c8, c9⟩, f0, f1, f2, f3, f4, f5, f6, f7, f8, f9⟩ := dr_at HZ.out.a
      have HF := Lib.hid (dr_fin HZ.out.b HZ.out.a D0 0 nils)
      go_wp2_with fail
      refine bodyPost_ret (w := drSet W3 w.heap.size D0 0 nils) (v := .tuple #[drVal D0 0 nils, .bool false]) ?_ rfl ⟨HF.out.2, ?_⟩
      · clear c0 c1 c2 c3 c4 c5 c6 c7 c8 c9 f0 f1 f2 f3 f4 f5 f6 f7 f8 f9
        generalize drSet W3 w.heap.size D0 0 nils = WE at HF ⊢
        obtain ⟨⟨c0, c1, c2, c3, c4, c5, c6, c7, c8, c9⟩, _⟩ := dr_at HF.out.1
        simp [results, Tryd.results42, go_sem, c0, c1, c2, c3, c4, c5, c6, c7, c8, c9] <;> rfl
      · rw [HO.out]
    | some q =>
      obtain ⟨x, y, z⟩ := q
      have HPV : Hid (posV (⟨r.toArray⟩ : ByteArray).data.toList = some (x, y, z)) := hpv
      cases z with
      | nil =>
        have HO : Hid (o = some { kd 9 with x := x, y := y }) := by show _ = _; rw [← ho]; unfold placedV; rw [hpv]
        clear ho hpv
        go_enter Tryd.func42, Tryd.ntmps42
        go_upto_region 1 with fail
        generalize w.alloc zObj = W1 at HZ ⊢
        go_wp2_with fail
        with_reducible refine (cut_yes_c S _ r HCA _).mono ?_
        rintro en w2 ⟨rfl, rfl⟩
        go_wp2_with fail
        refine (pos_c ⟨r.toArray⟩ HRM.out (some (x, y, [])) HPV _).mono ?_
        rintro en W3 ⟨rfl, hw3⟩
        have HZ0 := HZ
        clear HZ
        have HZ := Lib.hid (HZ0.out.below (drew_below hw3))
        clear HZ0 hw3
        obtain ⟨⟨c0, c1, c2, c3, c4, c5, c6, c7, c8, c9⟩, f0, f1, f2, f3, f4, f5, f6, f7, f8, f9⟩ := dr_at HZ.out.a
        have HF := Lib.hid (dr_fin HZ.out.b HZ.out.a { kd 9 with x := x, y := y } 0 nils)
        go_wp2_with fail
        refine bodyPost_ret (w := drSet W3 w.heap.size { kd 9 with x := x, y := y } 0 nils) (v := .tuple #[drVal { kd 9 with x := x, y := y } 0 nils, .bool true]) ?_ rfl ⟨HF.out.2, ?_⟩
        · clear c0 c1 c2 c3 c4 c5 c6 c7 c8 c9 f0 f1 f2 f3 f4 f5 f6 f7 f8 f9
          generalize drSet W3 w.heap.size { kd 9 with x := x, y := y } 0 nils = WE at HF ⊢
          obtain ⟨⟨c0, c1, c2, c3, c4, c5, c6, c7, c8, c9⟩, _⟩ := dr_at HF.out.1
          simp [results, Tryd.results42, go_sem, c0, c1, c2, c3, c4, c5, c6, c7, c8, c9] <;> rfl
        · rw [HO.out]
          exact ⟨none, 0, rfl, NumsIn.nil _ _ _⟩
      | cons c z =>
        have HO : Hid (o = none) := by show _ = _; rw [← ho]; unfold placedV; rw [hpv]
        have hz := bs_ne c z
        clear ho hpv
        go_enter Tryd.func42, Tryd.ntmps42
        go_upto_region 1 with fail
        generalize w.alloc zObj = W1 at HZ ⊢
        go_wp2_with fail
        with_reducible refine (cut_yes_c S _ r HCA _).mono ?_
        rintro en w2 ⟨rfl, rfl⟩
        go_wp2_with fail
        refine (pos_c ⟨r.toArray⟩ HRM.out (some (x, y, c :: z)) HPV _).mono ?_
        rintro en W3 ⟨rfl, hw3⟩
        have HZ0 := HZ
        clear HZ
        have HZ := Lib.hid (HZ0.out.below (drew_below hw3))
        clear HZ0 hw3
        obtain ⟨Z, hZ⟩ : ∃ Z : ByteArray, Z = ⟨(c :: z).toArray⟩ := ⟨_, rfl⟩
        rw [← hZ] at hz ⊢
        clear hZ
        obtain ⟨⟨c0, c1, c2, c3, c4, c5, c6, c7, c8, c9⟩, f0, f1, f2, f3, f4, f5, f6, f7, f8, f9⟩ := dr_at HZ.out.a
        have HF := Lib.hid (dr_fin HZ.out.b HZ.out.a D0 0 nils)
        go_wp2_with fail
        refine bodyPost_ret (w := drSet W3 w.heap.size D0 0 nils) (v := .tuple #[drVal D0 0 nils, .bool false]) ?_ rfl ⟨HF.out.2, ?_⟩
        · clear c0 c1 c2 c3 c4 c5 c6 c7 c8 c9 f0 f1 f2 f3 f4 f5 f6 f7 f8 f9
          generalize drSet W3 w.heap.size D0 0 nils = WE at HF ⊢
          obtain ⟨⟨c0, c1, c2, c3, c4, c5, c6, c7, c8, c9⟩, _⟩ := dr_at HF.out.1
          simp [results, Tryd.results42, go_sem, c0, c1, c2, c3, c4, c5, c6, c7, c8, c9] <;> rfl
        · rw [HO.out]
  · have hA' : ∀ r, S.data.toList ≠ 71 :: 48 :: 48 :: r := fun r h => hA ⟨r, h⟩
    have HCN : Hid (∀ r, S.data.toList ≠ (⟨#[71, 48, 48]⟩ : ByteArray).data.toList ++ r) := hA'
    clear hA
    by_cases hB : ∃ r, S.data.toList = 71 :: 48 :: 49 :: r
    · obtain ⟨r, hr⟩ := hB
      rw [hr] at ho
      have ho : placedV 11 r = o := ho
      have HRM : Hid ((⟨r.toArray⟩ : ByteArray).size ≤ maxLen) := by
        have h1 := len_list S
        rw [hr] at h1
        show r.length ≤ _
        simp at h1
        omega
      have HCA : Hid (S.data.toList = (⟨#[71, 48, 49]⟩ : ByteArray).data.toList ++ r) := hr
      clear hr hA'
      cases hpv : posV r with
      | none =>
        have HO : Hid (o = none) := by show _ = _; rw [← ho]; unfold placedV; rw [hpv]
        have HPV : Hid (posV (⟨r.toArray⟩ : ByteArray).data.toList = none) := hpv
        clear ho hpv
        go_enter Tryd.func42, Tryd.ntmps42
        go_upto_region 1 with fail
        generalize w.alloc zObj = W1 at HZ ⊢
        go_wp2_with fail
        with_reducible refine (cut_no_c S _ HCN _).mono ?_
        rintro en w2 ⟨rfl, rfl⟩
        go_wp2_with fail
        with_reducible refine (cut_yes_c S _ r HCA _).mono ?_
        rintro en w2 ⟨rfl, rfl⟩
        go_wp2_with fail
        refine (pos_c ⟨r.toArray⟩ HRM.out none HPV _).mono ?_
        rintro en W3 ⟨rfl, hw3⟩
        have HZ0 := HZ
        clear HZ
        have HZ := Lib.hid (HZ0.out.below (drew_below hw3))
        clear HZ0 hw3
        obtain ⟨⟨c0, c1, c2, c3, c4, c5, c6, c7, c8, c9⟩, f0, f1, f2, f3, f4, f5, f6, f7, f8, f9⟩ := dr_at HZ.out.a
        have HF := Lib.hid (dr_fin HZ.out.b HZ.out.a D0 0 nils)
        go_wp2_with fail
        refine bodyPost_ret (w := drSet W3 w.heap.size D0 0 nils) (v := .tuple #[drVal D0 0 nils, .bool false]) ?_ rfl ⟨HF.out.2, ?_⟩
        · clear c0 c1 c2 c3 c4 c5 c6 c7 c8 c9 f0 f1 f2 f3 f4 f5 f6 f7 f8 f9
          generalize drSet W3 w.heap.size D0 0 nils = WE at HF ⊢
          obtain ⟨⟨c0, c1, c2, c3, c4, c5, c6, c7, c8, c9⟩, _⟩ := dr_at HF.out.1
          simp [results, Tryd.results42, go_sem, c0, c1, c2, c3, c4, c5, c6, c7, c8, c9] <;> rfl
        · rw [HO.out]
      | some q =>
        obtain ⟨x, y, z⟩ := q
        have HPV : Hid (posV (⟨r.toArray⟩ : ByteArray).data.toList = some (x, y, z)) := hpv
        cases z with
        | nil =>
          have HO : Hid (o = some { kd 11 with x := x, y := y }) := by show _ = _; rw [← ho]; unfold placedV; rw [hpv]
          clear ho hpv
          go_enter Tryd.func42, Tryd.ntmps42
          go_upto_region 1 with fail
          generalize w.alloc zObj = W1 at HZ ⊢
          go_wp2_with fail
          with_reducible refine (cut_no_c S _ HCN _).mono ?_
          rintro en w2 ⟨rfl, rfl⟩
          go_wp2_with fail
          with_reducible refine (cut_yes_c S _ r HCA _).mono ?_
          rintro en w2 ⟨rfl, rfl⟩
          go_wp2_with fail
          refine (pos_c ⟨r.toArray⟩ HRM.out (some (x, y, [])) HPV _).mono ?_
          rintro en W3 ⟨rfl, hw3⟩
          have HZ0 := HZ
          clear HZ
          have HZ := Lib.hid (HZ0.out.below (drew_below hw3))
          clear HZ0 hw3
          obtain ⟨⟨c0, c1, c2, c3, c4, c5, c6, c7, c8, c9⟩, f0, f1, f2, f3, f4, f5, f6, f7, f8, f9⟩ := dr_at HZ.out.a
          have HF := Lib.hid (dr_fin HZ.out.b HZ.out.a { kd 11 with x := x, y := y } 0 nils)
          go_wp2_with fail
          refine bodyPost_ret (w := drSet W3 w.heap.size { kd 11 with x := x, y := y } 0 nils) (v := .tuple #[drVal { kd 11 with x := x, y := y } 0 nils, .bool true]) ?_ rfl ⟨HF.out.2, ?_⟩
          · clear c0 c1 c2 c3 c4 c5 c6 c7 c8 c9 f0 f1 f2 f3 f4 f5 f6 f7 f8 f9
            generalize drSet W3 w.heap.size { kd 11 with x := x, y := y } 0 nils = WE at HF ⊢
            obtain ⟨⟨c0, c1, c2, c3, c4, c5, c6, c7, c8, c9⟩, _⟩ := dr_at HF.out.1
            simp [results, Tryd.results42, go_sem, c0, c1, c2, c3, c4, c5, c6, c7, c8, c9] <;> rfl
          · rw [HO.out]
            exact ⟨none, 0, rfl, NumsIn.nil _ _ _⟩
        | cons c z =>
          have HO : Hid (o = none) := by show _ = _; rw [← ho]; unfold placedV; rw [hpv]
          have hz := bs_ne c z
          clear ho hpv
          go_enter Tryd.func42, Tryd.ntmps42
          go_upto_region 1 with fail
          generalize w.alloc zObj = W1 at HZ ⊢
          go_wp2_with fail
          with_reducible refine (cut_no_c S _ HCN _).mono ?_
          rintro en w2 ⟨rfl, rfl⟩
          go_wp2_with fail
          with_reducible refine (cut_yes_c S _ r HCA _).mono ?_
          rintro en w2 ⟨rfl, rfl⟩
          go_wp2_with fail
          refine (pos_c ⟨r.toArray⟩ HRM.out (some (x, y, c :: z)) HPV _).mono ?_
          rintro en W3 ⟨rfl, hw3⟩
          have HZ0 := HZ
          clear HZ
          have HZ := Lib.hid (HZ0.out.below (drew_below hw3))
          clear HZ0 hw3
          obtain ⟨Z, hZ⟩ : ∃ Z : ByteArray, Z = ⟨(c :: z).toArray⟩ := ⟨_, rfl⟩
          rw [← hZ] at hz ⊢
          clear hZ
          obtain ⟨⟨c0, c1, c2, c3, c4, c5, c6, c7, c8, c9⟩, f0, f1, f2, f3, f4, f5, f6, f7, f8, f9⟩ := dr_at HZ.out.a
          have HF := Lib.hid (dr_fin HZ.out.b HZ.out.a D0 0 nils)
          go_wp2_with fail
          refine bodyPost_ret (w := drSet W3 w.heap.size D0 0 nils) (v := .tuple #[drVal D0 0 nils, .bool false]) ?_ rfl ⟨HF.out.2, ?_⟩
          · clear c0 c1 c2 c3 c4 c5 c6 c7 c8 c9 f0 f1 f2 f3 f4 f5 f6 f7 f8 f9
            generalize drSet W3 w.heap.size D0 0 nils = WE at HF ⊢
            obtain ⟨⟨c0, c1, c2, c3, c4, c5, c6, c7, c8, c9⟩, _⟩ := dr_at HF.out.1
            simp [results, Tryd.results42, go_sem, c0, c1, c2, c3, c4, c5, c6, c7, c8, c9] <;> rfl
          · rw [HO.out]
    · have hB' : ∀ r, S.data.toList ≠ 71 :: 48 :: 49 :: r := fun r h => hB ⟨r, h⟩
      have HO : Hid (o = none) := by show _ = _; rw [← ho]; exact move_none hA' hB'
      have HCM : Hid (∀ r, S.data.toList ≠ (⟨#[71, 48, 49]⟩ : ByteArray).data.toList ++ r) := hB'
      clear ho hA' hB hB'
      go_enter Tryd.func42, Tryd.ntmps42
      go_upto_region 1 with fail
      generalize w.alloc zObj = W1 at HZ ⊢
      go_wp2_with fail
      with_reducible refine (cut_no_c S _ HCN _).mono ?_
      rintro en w2 ⟨rfl, rfl⟩
      go_wp2_with fail
      with_reducible refine (cut_no_c S _ HCM _).mono ?_
      rintro en w2 ⟨rfl, rfl⟩
      obtain ⟨⟨c0, c1, c2, c3, c4, c5, c6, c7, c8, c9⟩, f0, f1, f2, f3, f4, f5, f6, f7, f8, f9⟩ := dr_at HZ.out.a
      have HF := Lib.hid (dr_fin HZ.out.b HZ.out.a D0 0 nils)
      go_wp2_with fail
      refine bodyPost_ret (w := drSet W1 w.heap.size D0 0 nils) (v := .tuple #[drVal D0 0 nils, .bool false]) ?_ rfl ⟨HF.out.2, ?_⟩
      · clear c0 c1 c2 c3 c4 c5 c6 c7 c8 c9 f0 f1 f2 f3 f4 f5 f6 f7 f8 f9
        generalize drSet W1 w.heap.size D0 0 nils = WE at HF ⊢
        obtain ⟨⟨c0, c1, c2, c3, c4, c5, c6, c7, c8, c9⟩, _⟩ := dr_at HF.out.1
        simp [results, Tryd.results42, go_sem, c0, c1, c2, c3, c4, c5, c6, c7, c8, c9] <;> rfl
      · rw [HO.out]

set_option maxRecDepth 100000 in
set_option maxHeartbeats 3200000 in
theorem hit_c (S : ByteArray) (hs : S.size ≤ maxLen) (o : Option D) (h : Hid (hitV S.data.toList = o)) (w : World) :
    Calls Tryd.prog 43 #[.string S] w (CmdOut o w) := by
  have hsm := Lib.hid hs
  have HZ : Hid (ZAt w _) := z_new w
  have ho := h.out
  clear h
  cases hpv : posV S.data.toList with
  | none =>
    have HO : Hid (o = none) := by show _ = _; rw [← ho]; unfold hitV; rw [hpv]
    have HPV := Lib.hid hpv
    clear ho hpv
    go_enter Tryd.func43, Tryd.ntmps43
    go_upto_region 1 with fail
    generalize w.alloc zObj = W1 at HZ ⊢
    go_wp2_with fail
    refine (pos_c S hsm.out none HPV _).mono ?_
    rintro en W2 ⟨rfl, hw2⟩
    have HZ0 := HZ
    clear HZ
    have HZ := Lib.hid (HZ0.out.below (drew_below hw2))
    clear HZ0 hw2
    obtain ⟨⟨c0, c1, c2, c3, c4, c5, c6, c7, c8, c9⟩, f0, f1, f2, f3, f4, f5, f6, f7, f8, f9⟩ := dr_at HZ.out.a
    have HF := Lib.hid (dr_fin HZ.out.b HZ.out.a D0 0 nils)
    go_wp2_with fail
    refine bodyPost_ret (w := drSet W2 w.heap.size D0 0 nils) (v := .tuple #[drVal D0 0 nils, .bool false]) ?_ rfl ⟨HF.out.2, ?_⟩
    · clear c0 c1 c2 c3 c4 c5 c6 c7 c8 c9 f0 f1 f2 f3 f4 f5 f6 f7 f8 f9
      generalize drSet W2 w.heap.size D0 0 nils = WE at HF ⊢
      obtain ⟨⟨c0, c1, c2, c3, c4, c5, c6, c7, c8, c9⟩, _⟩ := dr_at HF.out.1
      simp [results, Tryd.results43, go_sem, c0, c1, c2, c3, c4, c5, c6, c7, c8, c9] <;> rfl
    · rw [HO.out]
  | some q =>
    obtain ⟨x, y, z⟩ := q
    have HPV := Lib.hid hpv
    have hzl := posV_len hpv
    rw [len_list] at hzl
    by_cases hz0 : z = []
    · subst hz0
      have HO : Hid (o = some { kd 7 with x := x, y := y }) := by show _ = _; rw [← ho]; unfold hitV; rw [hpv]
      clear ho hpv hzl
      go_enter Tryd.func43, Tryd.ntmps43
      go_upto_region 1 with fail
      generalize w.alloc zObj = W1 at HZ ⊢
      go_wp2_with fail
      refine (pos_c S hsm.out (some (x, y, [])) HPV _).mono ?_
      rintro en W2 ⟨rfl, hw2⟩
      have HZ0 := HZ
      clear HZ
      have HZ := Lib.hid (HZ0.out.below (drew_below hw2))
      clear HZ0 hw2
      obtain ⟨⟨c0, c1, c2, c3, c4, c5, c6, c7, c8, c9⟩, f0, f1, f2, f3, f4, f5, f6, f7, f8, f9⟩ := dr_at HZ.out.a
      have HF := Lib.hid (dr_fin HZ.out.b HZ.out.a { kd 7 with x := x, y := y } 0 nils)
      go_wp2_with fail
      refine bodyPost_ret (w := drSet W2 w.heap.size { kd 7 with x := x, y := y } 0 nils) (v := .tuple #[drVal { kd 7 with x := x, y := y } 0 nils, .bool true]) ?_ rfl ⟨HF.out.2, ?_⟩
      · clear c0 c1 c2 c3 c4 c5 c6 c7 c8 c9 f0 f1 f2 f3 f4 f5 f6 f7 f8 f9
        generalize drSet W2 w.heap.size { kd 7 with x := x, y := y } 0 nils = WE at HF ⊢
        obtain ⟨⟨c0, c1, c2, c3, c4, c5, c6, c7, c8, c9⟩, _⟩ := dr_at HF.out.1
        simp [results, Tryd.results43, go_sem, c0, c1, c2, c3, c4, c5, c6, c7, c8, c9] <;> rfl
      · rw [HO.out]
        exact ⟨none, 0, rfl, NumsIn.nil _ _ _⟩
    · obtain ⟨Z, hZ⟩ : ∃ Z : ByteArray, Z = ⟨z.toArray⟩ := ⟨_, rfl⟩
      have hZl : Z.data.toList = z := by rw [hZ]
      have hZn : (Z.toList == []) = false := by rw [str_is, hZl]; exact decide_eq_false hz0
      by_cases hA : ∃ r, z = 71 :: 56 :: 53 :: r
      · obtain ⟨r, hr⟩ := hA
        subst hr
        have HCA : Hid (Z.data.toList = (⟨#[71, 56, 53]⟩ : ByteArray).data.toList ++ r) := hZl
        have HRM : Hid ((⟨r.toArray⟩ : ByteArray).size ≤ maxLen) := by
          show r.length ≤ _
          simp at hzl
          omega
        clear hZl hzl hz0
        cases hqv : posV r with
        | none =>
          have HO : Hid (o = none) := by show _ = _; rw [← ho]; unfold hitV; rw [hpv]; simp [hqv]
          have HQV : Hid (posV (⟨r.toArray⟩ : ByteArray).data.toList = none) := hqv
          clear ho hpv hqv
          go_enter Tryd.func43, Tryd.ntmps43
          go_upto_region 1 with fail
          generalize w.alloc zObj = W1 at HZ ⊢
          go_wp2_with fail
          refine (pos_c S hsm.out (some (x, y, 71 :: 56 :: 53 :: r)) HPV _).mono ?_
          rintro en W2 ⟨rfl, hw2⟩
          have HZ0 := HZ
          clear HZ
          have HZ := Lib.hid (HZ0.out.below (drew_below hw2))
          clear HZ0 hw2
          rw [← hZ]
          clear hZ
          go_wp2_with fail
          refine (cut_yes_c Z ⟨#[71, 56, 53]⟩ r HCA _).mono ?_
          rintro en w3 ⟨rfl, rfl⟩
          go_wp2_with fail
          refine (pos_c ⟨r.toArray⟩ HRM.out none HQV _).mono ?_
          rintro en W3 ⟨rfl, hw3⟩
          have HZ0 := HZ
          clear HZ
          have HZ := Lib.hid (HZ0.out.below (drew_below hw3))
          clear HZ0 hw3
          obtain ⟨⟨c0, c1, c2, c3, c4, c5, c6, c7, c8, c9⟩, f0, f1, f2, f3, f4, f5, f6, f7, f8, f9⟩ := dr_at HZ.out.a
          have HF := Lib.hid (dr_fin HZ.out.b HZ.out.a D0 0 nils)
          go_wp2_with fail
          refine bodyPost_ret (w := drSet W3 w.heap.size D0 0 nils) (v := .tuple #[drVal D0 0 nils, .bool false]) ?_ rfl ⟨HF.out.2, ?_⟩
          · clear c0 c1 c2 c3 c4 c5 c6 c7 c8 c9 f0 f1 f2 f3 f4 f5 f6 f7 f8 f9
            generalize drSet W3 w.heap.size D0 0 nils = WE at HF ⊢
            obtain ⟨⟨c0, c1, c2, c3, c4, c5, c6, c7, c8, c9⟩, _⟩ := dr_at HF.out.1
            simp [results, Tryd.results43, go_sem, c0, c1, c2, c3, c4, c5, c6, c7, c8, c9] <;> rfl
          · rw [HO.out]
        | some q =>
          obtain ⟨u, v, z2⟩ := q
          have HQV : Hid (posV (⟨r.toArray⟩ : ByteArray).data.toList = some (u, v, z2)) := hqv
          cases z2 with
          | nil =>
            have HO : Hid (o = some { kd 8 with x := x, y := y, u := u, v := v }) := by show _ = _; rw [← ho]; unfold hitV; rw [hpv]; simp [hqv]
            clear ho hpv hqv
            go_enter Tryd.func43, Tryd.ntmps43
            go_upto_region 1 with fail
            generalize w.alloc zObj = W1 at HZ ⊢
            go_wp2_with fail
            refine (pos_c S hsm.out (some (x, y, 71 :: 56 :: 53 :: r)) HPV _).mono ?_
            rintro en W2 ⟨rfl, hw2⟩
            have HZ0 := HZ
            clear HZ
            have HZ := Lib.hid (HZ0.out.below (drew_below hw2))
            clear HZ0 hw2
            rw [← hZ]
            clear hZ
            go_wp2_with fail
            refine (cut_yes_c Z ⟨#[71, 56, 53]⟩ r HCA _).mono ?_
            rintro en w3 ⟨rfl, rfl⟩
            go_wp2_with fail
            refine (pos_c ⟨r.toArray⟩ HRM.out (some (u, v, [])) HQV _).mono ?_
            rintro en W3 ⟨rfl, hw3⟩
            have HZ0 := HZ
            clear HZ
            have HZ := Lib.hid (HZ0.out.below (drew_below hw3))
            clear HZ0 hw3
            obtain ⟨⟨c0, c1, c2, c3, c4, c5, c6, c7, c8, c9⟩, f0, f1, f2, f3, f4, f5, f6, f7, f8, f9⟩ := dr_at HZ.out.a
            have HF := Lib.hid (dr_fin HZ.out.b HZ.out.a { kd 8 with x := x, y := y, u := u, v := v } 0 nils)
            go_wp2_with fail
            refine bodyPost_ret (w := drSet W3 w.heap.size { kd 8 with x := x, y := y, u := u, v := v } 0 nils) (v := .tuple #[drVal { kd 8 with x := x, y := y, u := u, v := v } 0 nils, .bool true]) ?_ rfl ⟨HF.out.2, ?_⟩
            · clear c0 c1 c2 c3 c4 c5 c6 c7 c8 c9 f0 f1 f2 f3 f4 f5 f6 f7 f8 f9
              generalize drSet W3 w.heap.size { kd 8 with x := x, y := y, u := u, v := v } 0 nils = WE at HF ⊢
              obtain ⟨⟨c0, c1, c2, c3, c4, c5, c6, c7, c8, c9⟩, _⟩ := dr_at HF.out.1
              simp [results, Tryd.results43, go_sem, c0, c1, c2, c3, c4, c5, c6, c7, c8, c9] <;> rfl
            · rw [HO.out]
              exact ⟨none, 0, rfl, NumsIn.nil _ _ _⟩
          | cons c z2 =>
            have HO : Hid (o = none) := by show _ = _; rw [← ho]; unfold hitV; rw [hpv]; simp [hqv]
            have hz2 := bs_ne c z2
            clear ho hpv hqv
            go_enter Tryd.func43, Tryd.ntmps43
            go_upto_region 1 with fail
            generalize w.alloc zObj = W1 at HZ ⊢
            go_wp2_with fail
            refine (pos_c S hsm.out (some (x, y, 71 :: 56 :: 53 :: r)) HPV _).mono ?_
            rintro en W2 ⟨rfl, hw2⟩
            have HZ0 := HZ
            clear HZ
            have HZ := Lib.hid (HZ0.out.below (drew_below hw2))
            clear HZ0 hw2
            rw [← hZ]
            clear hZ
            go_wp2_with fail
            refine (cut_yes_c Z ⟨#[71, 56, 53]⟩ r HCA _).mono ?_
            rintro en w3 ⟨rfl, rfl⟩
            go_wp2_with fail
            refine (pos_c ⟨r.toArray⟩ HRM.out (some (u, v, c :: z2)) HQV _).mono ?_
            rintro en W3 ⟨rfl, hw3⟩
            have HZ0 := HZ
            clear HZ
            have HZ := Lib.hid (HZ0.out.below (drew_below hw3))
            clear HZ0 hw3
            obtain ⟨Z2, hZ2⟩ : ∃ Z : ByteArray, Z = ⟨(c :: z2).toArray⟩ := ⟨_, rfl⟩
            rw [← hZ2] at hz2 ⊢
            clear hZ2
            obtain ⟨⟨c0, c1, c2, c3, c4, c5, c6, c7, c8, c9⟩, f0, f1, f2, f3, f4, f5, f6, f7, f8, f9⟩ := dr_at HZ.out.a
            have HF := Lib.hid (dr_fin HZ.out.b HZ.out.a D0 0 nils)
            go_wp2_with fail
            refine bodyPost_ret (w := drSet W3 w.heap.size D0 0 nils) (v := .tuple #[drVal D0 0 nils, .bool false]) ?_ rfl ⟨HF.out.2, ?_⟩
            · clear c0 c1 c2 c3 c4 c5 c6 c7 c8 c9 f0 f1 f2 f3 f4 f5 f6 f7 f8 f9
              generalize drSet W3 w.heap.size D0 0 nils = WE at HF ⊢
              obtain ⟨⟨c0, c1, c2, c3, c4, c5, c6, c7, c8, c9⟩, _⟩ := dr_at HF.out.1
              simp [results, Tryd.results43, go_sem, c0, c1, c2, c3, c4, c5, c6, c7, c8, c9] <;> rfl
            · rw [HO.out]
      · have hA' : ∀ r, z ≠ 71 :: 56 :: 53 :: r := fun r h => hA ⟨r, h⟩
        have HO : Hid (o = none) := by show _ = _; rw [← ho]; exact hit_other hpv hz0 hA'
        have HCN : Hid (∀ r, Z.data.toList ≠ (⟨#[71, 56, 53]⟩ : ByteArray).data.toList ++ r) := by rw [hZl]; exact hA'
        clear ho hpv hA hA' hZl hzl hz0
        go_enter Tryd.func43, Tryd.ntmps43
        go_upto_region 1 with fail
        generalize w.alloc zObj = W1 at HZ ⊢
        go_wp2_with fail
        refine (pos_c S hsm.out (some (x, y, z)) HPV _).mono ?_
        rintro en W2 ⟨rfl, hw2⟩
        have HZ0 := HZ
        clear HZ
        have HZ := Lib.hid (HZ0.out.below (drew_below hw2))
        clear HZ0 hw2
        rw [← hZ]
        clear hZ
        go_wp2_with fail
        refine (cut_no_c Z ⟨#[71, 56, 53]⟩ HCN _).mono ?_
        rintro en w3 ⟨rfl, rfl⟩
        obtain ⟨⟨c0, c1, c2, c3, c4, c5, c6, c7, c8, c9⟩, f0, f1, f2, f3, f4, f5, f6, f7, f8, f9⟩ := dr_at HZ.out.a
        have HF := Lib.hid (dr_fin HZ.out.b HZ.out.a D0 0 nils)
        go_wp2_with fail
        refine bodyPost_ret (w := drSet W2 w.heap.size D0 0 nils) (v := .tuple #[drVal D0 0 nils, .bool false]) ?_ rfl ⟨HF.out.2, ?_⟩
        · clear c0 c1 c2 c3 c4 c5 c6 c7 c8 c9 f0 f1 f2 f3 f4 f5 f6 f7 f8 f9
          generalize drSet W2 w.heap.size D0 0 nils = WE at HF ⊢
          obtain ⟨⟨c0, c1, c2, c3, c4, c5, c6, c7, c8, c9⟩, _⟩ := dr_at HF.out.1
          simp [results, Tryd.results43, go_sem, c0, c1, c2, c3, c4, c5, c6, c7, c8, c9] <;> rfl
        · rw [HO.out]
end Go.Proofs.YtecpmnkgikcpnaaDoor.XW
