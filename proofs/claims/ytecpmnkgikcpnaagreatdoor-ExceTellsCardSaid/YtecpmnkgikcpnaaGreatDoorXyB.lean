/-
  The walks of the document's own reader of drill files: place, tool, placed.
-/
import Derived.Test.YtecpmnkgikcpnaaGreatDoorXyA
import Derived.Test.YtecpmnkgikcpnaaGreatDoorXwD
set_option linter.unusedVariables false
set_option linter.unusedSimpArgs false
namespace Go.Proofs.YtecpmnkgikcpnaaGreatDoor.YW
open Go.RowKit Go.Proofs.YtecpmnkgikcpnaaGreatDoor.Base Go.Proofs.YtecpmnkgikcpnaaGreatDoor.Dp Go.Proofs.YtecpmnkgikcpnaaGreatDoor.DeciW Go.Proofs.YtecpmnkgikcpnaaGreatDoor.Xp Go.Proofs.YtecpmnkgikcpnaaGreatDoor.XW

theorem run_at (s : ByteArray) (i : Int) (a : Nat) (hi : i = a) (ha : a ≤ s.size) (n : Nat) (hn : Hid (nd (s.data.toList.drop a) = n)) (w : World) (hs : s.size ≤ 9223372036854775807) :
    Calls Tryz.prog 37 #[.string s, .int .i64 i] w fun e w' => e = .returned (.int .i64 n) ∧ w = w' := by
  have h2 := hn.out
  subst h2; subst hi
  exact run_any s a ha w hs
theorem has_at {s : List UInt8} {c : UInt8} (h : (s.take 1 == [c]) = true) : ∃ r, s = c :: r := by
  cases s with
  | nil => simp at h
  | cons d r => simp at h; exact ⟨r, by rw [h]⟩
theorem rcoord_yes (r : List UInt8) (l : UInt8) : rcoord (l :: r) l = (r.take (rspan r), r.drop (rspan r), rok (r.take (rspan r)), true) := by rw [rcoord_cons, if_pos rfl]
theorem rcoord_no {s : List UInt8} {l : UInt8} (h : (s.take 1 == [l]) = false) : rcoord s l = ([], s, true, false) := by
  cases s with
  | nil => rfl
  | cons c r =>
    rw [rcoord_cons, if_neg]
    rintro rfl
    simp at h
theorem rcoord_len (s : List UInt8) (l : UInt8) : (rcoord s l).1.length ≤ s.length ∧ (rcoord s l).2.1.length ≤ s.length := by
  cases s with
  | nil => simp [rcoord]
  | cons c r =>
    rw [rcoord_cons]
    split
    · simp; omega
    · simp
theorem rplace_eq {s x y s1 s2 : List UInt8} {o1 o2 m1 m2 : Bool} (h1 : rcoord s 88 = (x, s1, o1, m1)) (h2 : rcoord s1 89 = (y, s2, o2, m2)) : rplace s = if (o1 && (o2 && (m1 || m2))) = true then some (x, y, s2) else none := by
  unfold rplace
  rw [h1]
  dsimp only
  rw [h2]
  simp only [Bool.and_eq_true, Bool.or_eq_true]
/-- What place returns. -/
def PlaceOut (o : Option (List UInt8 × List UInt8 × List UInt8)) (e : Ending) : Prop := match o with
  | some (x, y, r) => e = .returned (.tuple #[.string ⟨x.toArray⟩, .string ⟨y.toArray⟩, .string ⟨r.toArray⟩, .bool true])
  | none => ∃ X Y Z : ByteArray, e = .returned (.tuple #[.string X, .string Y, .string Z, .bool false])

set_option maxRecDepth 100000 in
set_option maxHeartbeats 3200000 in
theorem place_c (S : ByteArray) (hs : S.size ≤ maxLen) (o : Option (List UInt8 × List UInt8 × List UInt8)) (h : Hid (rplace S.data.toList = o)) (w : World) :
    Calls Tryz.prog 39 #[.string S] w fun e w' => PlaceOut o e ∧ Drew w w' := by
  unfold maxLen at hs
  obtain ⟨x, s1, o1, m1, hc1⟩ : ∃ x s1 o1 m1, rcoord S.data.toList 88 = (x, s1, o1, m1) := ⟨_, _, _, _, rfl⟩
  obtain ⟨y, s2, o2, m2, hc2⟩ : ∃ y s2 o2 m2, rcoord s1 89 = (y, s2, o2, m2) := ⟨_, _, _, _, rfl⟩
  have hx := h.out
  rw [rplace_eq hc1 hc2] at hx
  have HX := Lib.hid hx
  have l1 := rcoord_len S.data.toList 88
  rw [hc1, len_list] at l1
  have l2 := rcoord_len s1 89
  rw [hc2] at l2
  obtain ⟨X1, hX1⟩ := str_ex x
  obtain ⟨S1, hS1⟩ := str_ex s1
  obtain ⟨Y1, hY1⟩ := str_ex y
  obtain ⟨S2, hS2⟩ := str_ex s2
  have zS1 : S1.size ≤ 9223372036854775807 := by rw [← len_list, hS1]; have := l1.2; dsimp only at this; omega
  have HC1 : Hid (rcoord S.data.toList 88 = (X1.data.toList, S1.data.toList, o1, m1)) := by show _ = _; rw [hc1, hX1, hS1]
  have HC2 : Hid (rcoord S1.data.toList 89 = (Y1.data.toList, S2.data.toList, o2, m2)) := by show _ = _; rw [hS1, hc2, hY1, hS2]
  have HL := Lib.hid (And.intro hX1 (And.intro hY1 hS2))
  clear hx hc1 hc2 l1 l2 hX1 hS1 hY1 hS2 h
  obtain ⟨b, hb⟩ : ∃ b, (S.data.toList.take 1 == [88]) = b := ⟨_, rfl⟩
  have HB := Lib.hid hb
  clear hb
  obtain ⟨d, hd⟩ : ∃ d, (S1.data.toList.take 1 == [89]) = d := ⟨_, rfl⟩
  have HD := Lib.hid hd
  clear hd
  go_enter Tryz.func39, Tryz.ntmps39
  go_wp2_with fail
  refine (has_c S ⟨#[88]⟩ hs (by decide) b HB _).mono ?_
  rintro e w' ⟨rfl, rfl⟩
  go_upto_if 11 with fail
  go_cut [6, 0, 8, 9] (fun u t v q wx => u = .string X1 ∧ t = .string S1 ∧ v = .bool o1 ∧ q = .bool m1 ∧ Drew w wx)
  case first =>
    have hc := HC1.out
    cases b with
    | true =>
      obtain ⟨r, hr⟩ := has_at HB.out
      rw [hr, rcoord_yes] at hc
      simp only [Prod.mk.injEq] at hc
      obtain ⟨c1, c2, c3, rfl⟩ := hc
      obtain ⟨T, hT⟩ : ∃ T, S.extract 1 S.size = T := ⟨_, rfl⟩
      have hTl : T.data.toList = r := by rw [← hT, ext_list, hr]; rfl
      have hS1 : (1 : Int) ≤ (S.size : Int) := by rw [← len_list, hr]; simp; omega
      have hTz : T.size ≤ 9223372036854775807 := by rw [← hT, ByteArray.size_extract]; omega
      have HW : Hid (X1.data.toList = T.data.toList.take (rspan T.data.toList) ∧ S1.data.toList = T.data.toList.drop (rspan T.data.toList) ∧ rok (T.data.toList.take (rspan T.data.toList)) = o1) := by
        show _ ∧ _
        rw [hTl]; exact ⟨c1.symm, c2.symm, c3⟩
      clear c1 c2 c3 hr hTl
      go_wp2_with fail
      refine (rway_c T hTz X1 S1 o1 HW _).mono ?_
      rintro e w' ⟨rfl, hw⟩
      go_wp2_with fail
      go_meet
      exact ⟨rfl, rfl, rfl, rfl, hw⟩
    | false =>
      rw [rcoord_no HB.out] at hc
      simp only [Prod.mk.injEq] at hc
      obtain ⟨c1, c2, rfl, rfl⟩ := hc
      obtain rfl : X1 = ⟨#[]⟩ := str_eq c1.symm
      obtain rfl : S = S1 := str_eq c2
      go_wp2_with fail
      go_meet
      exact ⟨rfl, rfl, rfl, rfl, 0, rfl⟩
  case rest =>
  obtain ⟨rfl, rfl, rfl, rfl, hw1⟩ := hcut
  have HW1 := Lib.hid hw1
  clear hw1
  cases o1 with
  | false =>
    go_wp2_with fail
    refine bodyPost_ret (results_tmp4 rfl _ _ _) rfl ?_
    refine ⟨?_, HW1.out⟩
    rw [← HX.out]
    exact ⟨_, _, _, rfl⟩
  | true =>
    go_wp2_with fail
    refine (has_c S1 ⟨#[89]⟩ zS1 (by decide) d HD _).mono ?_
    rintro e w' ⟨rfl, rfl⟩
    go_upto_if 23 with fail
    go_cut [7, 0, 8, 9] (fun u t v q wx => u = .string Y1 ∧ t = .string S2 ∧ v = .bool o2 ∧ q = .bool (m1 || m2) ∧ Drew w wx)
    case first =>
      have hc := HC2.out
      cases d with
      | true =>
        obtain ⟨r, hr⟩ := has_at HD.out
        rw [hr, rcoord_yes] at hc
        simp only [Prod.mk.injEq] at hc
        obtain ⟨c1, c2, c3, rfl⟩ := hc
        obtain ⟨T, hT⟩ : ∃ T, S1.extract 1 S1.size = T := ⟨_, rfl⟩
        have hTl : T.data.toList = r := by rw [← hT, ext_list, hr]; rfl
        have hS1 : (1 : Int) ≤ (S1.size : Int) := by rw [← len_list, hr]; simp; omega
        have hTz : T.size ≤ 9223372036854775807 := by rw [← hT, ByteArray.size_extract]; omega
        have HW : Hid (Y1.data.toList = T.data.toList.take (rspan T.data.toList) ∧ S2.data.toList = T.data.toList.drop (rspan T.data.toList) ∧ rok (T.data.toList.take (rspan T.data.toList)) = o2) := by
          show _ ∧ _
          rw [hTl]; exact ⟨c1.symm, c2.symm, c3⟩
        clear c1 c2 c3 hr hTl
        go_wp2_with fail
        refine (rway_c T hTz Y1 S2 o2 HW _).mono ?_
        rintro e w' ⟨rfl, hw⟩
        have HW2 := Lib.hid (HW1.out.trans hw)
        clear hw
        go_wp2_with fail
        go_meet
        exact ⟨rfl, rfl, rfl, by rw [Bool.or_true], HW2.out⟩
      | false =>
        rw [rcoord_no HD.out] at hc
        simp only [Prod.mk.injEq] at hc
        obtain ⟨c1, c2, rfl, rfl⟩ := hc
        obtain rfl : Y1 = ⟨#[]⟩ := str_eq c1.symm
        obtain rfl : S1 = S2 := str_eq c2
        go_wp2_with fail
        go_meet
        exact ⟨rfl, rfl, rfl, by rw [Bool.or_false], HW1.out⟩
    case rest =>
    obtain ⟨rfl, rfl, rfl, rfl, hw2⟩ := hcut
    have HW2 := Lib.hid hw2
    clear hw2
    obtain ⟨mm, hmm⟩ : ∃ mm, (m1 || m2) = mm := ⟨_, rfl⟩
    have HX2 : Hid ((if (o2 && mm) = true then some (x, y, s2) else none) = o) := by
      show _ = _
      rw [← HX.out, hmm, Bool.true_and]
    rw [hmm]
    clear HX hmm
    cases o2 with
    | false =>
      go_wp2_with fail
      refine bodyPost_ret (results_tmp4 rfl _ _ _) rfl ?_
      refine ⟨?_, HW2.out⟩
      rw [← HX2.out]
      exact ⟨_, _, _, rfl⟩
    | true =>
      cases mm with
      | false =>
        go_wp2_with fail
        refine bodyPost_ret (results_tmp4 rfl _ _ _) rfl ?_
        refine ⟨?_, HW2.out⟩
        rw [← HX2.out]
        exact ⟨_, _, _, rfl⟩
      | true =>
        go_wp2_with fail
        refine bodyPost_ret (results_tmp4 rfl _ _ _) rfl ?_
        refine ⟨?_, HW2.out⟩
        rw [← HX2.out, ← HL.out.1, ← HL.out.2.1, ← HL.out.2.2]
        exact rfl

set_option maxRecDepth 100000 in
set_option maxHeartbeats 3200000 in
theorem rtool_c (S : ByteArray) (hs : S.size ≤ maxLen) (n d : Nat) (h : Hid (match rcount S.data.toList 2 with | some (k, _) => n = k ∧ d = nd S.data.toList | none => n = 0 ∧ d = 0)) (w : World) :
    Calls Tryz.prog 34 #[.string S] w fun e w' => e = .returned (.tuple #[.int .i64 (n : Int), .int .i64 (d : Int)]) ∧ w = w' := by
  unfold maxLen at hs
  obtain ⟨k, hk⟩ : ∃ k, nd S.data.toList = k := ⟨_, rfl⟩
  have hkl := nd_le S.data.toList
  rw [len_list, hk] at hkl
  have HK : Hid (nd (S.data.toList.drop 0) = k) := hk
  have HH := h.out
  unfold rcount at HH
  rw [hk] at HH
  clear h
  by_cases h1 : (k : Int) < 1
  · rw [if_pos (.inl (by omega))] at HH
    obtain ⟨rfl, rfl⟩ := HH
    go_enter Tryz.func34, Tryz.ntmps34
    go_wp2_with fail
    refine (run_at S 0 0 rfl (Nat.zero_le _) k HK _ hs).mono ?_
    rintro e w' ⟨rfl, rfl⟩
    go_wp2_with fail
    go_ret2
    exact ⟨rfl, rfl⟩
  · by_cases h2 : (2 : Int) < (k : Int)
    · rw [if_pos (.inr (.inl (by omega)))] at HH
      obtain ⟨rfl, rfl⟩ := HH
      go_enter Tryz.func34, Tryz.ntmps34
      go_wp2_with fail
      refine (run_at S 0 0 rfl (Nat.zero_le _) k HK _ hs).mono ?_
      rintro e w' ⟨rfl, rfl⟩
      go_wp2_with fail
      go_ret2
      exact ⟨rfl, rfl⟩
    · have hSp : (0 : Int) < (S.size : Int) := by omega
      have hSn : 0 < S.size := by omega
      obtain ⟨c, hc⟩ : ∃ c, S[0] = c := ⟨_, rfl⟩
      have hcl : S.data.toList.headD 0 = c := by
        obtain ⟨h3, h4⟩ := byte_list S 0 hSn
        rw [head_get _ h3, h4, hc]
      by_cases h48 : c = 48
      · subst h48
        have hci : ((48 : UInt8).toNat : Int) = 48 := rfl
        rw [if_pos (.inr (.inr hcl))] at HH
        obtain ⟨rfl, rfl⟩ := HH
        clear hcl
        go_enter Tryz.func34, Tryz.ntmps34
        go_wp2_with fail
        refine (run_at S 0 0 rfl (Nat.zero_le _) k HK _ hs).mono ?_
        rintro e w' ⟨rfl, rfl⟩
        go_wp2_with fail
        go_ret2
        exact ⟨rfl, rfl⟩
      · have g48 : ((c.toNat : Int) == 48) = false := by rw [beq_eq_false_iff_ne]; intro e; exact h48 (UInt8.toNat_inj.1 (by show c.toNat = 48; omega))
        rw [if_neg (by rintro (h | h | h); omega; omega; exact h48 (hcl.symm.trans h))] at HH
        obtain ⟨rfl, rfl⟩ := HH
        obtain ⟨T, hT⟩ : ∃ T, S.extract 0 d = T := ⟨_, rfl⟩
        have hTl : T.data.toList = S.data.toList.take d := by rw [← hT, take_list]
        have hTz : T.size ≤ 18 := by rw [← hT, ByteArray.size_extract]; omega
        have HTL := Lib.hid hTl
        have HTD : Hid (∀ c ∈ S.data.toList.take d, isD c = true) := take_nd _ _ (by rw [hk]; exact Nat.le_refl _)
        have hdS : (d : Int) ≤ (S.size : Int) := by omega
        have hd0 : (0 : Int) ≤ (d : Int) := by omega
        clear hcl hTl hk
        go_enter Tryz.func34, Tryz.ntmps34
        go_wp2_with fail
        refine (run_at S 0 0 rfl (Nat.zero_le _) d HK _ hs).mono ?_
        rintro e w' ⟨rfl, rfl⟩
        go_wp2_with fail
        refine (whole_at T _ HTL HTD hTz _ (Lib.hid rfl) _).mono ?_
        rintro e w' ⟨rfl, rfl⟩
        go_wp2_with fail
        go_ret2
        exact ⟨rfl, rfl⟩

set_option maxRecDepth 100000 in
set_option maxHeartbeats 3200000 in
theorem rplaced_c (k : Int) (S : ByteArray) (hs : S.size ≤ maxLen) (o : Option D) (h : Hid (rplaced k S.data.toList = o)) (w : World) :
    Calls Tryz.prog 36 #[.int .i64 k, .string S] w (CmdOut o w) := by
  have hsm := Lib.hid hs
  have HZ : Hid (ZAt w _) := z_new w
  have ho := h.out
  unfold rplaced at ho
  clear h
  cases hpv : rplace S.data.toList with
  | none =>
    rw [hpv] at ho
    have HO : Hid (o = none) := ho.symm
    have HPV := Lib.hid hpv
    clear ho hpv
    go_enter Tryz.func36, Tryz.ntmps36
    go_upto_region 1 with fail
    generalize w.alloc zObj = W1 at HZ ⊢
    go_wp2_with fail
    refine (place_c S hsm.out none HPV _).mono ?_
    rintro en W3 ⟨⟨X, Y, Z, rfl⟩, hw3⟩
    have HZ0 := HZ
    clear HZ
    have HZ := Lib.hid (HZ0.out.below (drew_below hw3))
    clear HZ0 hw3
    obtain ⟨⟨c0, c1, c2, c3, c4, c5, c6, c7, c8, c9⟩, f0, f1, f2, f3, f4, f5, f6, f7, f8, f9⟩ := dr_at HZ.out.a
    have HF := Lib.hid (dr_fin HZ.out.b HZ.out.a D0 0 nils)
    go_wp2_with fail
    refine bodyPost_ret (w := drSet W3 w.heap.size D0 0 nils) (v := .tuple #[drVal D0 0 nils, .bool false]) ?_ rfl ⟨HF.out.2, ?_⟩
    · clear c0 c1 c2 c3 c4 c5 c6 c7 c8 c9 f0 f1 f2 f3 f4 f5 f6 f7 f8 f9
      generalize drSet W3 w.heap.size D0 0 nils = WE at HF ⊢
      obtain ⟨⟨c0, c1, c2, c3, c4, c5, c6, c7, c8, c9⟩, _⟩ := dr_at HF.out.1
      simp [results, Tryz.results36, go_sem, c0, c1, c2, c3, c4, c5, c6, c7, c8, c9] <;> rfl
    · rw [HO.out]
  | some q =>
    obtain ⟨x, y, z⟩ := q
    rw [hpv] at ho
    have HPV := Lib.hid hpv
    clear hpv
    cases z with
    | nil =>
      have HO : Hid (o = some { kd k with x := x, y := y }) := ho.symm
      clear ho
      go_enter Tryz.func36, Tryz.ntmps36
      go_upto_region 1 with fail
      generalize w.alloc zObj = W1 at HZ ⊢
      go_wp2_with fail
      refine (place_c S hsm.out (some (x, y, [])) HPV _).mono ?_
      rintro en W3 ⟨rfl, hw3⟩
      have HZ0 := HZ
      clear HZ
      have HZ := Lib.hid (HZ0.out.below (drew_below hw3))
      clear HZ0 hw3
      obtain ⟨⟨c0, c1, c2, c3, c4, c5, c6, c7, c8, c9⟩, f0, f1, f2, f3, f4, f5, f6, f7, f8, f9⟩ := dr_at HZ.out.a
      have HF := Lib.hid (dr_fin HZ.out.b HZ.out.a { kd k with x := x, y := y } 0 nils)
      go_wp2_with fail
      refine bodyPost_ret (w := drSet W3 w.heap.size { kd k with x := x, y := y } 0 nils) (v := .tuple #[drVal { kd k with x := x, y := y } 0 nils, .bool true]) ?_ rfl ⟨HF.out.2, ?_⟩
      · clear c0 c1 c2 c3 c4 c5 c6 c7 c8 c9 f0 f1 f2 f3 f4 f5 f6 f7 f8 f9
        generalize drSet W3 w.heap.size { kd k with x := x, y := y } 0 nils = WE at HF ⊢
        obtain ⟨⟨c0, c1, c2, c3, c4, c5, c6, c7, c8, c9⟩, _⟩ := dr_at HF.out.1
        simp [results, Tryz.results36, go_sem, c0, c1, c2, c3, c4, c5, c6, c7, c8, c9] <;> rfl
      · rw [HO.out]
        exact ⟨none, 0, rfl, NumsIn.nil _ _ _⟩
    | cons c z =>
      have HO : Hid (o = none) := ho.symm
      have hz := bs_ne c z
      clear ho
      go_enter Tryz.func36, Tryz.ntmps36
      go_upto_region 1 with fail
      generalize w.alloc zObj = W1 at HZ ⊢
      go_wp2_with fail
      refine (place_c S hsm.out (some (x, y, c :: z)) HPV _).mono ?_
      rintro en W3 ⟨rfl, hw3⟩
      have HZ0 := HZ
      clear HZ
      have HZ := Lib.hid (HZ0.out.below (drew_below hw3))
      clear HZ0 hw3
      obtain ⟨Z, hZ⟩ : ∃ Z : ByteArray, Z = ⟨(c :: z).toArray⟩ := ⟨_, rfl⟩
      rw [← hZ] at hz ⊢
      clear hZ
      obtain ⟨⟨c0, c1, c2, c3, c4, c5, c6, c7, c8, c9⟩, f0, f1, f2, f3, f4, f5, f6, f7, f8, f9⟩ := dr_at HZ.out.a
      have HF := Lib.hid (dr_fin HZ.out.b HZ.out.a D0 0 nils)
      go_wp2_with fail
      refine bodyPost_ret (w := drSet W3 w.heap.size D0 0 nils) (v := .tuple #[drVal D0 0 nils, .bool false]) ?_ rfl ⟨HF.out.2, ?_⟩
      · clear c0 c1 c2 c3 c4 c5 c6 c7 c8 c9 f0 f1 f2 f3 f4 f5 f6 f7 f8 f9
        generalize drSet W3 w.heap.size D0 0 nils = WE at HF ⊢
        obtain ⟨⟨c0, c1, c2, c3, c4, c5, c6, c7, c8, c9⟩, _⟩ := dr_at HF.out.1
        simp [results, Tryz.results36, go_sem, c0, c1, c2, c3, c4, c5, c6, c7, c8, c9] <;> rfl
      · rw [HO.out]
end Go.Proofs.YtecpmnkgikcpnaaGreatDoor.YW
