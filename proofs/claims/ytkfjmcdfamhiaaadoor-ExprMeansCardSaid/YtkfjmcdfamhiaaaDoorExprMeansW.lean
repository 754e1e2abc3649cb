/-
  Proved: numbers, variables and signs mean what the document says, products bind more than sums, both go from the left (heliographlaw12.ExprMeans returns true). Conditions: the row's own (the package-level tables read as the program's text lays them, tied by the card).
-/
import Derived.Test.YtkfjmcdfamhiaaaDoorExA
import Derived.Test.YtkfjmcdfamhiaaaDoorKnW
import Derived.Test.YtkfjmcdfamhiaaaDoorMn
import Derived.Test.YtkfjmcdfamhiaaaDoorRefN
import Derived.Test.YtkfjmcdfamhiaaaDoorBits
import Derived.ProofKit
namespace Go.Proofs.YtkfjmcdfamhiaaaDoor.ExprMeans
open Go.ChangeShapes Go.WideShapes Go.ChangeAt Go.WideMaps Go.WideElems Go.RowKit
open Go.Proofs.YtkfjmcdfamhiaaaDoor.Dp Go.Proofs.YtkfjmcdfamhiaaaDoor.Base Go.Proofs.YtkfjmcdfamhiaaaDoor.Ep Go.Proofs.YtkfjmcdfamhiaaaDoor.Fr Go.Proofs.YtkfjmcdfamhiaaaDoor.Tx Go.Proofs.YtkfjmcdfamhiaaaDoor.Mn Go.Proofs.YtkfjmcdfamhiaaaDoor.FrW Go.Proofs.YtkfjmcdfamhiaaaDoor.TxW Go.Proofs.YtkfjmcdfamhiaaaDoor.RdW Go.Proofs.YtkfjmcdfamhiaaaDoor.ExW Go.Proofs.YtkfjmcdfamhiaaaDoor.DeciW

theorem low255 (n : Int) : ∃ A : Nat, bits .and .i64 n 255 = (A : Int) ∧ A ≤ 255 := ⟨(n % 256).toNat, by rw [Bits.and255]; omega, by omega⟩
theorem num_of (n : Nat) (hn : n ≤ 256) : ∃ S : ByteArray, Hid (S.data.toList = numL n 1) ∧ S.data.toList = Lib.decDigits n ∧ S.size ≤ 6 := by
  obtain ⟨S, hS⟩ := str_ex (Lib.decDigits n)
  refine ⟨S, ?_, hS, ?_⟩
  · show _ = _
    rw [hS, numL_one]
  · rw [← len_list, hS]; exact len_num n hn

theorem fin_cut (w : World) (o : Obj) (S : ByteArray) (n d : Int) (ty : TypeId) {vars : List (Int × Int)} (hm : Mean vars S.data.toList n d) :
    ∃ (g : Nat) (S' : ByteArray) (n' d' : Int) (ty' : TypeId), Value.pointer (some ⟨w.heap.size + 1, 0, none⟩) = .pointer (some ⟨g, 0, none⟩) ∧ Hid (Kn w [(g, .cells #[.string S', .int .i64 n', .int .i64 d'] ty')] ((w.alloc o).alloc (.cells #[.string S, .int .i64 n, .int .i64 d] ty))) ∧ Hid (Mean vars S'.data.toList n' d') := by
  refine ⟨w.heap.size + 1, S, n, d, ty, rfl, ?_, hm⟩
  have h := (((Kn.nil w).new o).new (.cells #[.string S, .int .i64 n, .int .i64 d] ty)).less (M := [((w.alloc o).heap.size, .cells #[.string S, .int .i64 n, .int .i64 d] ty)]) (by simp)
  have e : (w.alloc o).heap.size = w.heap.size + 1 := by simp
  rw [e] at h
  exact h
theorem str_cells {w : World} {b : Nat} {S : ByteArray} {n d : Int} {ty : TypeId} (h : w.heap[b]? = some (.cells #[.string S, .int .i64 n, .int .i64 d] ty)) : w.cell? ⟨b, 0, none⟩ = some (.string S) ∧ w.cell? ⟨b, 1, none⟩ = some (.int .i64 n) ∧ w.cell? ⟨b, 2, none⟩ = some (.int .i64 d) := by
  refine ⟨?_, ?_, ?_⟩ <;> simp [World.cell?, h]
theorem pairs3_new (w : World) (a b c : Nat) (t : TypeId) : PairsIn (w.alloc (.cells #[.int .i64 a, .int .i64 1, .int .i64 b, .int .i64 1, .int .i64 c, .int .i64 1] t)) (some ⟨w.heap.size, 0, none⟩) (vs a b c) := by
  intro _
  refine ⟨w.heap.size, 0, rfl, fun i hi => ?_⟩
  have h := heap_alloc_new w (.cells #[.int .i64 a, .int .i64 1, .int .i64 b, .int .i64 1, .int .i64 c, .int .i64 1] t)
  generalize w.alloc (.cells #[.int .i64 a, .int .i64 1, .int .i64 b, .int .i64 1, .int .i64 c, .int .i64 1] t) = W at h ⊢
  have h3 : i = 0 ∨ i = 1 ∨ i = 2 := by simp [vs] at hi; omega
  rcases h3 with rfl | rfl | rfl <;> (refine ⟨?_, ?_⟩ <;> simp [World.cell?, h, vs])

set_option maxRecDepth 100000 in
set_option maxHeartbeats 6400000 in
theorem walk (a : Int) (_h0 : -9223372036854775808 ≤ a) (_h1 : a ≤ 9223372036854775807) (b : Int) (_h2 : -9223372036854775808 ≤ b) (_h3 : b ≤ 9223372036854775807) (c : Int) (_h4 : -9223372036854775808 ≤ c) (_h5 : c ≤ 9223372036854775807) (k0 : Int) (_h6 : -9223372036854775808 ≤ k0) (_h7 : k0 ≤ 9223372036854775807) (w : World) (hT : Tab w) :
    Calls Tryd.prog 6 #[.int .i64 a, .int .i64 b, .int .i64 c, .int .i64 k0] w fun e w' => e = .returned (.bool true) ∧ Below w.heap.size w w' := by
  clear _h0 _h1 _h2 _h3 _h4 _h5 _h6 _h7
  have HT := Lib.hid hT
  clear hT
  obtain ⟨A, hA, hA2⟩ := low255 a
  obtain ⟨B, hB, hB2⟩ := low255 b
  obtain ⟨C0, hC0, hC02⟩ := low255 c
  obtain ⟨C, hC⟩ : ∃ C : Nat, (C0 : Int) + 1 = (C : Int) := ⟨C0 + 1, by omega⟩
  have hC1 : 1 ≤ C := by omega
  have hC2 : C ≤ 256 := by omega
  obtain ⟨K, hK, hK2⟩ := low255 k0
  obtain ⟨q, hq⟩ : ∃ q : Nat, K % 11 = q := ⟨_, rfl⟩
  have hq11 : q < 11 := by omega
  have hqi : ((K : Int) % 11) = (q : Int) := by omega
  have hqt : (K : Int).tmod 11 = (q : Int) := by rw [Int.tmod_eq_emod_of_nonneg (by omega)]; exact hqi
  obtain ⟨X, HX, hX, hX6⟩ := num_of A (by omega)
  obtain ⟨Y, HY, hY, hY6⟩ := num_of B (by omega)
  obtain ⟨Z, HZ, hZ, hZ6⟩ := num_of C hC2
  have p1 := prod_in hB2 hC2
  have p2 := prod_s hA2 hB2 hC2
  have p3 := prod_ab hA2 hB2
  have HXd := Lib.hid hX
  have HYd := Lib.hid hY
  have HZd := Lib.hid hZ
  obtain ⟨p1a, p1b⟩ := p1
  obtain ⟨p2a, p2b⟩ := p2
  obtain ⟨p3a, p3b⟩ := p3
  clear hX hY hZ hq
  go_enter Tryd.func6, Tryd.ntmps6
  go_wp2_with fail
  with_reducible refine (num_at A 1 1 rfl (by decide) (A : Int) (Lib.hid (Eq.refl _)) (by omega) (by omega) X HX _).mono ?_
  rintro en w' ⟨rfl, rfl⟩
  go_wp2_with fail
  with_reducible refine (num_at B 1 1 rfl (by decide) (B : Int) (Lib.hid (Eq.refl _)) (by omega) (by omega) Y HY _).mono ?_
  rintro en w' ⟨rfl, rfl⟩
  go_wp2_with fail
  with_reducible refine (num_at C 1 1 rfl (by decide) (C : Int) (Lib.hid (Eq.refl _)) (by omega) (by omega) Z HZ _).mono ?_
  rintro en w' ⟨rfl, rfl⟩
  go_upto_region 4 with fail
  go_cut [13] (fun v wx => ∃ (g : Nat) (S : ByteArray) (n d : Int) (ty : TypeId), v = .pointer (some ⟨g, 0, none⟩) ∧ Hid (Kn w [(g, .cells #[.string S, .int .i64 n, .int .i64 d] ty)] wx) ∧ Hid (Mean (vs A B C) S.data.toList n d))
  case first =>
    have hqs : q = 0 ∨ q = 1 ∨ q = 2 ∨ q = 3 ∨ q = 4 ∨ q = 5 ∨ q = 6 ∨ q = 7 ∨ q = 8 ∨ q = 9 ∨ q = 10 := by omega
    rcases hqs with rfl | rfl | rfl | rfl | rfl | rfl | rfl | rfl | rfl | rfl | rfl
    · go_wp2_with fail
      go_meet
      refine fin_cut w _ _ _ _ _ ?_
      simp only [app_list, HXd.out, HYd.out, HZd.out]
      exact mean0 hA2 hB2 hC2
    · go_wp2_with fail
      go_meet
      refine fin_cut w _ _ _ _ _ ?_
      simp only [app_list, HXd.out, HYd.out, HZd.out]
      exact mean1 hA2 hB2 hC2
    · go_wp2_with fail
      go_meet
      refine fin_cut w _ _ _ _ _ ?_
      simp only [app_list, HXd.out, HYd.out, HZd.out]
      exact mean2 hA2 hB2 hC2
    · go_wp2_with fail
      go_meet
      refine fin_cut w _ _ _ _ _ ?_
      simp only [app_list, HXd.out, HYd.out, HZd.out]
      exact mean3 hA2 hB2 hC2
    · go_wp2_with fail
      go_meet
      refine fin_cut w _ _ _ _ _ ?_
      simp only [app_list, HXd.out, HZd.out]
      exact mean4 hA2 hC2 hC1
    · go_wp2_with fail
      go_meet
      refine fin_cut w _ _ _ _ _ ?_
      simp only [app_list, HXd.out, HYd.out, HZd.out]
      exact mean5 hA2 hB2 hC2 hC1
    · go_wp2_with fail
      go_meet
      refine fin_cut w _ _ _ _ _ ?_
      simp only [app_list, HXd.out, HYd.out]
      exact mean6 hA2 hB2
    · go_wp2_with fail
      go_meet
      refine fin_cut w _ _ _ _ _ ?_
      simp only [app_list, HXd.out, HYd.out]
      exact mean7 hA2 hB2
    · go_wp2_with fail
      go_meet
      refine fin_cut w _ _ _ _ _ ?_
      exact mean8 hA2 hB2 hC2
    · go_wp2_with fail
      go_meet
      refine fin_cut w _ _ _ _ _ ?_
      simp only [app_list, HXd.out]
      exact mean9 hA2
    · go_wp2_with fail
      go_meet
      refine fin_cut w _ _ _ _ _ ?_
      exact mean10 hA2 hB2 hC2 hC1
  case rest =>
  obtain ⟨g, S, n, d, ty, rfl, K1, HM⟩ := hcut
  obtain ⟨t, hG, hV⟩ := HM.out.tree
  have hPar := parse_G hG (by have := HM.out.len; omega)
  have hl3 : (opsT t).length ≤ 300 := (back_text hPar).2.1
  have hEv := hV.eval
  obtain ⟨N, D, e, hN⟩ : ∃ N D e, makeV n d = (N, D, e) := ⟨_, _, _, rfl⟩
  have he := hV.ok
  have hd0 := hV.q0
  rw [hN] at he hEv
  have he0 : e = 0 := he
  subst he0
  have HP : Hid (parseV S.data.toList = (opsT t, 0, 0)) := hPar
  have HE : Hid (evalV (vs A B C) (opsT t) = (N, D, 0)) := hEv
  have HN : Hid (makeV n d = (N, D, 0)) := hN
  have hSz : S.size ≤ 100 := by rw [← len_list]; exact HM.out.len
  have hn0 := HM.out.n0
  have hn1 := HM.out.n1
  have hd1 := HM.out.d1
  generalize opsT t = l at HP HE hl3
  clear hG hV hPar hEv he hN HM
  clear p1a p1b p2a p2b p3a p3b
  obtain ⟨c0, c1, c2⟩ := str_cells (K1.out.get (b := g) (o := .cells #[.string S, .int .i64 n, .int .i64 d] ty) (by simp))
  go_wp2_with fail
  with_reducible refine (parse_w S (by unfold maxLen; omega) _ l 0 0 HP).mono ?_
  intro en w1 h1
  obtain ⟨p1, q1, rfl, hp1, hb1⟩ := parse_p h1
  have HP1 := Lib.hid hp1
  have K2 := Lib.hid (K1.out.below hb1)
  clear h1 hp1 hb1 K1 c0 c1 c2
  go_wp2_with fail
  refine (eval_v p1 _ l (vs A B C) q1 3 3 rfl hl3 (by show 3 ≤ 100; decide) _ (HP1.out.below ((Below.refl _ _).alloc (Nat.le_refl _) _)) (pairs3_new w1 A B C _) (N, D, 0) HE).mono ?_
  rintro en w2 ⟨rfl, hb2⟩
  have K3 := Lib.hid ((((K2.out.new _).less (M := [(g, .cells #[.string S, .int .i64 n, .int .i64 d] ty)]) (by simp)).below hb2).new (ratObj N D))
  clear K2 hb2 HP1
  go_upto_region 7 with fail
  obtain ⟨x, hx⟩ : ∃ x, w2.heap.size = x := ⟨_, rfl⟩
  rw [hx] at K3
  rw [hx]
  clear hx
  generalize w2.alloc (ratObj N D) = W2 at K3 ⊢
  obtain ⟨c0, c1, c2⟩ := str_cells (K3.out.get (b := g) (o := .cells #[.string S, .int .i64 n, .int .i64 d] ty) (by simp))
  go_wp2_with fail
  with_reducible refine (rmake_c n d (by omega) (by omega) (by omega) (by omega) (N, D, 0) HN _).mono ?_
  rintro en w3 ⟨rfl, hb3⟩
  have K4 := Lib.hid ((K3.out.below hb3).new (ratObj N D))
  clear K3 hb3 c0 c1 c2
  go_upto_region 8 with fail
  obtain ⟨y, hy⟩ : ∃ y, w3.heap.size = y := ⟨_, rfl⟩
  rw [hy] at K4
  rw [hy]
  clear hy
  generalize w3.alloc (ratObj N D) = W3 at K4 ⊢
  obtain ⟨⟨x0, x1⟩, _⟩ := rat_at (K4.out.get (b := x) (o := ratObj N D) (by simp))
  obtain ⟨⟨y0, y1⟩, _⟩ := rat_at (K4.out.get (b := y) (o := ratObj N D) (by simp))
  go_wp2_with fail
  with_reducible refine (awake_any _ (HT.out.below K4.out.bel)).mono ?_
  rintro en w9 ⟨rfl, hb9⟩
  go_wp2_with fail
  go_ret
  exact ⟨rfl, K4.out.bel.trans (hb9.mono K4.out.bel.size)⟩
end Go.Proofs.YtkfjmcdfamhiaaaDoor.ExprMeans
