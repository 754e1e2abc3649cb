/-
  Proved: parentheses and signs may stand one in the other thirty times and no more, and a text may be 300 bytes long and no longer (heliographlaw12.ExprDeep returns true). Conditions: the row's own (the package-level tables read as the program's text lays them, tied by the card).
-/
import Derived.Test.YtkfjmcdfamhiaaaDoorExA
import Derived.Test.YtkfjmcdfamhiaaaDoorKnW
import Derived.Test.YtkfjmcdfamhiaaaDoorEd
import Derived.Test.YtkfjmcdfamhiaaaDoorBits
import Derived.ProofKit
namespace Go.Proofs.YtkfjmcdfamhiaaaDoor.ExprDeep
open Go.ChangeShapes Go.WideShapes Go.ChangeAt Go.WideMaps Go.WideElems Go.RowKit
open Go.Proofs.YtkfjmcdfamhiaaaDoor.Dp Go.Proofs.YtkfjmcdfamhiaaaDoor.Base Go.Proofs.YtkfjmcdfamhiaaaDoor.Ep Go.Proofs.YtkfjmcdfamhiaaaDoor.Fr Go.Proofs.YtkfjmcdfamhiaaaDoor.Tx Go.Proofs.YtkfjmcdfamhiaaaDoor.Ed Go.Proofs.YtkfjmcdfamhiaaaDoor.FrW Go.Proofs.YtkfjmcdfamhiaaaDoor.TxW Go.Proofs.YtkfjmcdfamhiaaaDoor.RdW Go.Proofs.YtkfjmcdfamhiaaaDoor.ExW

theorem low63 (n : Int) : ∃ A : Nat, bits .and .i64 n 63 = (A : Int) ∧ A ≤ 63 := ⟨(n % 64).toNat, by rw [Bits.and63]; omega, by omega⟩
theorem low31 (n : Int) : ∃ A : Nat, bits .and .i64 n 31 = (A : Int) ∧ A ≤ 31 := ⟨(n % 32).toNat, by rw [Bits.and31]; omega, by omega⟩
theorem take_list (s : ByteArray) (k : Nat) : (s.extract 0 k).data.toList = s.data.toList.take k := by
  rw [Lib.extract_data]; simp
theorem at_list {s : ByteArray} {u : List UInt8} {k : Nat} {c : UInt8} (h : s.data.toList = u) (hc : u[k]? = some c) (hk : k < s.size) : s[k] = c := by
  subst h
  obtain ⟨h1, h2⟩ := List.getElem?_eq_some_iff.1 hc
  rw [← h2]
  show s.data[k] = _
  simp

set_option maxRecDepth 100000 in
set_option maxHeartbeats 3200000 in
theorem walk (a : Int) (_h0 : -9223372036854775808 ≤ a) (_h1 : a ≤ 9223372036854775807) (m : Bool) (b : Int) (_h2 : -9223372036854775808 ≤ b) (_h3 : b ≤ 9223372036854775807) (w : World) (hT : Tab w) :
    Calls Tryd.prog 3 #[.int .i64 a, .bool m, .int .i64 b] w fun e w' => e = .returned (.bool true) ∧ Below w.heap.size w w' := by
  clear _h0 _h1 _h2 _h3
  have HT := Lib.hid hT
  clear hT
  obtain ⟨N, hN, hN2⟩ := low63 a
  obtain ⟨l, hl, hl2⟩ := low31 b
  obtain ⟨L, hL⟩ : ∃ L : Nat, 290 + l = L := ⟨_, rfl⟩
  have hLi : 290 + (l : Int) = (L : Int) := by omega
  have hL1 : 290 ≤ L := by omega
  have hL2 : L ≤ 321 := by omega
  have hall := long_all ⟨l, by omega⟩
  dsimp only at hall
  rw [hL, show 288 + l = L - 2 by omega, show l % 2 = L % 2 by omega] at hall
  have HALL := Lib.hid hall
  clear hall hL hl2
  go_enter Tryd.func3, Tryd.ntmps3
  go_upto_region 4 with fail
  go_loopw [7, 9] (fun s i wr => ∃ (S : ByteArray) (j : Nat), j ≤ N ∧ s = .string S ∧ i = .int .i64 j ∧ Hid (S.data.toList = sT j m) ∧ S.size ≤ 200 ∧ w = wr) (fun _ i _ => N - (intOf i).toNat)
  case atStart => exact ⟨⟨#[49]⟩, 0, Nat.zero_le _, rfl, rfl, by show _ = _; rw [sT_zero], by decide, rfl⟩
  case round =>
  obtain ⟨S, j, hj, rfl, rfl, HS, hSz, rfl⟩ := hrel
  have hS2 : S.size ≤ 2 * j + 1 := by rw [← len_list, HS.out]; exact sT_len j m
  by_cases hlt : j < N
  · have hlti : (j : Int) < (N : Int) := by omega
    cases m with
    | true =>
      go_wp2_with fail
      go_round
      case rel => exact ⟨_, j + 1, by omega, rfl, by go_num, by show _ = _; rw [app_list, HS.out, sT_minus]; rfl, by rw [ByteArray.size_append]; show 1 + S.size ≤ 200; omega, trivial⟩
      case measure => simp [intOf]; omega
    | false =>
      go_wp2_with fail
      go_round
      case rel => exact ⟨_, j + 1, by omega, rfl, by go_num, by show _ = _; rw [app_list, app_list, HS.out, sT_par]; rfl, by rw [ByteArray.size_append, ByteArray.size_append]; show 1 + S.size + 1 ≤ 200; omega, trivial⟩
      case measure => simp [intOf]; omega
  · have hlti : ¬ ((j : Int) < (N : Int)) := by omega
    obtain rfl : j = N := by omega
    clear hlt hj
    go_upto_region 9 with fail
    go_loopw [8] (fun t wr => ∃ (T : ByteArray) (i : Nat), 2 * i ≤ L + 1 ∧ t = .string T ∧ Hid (T.data.toList = rep i) ∧ T.size = 2 * i ∧ w = wr) (fun t _ => 400 - Lib.strSize t)
    case atStart => exact ⟨⟨#[]⟩, 0, by omega, rfl, rfl, rfl, rfl⟩
    case round =>
    obtain ⟨T, i, hi, rfl, HTl, hTs, rfl⟩ := hrel
    by_cases hgo : 2 * i < L
    · have hgoi : (T.size : Int) < (L : Int) := by omega
      go_wp2_with fail
      go_round
      case rel => exact ⟨_, i + 1, by omega, rfl, by show _ = _; rw [app_list, HTl.out]; rfl, by rw [ByteArray.size_append, hTs]; rfl, trivial⟩
      case measure => simp only [Lib.strSize, ByteArray.size_append]; show 400 - (T.size + 2) < 400 - T.size; omega
    · have hgoi : ¬ ((T.size : Int) < (L : Int)) := by omega
      have hiL : i = (L + 1) / 2 := by omega
      obtain ⟨L1, hL1e⟩ : ∃ L1 : Nat, L1 + 1 = L := ⟨L - 1, by omega⟩
      obtain ⟨L2', hL2e⟩ : ∃ L2' : Nat, L2' + 2 = L := ⟨L - 2, by omega⟩
      have hs1 : (L : Int) - 1 = (L1 : Int) := by omega
      have hs2 : (L : Int) - 2 = (L2' : Int) := by omega
      have hL1T : (L1 : Int) ≤ (T.size : Int) := by omega
      have hL10 : (0 : Int) ≤ (L1 : Int) := Int.natCast_nonneg _
      have hL20 : (0 : Int) ≤ (L2' : Int) := Int.natCast_nonneg _
      have HU : Hid ((T.extract 0 L1 ++ ⟨#[49]⟩).data.toList = uT L) := by
        show _ = _
        rw [app_list, take_list, HTl.out, hiL]
        unfold uT
        rw [show L - 1 = L1 by omega]
      have hsz : (T.extract 0 L1).size = L1 := by rw [← len_list, take_list, List.length_take, len_list]; omega
      go_upto_region 12 with fail
      generalize T.extract 0 L1 ++ ⟨#[49]⟩ = T1 at HU ⊢
      have hT1s : T1.size = L := by rw [← len_list, HU.out]; exact HALL.out.2.1
      have hlt1 : L2' < T1.size := by omega
      have hLs : (L2' : Int) < (T1.size : Int) := by omega
      have HB : Hid ((T1[L2']'hlt1).toNat = if L % 2 = 0 then 49 else 43) := by
        show _ = _
        have h := HALL.out.2.2
        rw [show L - 2 = L2' by omega] at h
        rw [at_list HU.out h hlt1]
        split <;> rfl
      have HAND : Hid (bits .and .i64 (L : Int) 1 = ((L % 2 : Nat) : Int)) := by show _ = _; rw [Bits.and1]; omega
      clear HTl hTs hL1T hsz hgo hgoi hi hiL
      go_cut [55] (fun c wx => c = .bool (decide (L % 2 = 0)) ∧ w = wx)
      case first =>
        by_cases h2 : L % 2 = 0
        · have hb : ((T1[L2']'hlt1).toNat : Int) = 49 := by have := HB.out; rw [if_pos h2] at this; omega
          have hand : bits .and .i64 (L : Int) 1 = 0 := by rw [HAND.out, h2]; rfl
          go_wp2_with fail
          go_meet
          exact ⟨by rw [decide_eq_true h2], rfl⟩
        · have hb : ((T1[L2']'hlt1).toNat : Int) = 43 := by have := HB.out; rw [if_neg h2] at this; omega
          go_wp2_with fail
          go_meet
          exact ⟨by rw [decide_eq_false h2], rfl⟩
      case rest =>
      obtain ⟨rfl, rfl⟩ := hcut
      go_upto_if 55 with fail
      go_cut [8] (fun t wx => ∃ F : ByteArray, t = .string F ∧ Hid (F.data.toList = tT L) ∧ F.size ≤ 400 ∧ w = wx)
      case first =>
        by_cases h2 : L % 2 = 0
        · have hd2 : decide (L % 2 = 0) = true := decide_eq_true h2
          have hL1T : (L1 : Int) ≤ (T1.size : Int) := by omega
          have HF : Hid ((T1.extract 0 L1 ++ ⟨#[50]⟩).data.toList = tT L) := by
            show _ = _
            rw [app_list, take_list, HU.out]
            unfold tT
            rw [if_pos h2, show L - 1 = L1 by omega]
          have hsz : (T1.extract 0 L1).size = L1 := by rw [← len_list, take_list, List.length_take, len_list]; omega
          go_wp2_with fail
          go_meet
          exact ⟨_, rfl, HF.out, by rw [ByteArray.size_append, hsz]; show L1 + 1 ≤ 400; omega, rfl⟩
        · have hd2 : decide (L % 2 = 0) = false := decide_eq_false h2
          have HF : Hid (T1.data.toList = tT L) := by
            show _ = _
            rw [HU.out]
            unfold tT
            rw [if_neg h2]
          go_wp2_with fail
          go_meet
          exact ⟨_, rfl, HF.out, by omega, rfl⟩
      case rest =>
      obtain ⟨F, rfl, HF, hFs, rfl⟩ := hcut
      clear HB HAND HU hlt1 hLs hT1s
      obtain ⟨lp, pa, pe, hP⟩ : ∃ l a e, parseV (sT j m) = (l, a, e) := ⟨_, _, _, rfl⟩
      have HP : Hid (parseV S.data.toList = (lp, pa, pe)) := by show _ = _; rw [HS.out]; exact hP
      obtain ⟨rn, rd, re, hE⟩ : ∃ n d e, evalV [] lp = (n, d, e) := ⟨_, _, _, rfl⟩
      have HE : Hid (evalV [] lp = (rn, rd, re)) := hE
      have HFEW : Hid (j ≤ 30 → pe = 0 ∧ lp.length ≤ 300 ∧ rn = kT j m ∧ rd = 1 ∧ re = 0) := by
        intro h
        have hd := deep_few ⟨j, by omega⟩ m
        dsimp only at hd
        rw [hP] at hd
        dsimp only at hd
        rw [hE] at hd
        obtain ⟨h1, h2, h3⟩ := hd
        simp only [Prod.mk.injEq] at h3
        exact ⟨h1, h2, h3.1, h3.2.1, h3.2.2⟩
      have HMANY : Hid (¬ j ≤ 30 → pe = 6 ∧ pa = 30 ∧ lp = []) := by
        intro h
        have hd := deep_many ⟨j - 31, by omega⟩ m
        dsimp only at hd
        rw [show 31 + (j - 31) = j by omega, hP] at hd
        simp only [Prod.mk.injEq] at hd
        exact ⟨hd.2.2, hd.2.1, hd.1⟩
      have hlp : lp.length ≤ 300 := by
        by_cases h : j ≤ 30
        · exact (HFEW.out h).2.1
        · rw [(HMANY.out h).2.2]; decide
      obtain ⟨l2, a2, e2, hQ⟩ : ∃ l a e, parseV (tT L) = (l, a, e) := ⟨_, _, _, rfl⟩
      have HQ : Hid (parseV F.data.toList = (l2, a2, e2)) := by show _ = _; rw [HF.out]; exact hQ
      have HL2 : Hid (a2 = 0 ∧ e2 = if 300 < L then 6 else 0) := by
        have h := HALL.out.1
        rw [hQ] at h
        dsimp only at h
        split at h
        · rename_i h3; simp only [Prod.mk.injEq] at h; rw [if_pos h3]; exact h
        · rename_i h3; simp only [Prod.mk.injEq] at h; rw [if_neg h3]; exact h
      have HAND : Hid (bits .and .i64 (j : Int) 1 = ((j % 2 : Nat) : Int)) := by show _ = _; rw [Bits.and1]; omega
      obtain ⟨k, hk⟩ : ∃ k, kT j m = k := ⟨_, rfl⟩
      have HKK := Lib.hid hk
      clear hP hE hQ HALL HF HS hk
      go_wp2_with fail
      with_reducible refine (parse_w S (by unfold maxLen; omega) _ lp pa pe HP).mono ?_
      intro en w1 h1
      obtain ⟨p1, c1, rfl, hp1, hb1⟩ := parse_p h1
      have HP1 := Lib.hid hp1
      have K1 := Lib.hid ((Kn.nil w).below hb1)
      clear h1 hp1 hb1
      go_wp2_with fail
      with_reducible refine (eval_v p1 none lp [] c1 0 0 rfl hlp (by decide) _ HP1 (Lib.hid (PairsIn.nil _ _)) (rn, rd, re) HE).mono ?_
      rintro en w2 ⟨rfl, hb2⟩
      have K2 := Lib.hid ((K1.out.below hb2).new (ratObj rn rd))
      clear K1 hb2 HP1
      go_upto_region 16 with fail
      obtain ⟨g, hg⟩ : ∃ g, w2.heap.size = g := ⟨_, rfl⟩
      rw [hg] at K2
      rw [hg]
      clear hg
      generalize w2.alloc (ratObj rn rd) = W2 at K2 ⊢
      go_wp2_with fail
      with_reducible refine (parse_w F (by unfold maxLen; omega) _ l2 a2 e2 HQ).mono ?_
      intro en w3 h3
      obtain ⟨p3, c3, rfl, hp3, hb3⟩ := parse_p h3
      have K3 := Lib.hid (K2.out.below hb3)
      clear h3 hp3 hb3 K2
      go_upto_region 18 with fail
      go_cut [83] (fun c wx => c = .bool (decide (m = true ∧ j % 2 = 1)) ∧ w3 = wx)
      case first =>
        cases m with
        | false =>
          go_wp2_with fail
          go_meet
          exact ⟨by simp, rfl⟩
        | true =>
          by_cases h2 : j % 2 = 1
          · have hand : bits .and .i64 (j : Int) 1 = 1 := by rw [HAND.out, h2]; rfl
            go_wp2_with fail
            go_meet
            exact ⟨by simp [h2], rfl⟩
          · have hand : bits .and .i64 (j : Int) 1 = 0 := by rw [HAND.out]; omega
            go_wp2_with fail
            go_meet
            exact ⟨by simp [h2], rfl⟩
      case rest =>
      obtain ⟨rfl, rfl⟩ := hcut
      go_upto_if 83 with fail
      go_cut [18] (fun c wx => c = .int .i64 k ∧ w3 = wx)
      case first =>
        by_cases h2 : m = true ∧ j % 2 = 1
        · have hd2 : decide (m = true ∧ j % 2 = 1) = true := decide_eq_true h2
          have hkk : k = -1 := by rw [← HKK.out]; unfold kT; rw [if_pos h2]
          go_wp2_with fail
          go_meet
          exact ⟨by rw [hkk], rfl⟩
        · have hd2 : decide (m = true ∧ j % 2 = 1) = false := decide_eq_false h2
          have hkk : k = 1 := by rw [← HKK.out]; unfold kT; rw [if_neg h2]
          go_wp2_with fail
          go_meet
          exact ⟨by rw [hkk], rfl⟩
      case rest =>
      obtain ⟨rfl, rfl⟩ := hcut
      obtain ⟨⟨v0, v1⟩, _⟩ := rat_at (K3.out.get (b := g) (o := ratObj rn rd) (by simp))
      obtain ⟨ha2, he2⟩ := HL2.out
      subst ha2
      clear HL2 HAND
      by_cases h30 : j ≤ 30
      · have h30i : ¬ ((30 : Int) < (j : Int)) := by omega
        obtain ⟨rfl, _, hrn, rfl, rfl⟩ := HFEW.out h30
        rw [HKK.out] at hrn
        subst hrn
        clear HFEW HMANY h30
        by_cases hL3 : 300 < L
        · have hL3i : (300 : Int) < (L : Int) := by omega
          have hL3j : decide ((L : Int) ≤ 300) = false := decide_eq_false (by omega)
          rw [if_pos hL3] at he2
          subst he2
          go_wp2_with fail
          with_reducible refine (awake_any _ (HT.out.below K3.out.bel)).mono ?_
          rintro en w9 ⟨rfl, hb9⟩
          go_wp2_with fail
          go_ret
          exact ⟨rfl, K3.out.bel.trans (hb9.mono K3.out.bel.size)⟩
        · have hL3i : ¬ ((300 : Int) < (L : Int)) := by omega
          have hL3j : (L : Int) ≤ 300 := by omega
          rw [if_neg hL3] at he2
          subst he2
          go_wp2_with fail
          with_reducible refine (awake_any _ (HT.out.below K3.out.bel)).mono ?_
          rintro en w9 ⟨rfl, hb9⟩
          go_wp2_with fail
          go_ret
          exact ⟨rfl, K3.out.bel.trans (hb9.mono K3.out.bel.size)⟩
      · have h30i : (30 : Int) < (j : Int) := by omega
        obtain ⟨rfl, rfl, hlpe⟩ := HMANY.out h30
        clear HFEW HMANY h30
        by_cases hL3 : 300 < L
        · have hL3i : (300 : Int) < (L : Int) := by omega
          rw [if_pos hL3] at he2
          subst he2
          go_wp2_with fail
          with_reducible refine (awake_any _ (HT.out.below K3.out.bel)).mono ?_
          rintro en w9 ⟨rfl, hb9⟩
          go_wp2_with fail
          go_ret
          exact ⟨rfl, K3.out.bel.trans (hb9.mono K3.out.bel.size)⟩
        · have hL3i : ¬ ((300 : Int) < (L : Int)) := by omega
          rw [if_neg hL3] at he2
          subst he2
          go_wp2_with fail
          with_reducible refine (awake_any _ (HT.out.below K3.out.bel)).mono ?_
          rintro en w9 ⟨rfl, hb9⟩
          go_wp2_with fail
          go_ret
          exact ⟨rfl, K3.out.bel.trans (hb9.mono K3.out.bel.size)⟩
end Go.Proofs.YtkfjmcdfamhiaaaDoor.ExprDeep
