/-
  The walk of exce.Parse.
-/
import Derived.Test.YtecpmnkgikcpnaaDoorXwR
import Derived.Deep.CutBlock
import Derived.Deep.AppendLies
namespace Go.Proofs.YtecpmnkgikcpnaaDoor.XW
open Go.RowKit Go.Proofs.YtecpmnkgikcpnaaDoor.Base Go.Proofs.YtecpmnkgikcpnaaDoor.Dp Go.Proofs.YtecpmnkgikcpnaaDoor.Xp

/-- The library's variable MaxLen holds some number. -/
def MaxIs (w : World) : Prop := ∃ m, w.cell? ⟨0, 0, none⟩ = some (.int .i64 m)
theorem MaxIs.below {w w' : World} (h : MaxIs w) (hb : Below w.heap.size w w') : MaxIs w' := by
  obtain ⟨m, hm⟩ := h
  have hlt : 0 < w.heap.size := by
    apply Classical.byContradiction
    intro hn
    have : w.heap[0]? = none := Array.getElem?_eq_none (by omega)
    simp [World.cell?, this] at hm
  exact ⟨m, (hb.cell (p := ⟨0, 0, none⟩) hlt).trans hm⟩
theorem strike_c (S R : ByteArray) (hs : S.size ≤ 1000000) (h : Hid (R.data.toList = S.data.toList.filter (· != 13))) (w : World) (hm : MaxIs w) :
    Calls Tryd.prog 27 #[.string S, .string ⟨#[13]⟩, .string ⟨#[]⟩] w fun e w' => e = .returned (.string R) ∧ Below w.heap.size w w' := by
  obtain ⟨m, hm⟩ := hm
  refine (Tryd.strings_ReplaceAll S ⟨#[13]⟩ ⟨#[]⟩ m w (by omega) hm (by decide) (by show S.size + Lib.countB S ⟨#[13]⟩ * 0 ≤ _; omega)).mono fun e w' ⟨he, hw⟩ => ⟨?_, hw⟩
  rw [he]
  have e1 : Lib.replaceAll S.data.toList (⟨#[13]⟩ : ByteArray).data.toList (⟨#[]⟩ : ByteArray).data.toList = R.data.toList := by
    rw [h.out]; exact replaceAll_one 13 S.data.toList
  rw [e1, bs_eta]

set_option maxRecDepth 100000 in
set_option maxHeartbeats 6400000 in
theorem parse_c (S : ByteArray) (hs : S.size ≤ maxLen) (w : World) (hM : Hid (MaxIs w)) (l : List (Nat × D)) (a e : Nat) (hp : Hid (parseX S.data.toList = (l, a, e))) :
    Calls Tryd.prog 14 #[.string S] w (ParsOut l a e w) := by
  unfold maxLen at hs
  obtain ⟨i0, hi, hz0, hz1, hz2⟩ := info_parts info_dr
  have HI := Lib.hid (And.intro hi (And.intro hz0 (And.intro hz1 hz2)))
  clear hi hz0 hz1 hz2
  obtain ⟨nl, hnl⟩ : ∃ nl : Nat, linesV S.data.toList = nl := ⟨_, rfl⟩
  have hx := hp.out
  unfold parseX at hx
  rw [len_list, hnl] at hx
  have HLN : Hid ((linesV S.data.toList : Int) = (nl : Int)) := by show _ = _; rw [hnl]
  clear hp hnl
  by_cases h1 : (1000000 : Int) < (S.size : Int)
  · rw [if_pos (.inl (by omega))] at hx
    simp only [Prod.mk.injEq] at hx
    obtain ⟨rfl, rfl, rfl⟩ := hx
    go_enter Tryd.func14, Tryd.ntmps14
    go_wp2_with fail
    go_ret3
    exact ⟨_, rfl, ps_nil w (Below.refl _ _)⟩
  · by_cases h2 : (20000 : Int) < (nl : Int)
    · rw [if_pos (.inr (by omega))] at hx
      simp only [Prod.mk.injEq] at hx
      obtain ⟨rfl, rfl, rfl⟩ := hx
      go_enter Tryd.func14, Tryd.ntmps14
      go_wp2_with fail
      with_reducible refine (lines_c S (by omega) (nl : Int) HLN _).mono ?_
      rintro en w' ⟨rfl, rfl⟩
      go_wp2_with fail
      go_ret3
      exact ⟨_, rfl, ps_nil w (Below.refl _ _)⟩
    · rw [if_neg (by rintro (h | h) <;> omega)] at hx
      have hS1 : S.size ≤ 1000000 := by omega
      have HX : Hid ((if sp lineC S.data.toList < S.size then ([], sp lineC S.data.toList, 2) else goV S.size S.data.toList 0 []) = (l, a, e)) := hx
      clear hx
      go_enter Tryd.func14, Tryd.ntmps14
      go_wp2_with fail
      with_reducible refine (lines_c S (by omega) (nl : Int) HLN _).mono ?_
      rintro en w' ⟨rfl, rfl⟩
      go_wp2_with fail
      go_loop [5] (fun i => ∃ j : Nat, j ≤ S.size ∧ Hid (j ≤ sp lineC S.data.toList) ∧ i = .int .i64 j) (fun i => S.size - (intOf i).toNat)
      case atStart => exact ⟨0, Nat.zero_le _, Nat.zero_le _, rfl⟩
      case round =>
        obtain ⟨j, hj, HJ, rfl⟩ := hrel
        by_cases hlt : j < S.size
        · have hlti : (j : Int) < (S.size : Int) := by omega
          obtain ⟨c, hc⟩ : ∃ c, S[j] = c := ⟨_, rfl⟩
          obtain ⟨hl, hcl⟩ := byte_list S j hlt
          rw [hc] at hcl
          have HY : Hid (lineC c = true → j + 1 ≤ sp lineC S.data.toList) := fun h => sp_lt HJ.out hl (by rw [hcl]; exact h)
          have HN : Hid (lineC c = false → l = [] ∧ a = j ∧ e = 2) := by
            intro h
            have h2 := sp_stop HJ.out hl (by rw [hcl]; exact h)
            have h3 := HX.out
            rw [h2, if_pos hlt] at h3
            simp only [Prod.mk.injEq] at h3
            exact ⟨h3.1.symm, h3.2.1.symm, h3.2.2.symm⟩
          clear hl hcl
          by_cases h13 : c = 13
          · subst h13
            have HJ2 : Hid (j + 1 ≤ sp lineC S.data.toList) := HY.out (by decide)
            have hci : ((13 : UInt8).toNat : Int) = 13 := rfl
            go_wp2_with fail
            go_round
            case rel => exact ⟨j + 1, by omega, HJ2.out, by go_num⟩
            case measure => simp [intOf]; omega
          · have g13 : ((c.toNat : Int) == 13) = false := by rw [beq_eq_false_iff_ne]; intro e; exact h13 (UInt8.toNat_inj.1 (by show c.toNat = 13; omega))
            have q13 : ((c.toNat : Int) != 13) = true := by rw [bne_iff_ne]; intro e; exact h13 (UInt8.toNat_inj.1 (by show c.toNat = 13; omega))
            by_cases h10 : c = 10
            · subst h10
              have HJ2 : Hid (j + 1 ≤ sp lineC S.data.toList) := HY.out (by decide)
              have hci : ((10 : UInt8).toNat : Int) = 10 := rfl
              go_wp2_with fail
              go_round
              case rel => exact ⟨j + 1, by omega, HJ2.out, by go_num⟩
              case measure => simp [intOf]; omega
            · have g10 : ((c.toNat : Int) == 10) = false := by rw [beq_eq_false_iff_ne]; intro e; exact h10 (UInt8.toNat_inj.1 (by show c.toNat = 10; omega))
              have q10 : ((c.toNat : Int) != 10) = true := by rw [bne_iff_ne]; intro e; exact h10 (UInt8.toNat_inj.1 (by show c.toNat = 10; omega))
              obtain ⟨b, hb⟩ : ∃ b, okC c = b := ⟨_, rfl⟩
              have HB := Lib.hid hb
              have hlc : lineC c = b := by unfold lineC; rw [beq_eq_false_iff_ne.2 h13, beq_eq_false_iff_ne.2 h10, hb]; rfl
              clear h13 h10 hb
              cases b with
              | true =>
                have HJ2 : Hid (j + 1 ≤ sp lineC S.data.toList) := HY.out hlc
                go_wp2_with fail
                with_reducible refine (printable_c c _ (Lib.hid (Eq.refl _)) true HB _).mono ?_
                rintro en w' ⟨rfl, rfl⟩
                go_wp2_with fail
                go_round
                case rel => exact ⟨j + 1, by omega, HJ2.out, by go_num⟩
                case measure => simp [intOf]; omega
              | false =>
                obtain ⟨rfl, rfl, rfl⟩ := HN.out hlc
                go_wp2_with fail
                with_reducible refine (printable_c c _ (Lib.hid (Eq.refl _)) false HB _).mono ?_
                rintro en w' ⟨rfl, rfl⟩
                go_wp2_with fail
                go_ret3
                exact ⟨_, rfl, ps_nil _ (Below.refl _ _)⟩
        · have HG : Hid (goV S.data.toList.length S.data.toList 0 [] = (l, a, e)) := by
            show _ = _
            have h3 := HX.out
            rw [if_neg (by have := HJ.out; omega)] at h3
            rw [len_list]; exact h3
          have hlti : ¬ ((j : Int) < (S.size : Int)) := by omega
          clear HX HJ hlt hj
          go_upto_region 10 with fail
          go_loopw [6, 7] (fun s i wr => ∃ (o : Nat) (acc : List (Nat × D)), o ≤ S.size + 1 ∧ acc.length ≤ o ∧ i = .int .i64 o ∧ Hid (goV (S.data.toList.drop o).length (S.data.toList.drop o) o acc = (l, a, e)) ∧ Hid (PsAt w s acc wr)) (fun _ i _ => S.size + 1 - (intOf i).toNat)
          case atStart => exact ⟨0, [], Nat.zero_le _, Nat.zero_le _, rfl, HG.out, ps_nil w (Below.refl _ _)⟩
          case round =>
          obtain ⟨o, acc, ho, hacc, rfl, HGO, HP⟩ := hrel
          rename_i wr
          by_cases hlt : o < S.size
          · have hlti : (o : Int) < (S.size : Int) := by omega
            obtain ⟨r, hr⟩ : ∃ r, S.data.toList.drop o = r := ⟨_, rfl⟩
            have hrl : r.length = S.size - o := by rw [← hr, List.length_drop, len_list]
            have hrne : r ≠ [] := by intro h; rw [h] at hrl; simp at hrl; omega
            have HSTEP := go_step hrne o acc
            rw [hr] at HGO
            have HG2 := Lib.hid (HSTEP.symm.trans HGO.out)
            obtain ⟨U, hU⟩ : ∃ U, upto r = U := ⟨_, rfl⟩
            have hUle : U.length ≤ r.length := by rw [← hU]; exact upto_le r
            have hUt : U = r.take U.length := by rw [← hU]; exact upto_take r
            have hix := index_upto r
            rw [hU] at HG2 hix
            obtain ⟨n, hn⟩ : ∃ n : Nat, U.length = n := ⟨_, rfl⟩
            rw [hn] at HG2 hix hUle hUt
            have HIX : Hid (Lib.indexByte r 10 = if n < r.length then (n : Int) else -1) := hix
            have HR : Hid ((S.extract o S.size).data.toList = r) := by show _ = _; rw [ext_list]; exact hr
            have HSR : Hid (S.data.toList.drop o = r) := hr
            have HU : Hid (U = r.take n ∧ U.length = n) := ⟨hUt, hn⟩
            have hend : o + n ≤ S.size := by omega
            clear HGO HSTEP hU hix hr hUt hn hrne
            go_wp2_with fail
            with_reducible refine (Tryd.strings_IndexByte _ _ _).mono ?_
            rintro en w' ⟨rfl, rfl⟩
            rw [HR.out]
            obtain ⟨ix, hix⟩ : ∃ ix, Lib.indexByte r (Int.toNat 10).toUInt8 = ix := ⟨_, rfl⟩
            have HX2 : Hid (ix = if n < r.length then (n : Int) else -1) := by show _ = _; rw [← hix]; exact HIX.out
            rw [hix]
            clear hix HIX
            obtain ⟨E, hE⟩ : ∃ E, o + n = E := ⟨_, rfl⟩
            go_upto_if 56 with fail
            go_cut [8] (fun v wx => v = .int .i64 (E : Int) ∧ w' = wx)
            case first =>
              by_cases hnr : n < r.length
              · have hx2 : ix = (n : Int) := by rw [HX2.out, if_pos hnr]
                subst hx2
                have hin : (o : Int) + (n : Int) = (E : Int) := by omega
                have hn0 : (0 : Int) ≤ (n : Int) := Int.natCast_nonneg _
                go_wp2_with fail
                go_meet
                exact ⟨rfl, rfl⟩
              · have hx2 : ix = -1 := by rw [HX2.out, if_neg hnr]
                subst hx2
                have hin : (S.size : Int) = (E : Int) := by omega
                go_wp2_with fail
                go_meet
                exact ⟨by rw [hin], rfl⟩
            case rest =>
            obtain ⟨rfl, rfl⟩ := hcut
            have hES : E ≤ S.size := by omega
            have hoE : (o : Int) ≤ (E : Int) := by omega
            have HE : Hid (o + n = E) := hE
            clear HX2 hE
            go_upto_region 16 with fail
            go_loop [10] (fun x => ∃ k : Nat, o + k ≤ E ∧ Hid (k ≤ crs U) ∧ x = .int .i64 ((o + k : Nat) : Int)) (fun x => E - (intOf x).toNat)
            case atStart => exact ⟨0, by omega, Nat.zero_le _, rfl⟩
            case round =>
              obtain ⟨k, hk, HK, rfl⟩ := hrel
              obtain ⟨A, hA⟩ : ∃ A, o + k = A := ⟨_, rfl⟩
              have HA := Lib.hid hA
              rw [hA] at hk
              rw [hA]
              by_cases hkn : A < E
              · have hkni : (A : Int) < (E : Int) := by omega
                have hAS : A < S.size := by omega
                obtain ⟨c, hc⟩ : ∃ c, S[A] = c := ⟨_, rfl⟩
                have hUc : ∃ hl : k < U.length, U[k] = c := by
                  obtain ⟨h1, h2⟩ := HU.out
                  have h3 := HE.out
                  refine ⟨by omega, ?_⟩
                  obtain ⟨hl, he⟩ := byte_list S A hAS
                  rw [← hc, ← he]
                  simp only [h1, List.getElem_take]
                  have e4 : r[k]'(by rw [hrl]; omega) = (S.data.toList.drop o)[k]'(by rw [HSR.out, hrl]; omega) := by simp only [HSR.out]
                  rw [e4, List.getElem_drop]
                  simp only [hA]
                obtain ⟨hUl, hUk⟩ := hUc
                by_cases h13 : c = 13
                · subst h13
                  have hci : ((13 : UInt8).toNat : Int) = 13 := rfl
                  have HK2 : Hid (k + 1 ≤ crs U) := sp_lt HK.out hUl (by simp only [hUk]; decide)
                  have hA1 : (A : Int) + 1 = ((o + (k + 1) : Nat) : Int) := by omega
                  have HA1 := Lib.hid hA1
                  clear hA1 hUk hUl hA
                  go_wp2_with fail
                  go_round
                  case rel => exact ⟨k + 1, by have := HA.out; omega, HK2.out, by rw [HA1.out]⟩
                  case measure => simp [intOf]; omega
                · have g13 : ((c.toNat : Int) == 13) = false := by rw [beq_eq_false_iff_ne]; intro e; exact h13 (UInt8.toNat_inj.1 (by show c.toNat = 13; omega))
                  have HKE : Hid (crs U = k) := sp_stop HK.out hUl (by simp only [hUk, beq_eq_false_iff_ne]; exact h13)
                  have hne : ((A : Int) == (E : Int)) = false := by rw [beq_eq_false_iff_ne]; omega
                  have hXl : (S.extract A E).data.toList = U.drop k := by
                    have h1 := HU.out.1
                    have h3 := HE.out
                    rw [sub_list, h1, ← HSR.out, List.take_drop, List.drop_drop, h3, hA]
                  have hXs : (S.extract A E).size ≤ 1000000 := by rw [← len_list, hXl, List.length_drop]; have := HU.out.2; omega
                  obtain ⟨R, hRR⟩ := str_ex (U.filter (· != 13))
                  have HRF : Hid (R.data.toList = (S.extract A E).data.toList.filter (· != 13)) := by
                    show _ = _
                    rw [hXl, hRR]
                    have := filter_crs U
                    rw [HKE.out] at this
                    exact this.symm
                  have hRp : 0 < R.size := by
                    rw [← len_list, hRR]
                    exact filter_ne (by rw [HKE.out]; exact hUl)
                  have hRs : R.size ≤ maxLen := by
                    rw [← len_list, hRR]
                    have := List.length_filter_le (· != 13) U
                    have := HU.out.2
                    unfold maxLen; omega
                  have HGN := HG2.out
                  rw [HKE.out, if_neg (by have := HU.out.2; omega), ← hRR] at HGN
                  have HGO := Lib.hid HGN
                  clear HGN hRR hXl hUk hUl h13 hA
                  go_wp2_with fail
                  with_reducible refine (strike_c (S.extract A E) R hXs HRF _ (hM.out.below HP.out.bel)).mono ?_
                  rintro en w1 ⟨rfl, hb1⟩
                  have HP1 := Lib.hid (HP.out.below hb1)
                  clear HP hb1
                  obtain ⟨od, hod⟩ : ∃ od, cmdV R.data.toList = od := ⟨_, rfl⟩
                  have HOD := Lib.hid hod
                  rw [hod] at HGO
                  clear hod
                  go_wp2_with fail
                  with_reducible refine (cmd_c R hRs hRp od HOD _).mono ?_
                  intro en w2 hco
                  have HP2 := Lib.hid (HP1.out.below hco.1)
                  have hsz1 := HP1.out.bel.size
                  have hres := hco.2
                  clear hco HP1
                  cases od with
                  | none =>
                    have hres : en = .returned (.tuple #[drVal D0 0 nils, .bool false]) := hres
                    subst hres
                    have HEE : Hid (l = [] ∧ a = A ∧ e = 3) := by
                      have h3 : ([], o + k, 3) = (l, a, e) := HGO.out
                      simp only [Prod.mk.injEq] at h3
                      exact ⟨h3.1.symm, by rw [← h3.2.1]; exact HA.out, h3.2.2.symm⟩
                    obtain ⟨rfl, rfl, rfl⟩ := HEE.out
                    dsimp only [drVal, drCells, D0]
                    go_wp2_with fail
                    go_ret3
                    exact ⟨_, rfl, ps_nil _ (HP2.out.bel.alloc HP2.out.bel.size _)⟩
                  | some d =>
                    obtain ⟨p, c', rfl, hn⟩ := hres
                    have HN : Hid (NumsIn w.heap.size w2 p d.nums) := hn.mono hsz1
                    clear hn
                    dsimp only [drVal, drCells]
                    go_upto_region 24 with fail
                    obtain ⟨g, hg⟩ : ∃ g, w2.heap.size = g := ⟨_, rfl⟩
                    have HO3 : Hid (_ = _) := heap_alloc_new w2 (.cells #[.int .i64 (A : Int), .int .i64 d.k, .int .i64 d.n, .bool d.on, .string ⟨d.t.toArray⟩, .string ⟨d.x.toArray⟩, .string ⟨d.y.toArray⟩, .string ⟨d.u.toArray⟩, .string ⟨d.v.toArray⟩, .slice p d.nums.length c'] 39)
                    have hal := (Below.refl w2.heap.size w2).alloc (Nat.le_refl _) (.cells #[.int .i64 (A : Int), .int .i64 d.k, .int .i64 d.n, .bool d.on, .string ⟨d.t.toArray⟩, .string ⟨d.x.toArray⟩, .string ⟨d.y.toArray⟩, .string ⟨d.u.toArray⟩, .string ⟨d.v.toArray⟩, .slice p d.nums.length c'] 39)
                    have HP3 := Lib.hid (HP2.out.below hal)
                    have HN3 := Lib.hid (HN.out.below hal)
                    rw [hg] at HO3
                    rw [hg]
                    clear HP2 HN hal hg
                    generalize w2.alloc (.cells #[.int .i64 (A : Int), .int .i64 d.k, .int .i64 d.n, .bool d.on, .string ⟨d.t.toArray⟩, .string ⟨d.x.toArray⟩, .string ⟨d.y.toArray⟩, .string ⟨d.u.toArray⟩, .string ⟨d.v.toArray⟩, .slice p d.nums.length c'] 39) = W3 at HO3 HP3 HN3 ⊢
                    obtain ⟨⟨c0, c1, c2, c3, c4, c5, c6, c7, c8, c9⟩, _⟩ := dr_at HO3.out
                    obtain ⟨xs, hx, hrw⟩ := HP3.out.own
                    have HXS := Lib.hid (And.intro hx hrw)
                    have hbel := Lib.hid HP3.out.bel
                    have HGO2 : Hid (goV (S.data.toList.drop (E + 1)).length (S.data.toList.drop (E + 1)) (E + 1) (acc ++ [(A, d)]) = (l, a, e)) := by
                      show _ = _
                      have h3 : goV (r.drop (n + 1)).length (r.drop (n + 1)) (o + n + 1) (acc ++ [(o + k, d)]) = (l, a, e) := HGO.out
                      rw [← HSR.out, List.drop_drop, HA.out, show o + (n + 1) = E + 1 by have := HE.out; omega, show o + n + 1 = E + 1 by have := HE.out; omega] at h3
                      exact h3
                    have hacc2 : acc.length + 1 ≤ E + 1 := by omega
                    have hE1 : E + 1 ≤ 1000001 := by omega
                    clear HGO HP3 hx hrw HO3
                    go_wp2_with (at_builtin; refine wpList_append_own _ rfl _ _ _ rfl w.heap.size 39 i0 (.agg #[.int .i64 0, .int .i64 0, .int .i64 0, .bool false, .string ⟨#[]⟩, .string ⟨#[]⟩, .string ⟨#[]⟩, .string ⟨#[]⟩, .string ⟨#[]⟩, .slice none 0 0]) 10 136 Tryd.underlying42 HI.out.1 HI.out.2.1 HI.out.2.2.1 HI.out.2.2.2 rfl (by omega) u6 acc.length xs (by rfl) (HXS.out.1.alloc _) ⟨W3.heap.size, 0, none⟩ 1 1 [.int .i64 (A : Int), .int .i64 d.k, .int .i64 d.n, .bool d.on, .string ⟨d.t.toArray⟩, .string ⟨d.x.toArray⟩, .string ⟨d.y.toArray⟩, .string ⟨d.u.toArray⟩, .string ⟨d.v.toArray⟩, .slice p d.nums.length c'] (by rfl) rfl (World.news_of_block (heap_alloc_new W3 _)) (by simp [Value.oneCell']) (by unfold maxLen; omega) (by omega) (by have := hbel.out.size; simp; omega) ?_; intro v' w' hown' hgrow' hnn'; skip)
                    have HPN := Lib.hid (PsAt.push (x := (A, d)) (c := c') HXS.out.1 HXS.out.2 hbel.out HN3.out hgrow' hown')
                    clear hown' hgrow' hnn'
                    go_round <;> first | exact ⟨E + 1, acc ++ [(A, d)], by omega, by simp; omega, by go_num, HGO2.out, HPN.out⟩ | (simp [intOf] <;> omega)
              · have hkni : ¬ ((A : Int) < (E : Int)) := by omega
                obtain rfl : A = E := by omega
                have HGN := HG2.out
                rw [if_pos (by have h1 := HK.out; have h2 := crs_le U; have h3 := HU.out.2; have h4 := HE.out; omega)] at HGN
                have HGO : Hid (goV (S.data.toList.drop (A + 1)).length (S.data.toList.drop (A + 1)) (A + 1) acc = (l, a, e)) := by
                  show _ = _
                  rw [← HSR.out, List.drop_drop, show o + (n + 1) = A + 1 by have := HE.out; omega, show o + n + 1 = A + 1 by have := HE.out; omega] at HGN
                  exact HGN
                clear HGN hA
                go_wp2_with fail
                go_round <;> first | exact ⟨A + 1, acc, by omega, by omega, by go_num, HGO.out, HP.out⟩ | (simp [intOf] <;> omega)
          · have HE : Hid (l = acc ∧ a = 0 ∧ e = 0) := by
              have h3 := HGO.out
              rw [List.drop_eq_nil_of_le (by rw [len_list]; omega)] at h3
              have h4 : (acc, 0, 0) = (l, a, e) := h3
              simp only [Prod.mk.injEq] at h4
              exact ⟨h4.1.symm, h4.2.1.symm, h4.2.2.symm⟩
            obtain ⟨rfl, rfl, rfl⟩ := HE.out
            have hlti : ¬ ((o : Int) < (S.size : Int)) := by omega
            go_wp2_with fail
            go_ret3
            exact ⟨_, rfl, HP.out⟩
end Go.Proofs.YtecpmnkgikcpnaaDoor.XW
