/-
  The walks of unit.Digits and of the reference's Digits.
-/
import Derived.Test.YtmclabehdjdpnaaDoorUnitW
import Derived.Test.YtmclabehdjdpnaaDoorUq
import Derived.Test.YtmclabehdjdpnaaDoorRefD
namespace Go.Proofs.YtmclabehdjdpnaaDoor.UnitW
open Go.Lib (nDigits trimRightB)
open Go.RowKit Go.Proofs.YtmclabehdjdpnaaDoor.Dp Go.Proofs.YtmclabehdjdpnaaDoor.Base Go.Proofs.YtmclabehdjdpnaaDoor.DeciW Go.Proofs.YtmclabehdjdpnaaDoor.Up

theorem rep_list : ∀ c : Nat, Lib.repeatL [48] c = List.replicate c 48
  | 0 => rfl
  | c + 1 => by
    show [48] ++ Lib.repeatL [48] c = _
    rw [rep_list c, List.replicate_succ]; rfl
theorem repeat_at (c : Int) (k : Nat) (hc : c = k) (hk : k ≤ 1000) (S : ByteArray) (hS : Hid (S.data.toList = List.replicate k 48)) (w : World) :
    Calls Tryd.prog 55 #[.string ⟨#[48]⟩, .int .i64 c] w fun e w' => e = .returned (.string S) ∧ Below w.heap.size w w' := by
  subst hc
  refine (Tryd.strings_Repeat ⟨#[48]⟩ k w (by omega) (by rw [show (⟨#[48]⟩ : ByteArray).size = 1 from rfl]; omega)).mono fun e w' ⟨he, hw⟩ => ⟨?_, hw⟩
  rw [he]; exact ret_str (by rw [hS.out]; exact rep_list k)

theorem ret_sb {a b : ByteArray} {c : Bool} (h : a.data.toList = b.data.toList) : Ending.returned (.tuple #[.string a, .bool c]) = Ending.returned (.tuple #[.string b, .bool c]) := by rw [str_eq h]
theorem digitsV_no {g u i d : Int} {t : Bool} (h : ¬ (fmtOk u i d = true ∧ -536870912 ≤ g ∧ g ≤ 536870912 ∧ g % lastG u d = 0 ∧ (g / lastG u d).natAbs < 10 ^ (i + d).toNat)) : digitsV g u i d t = none := by
  unfold digitsV; rw [if_neg h]

set_option maxRecDepth 100000 in
set_option maxHeartbeats 1600000 in
theorem udigits_any (g u i d : Int) (t : Bool) (L : List UInt8) (b : Bool) (hL : Hid ((digitsV g u i d t).getD [] = L ∧ (digitsV g u i d t).isSome = b)) (S : ByteArray) (hS : Hid (S.data.toList = L)) (w : World) (hT : Tab w) :
    Calls Tryd.prog 33 #[.int .i64 g, fmtVal u i d t] w fun e w' => e = .returned (.tuple #[.string S, .bool b]) ∧ Below w.heap.size w w' := by
  cases hf : fmtOk u i d with
  | false =>
    have hN : digitsV g u i d t = none := digitsV_no (fun h => by rw [hf] at h; cases h.1)
    have hb : b = false := by rw [← hL.out.2, hN]; rfl
    have hE : S = ⟨#[]⟩ := str_eq (by rw [hS.out, ← hL.out.1, hN]; rfl)
    subst hb; subst hE
    have HF := Lib.hid hf
    clear hN hf hL hS
    go_enter Tryd.func33, Tryd.ntmps33
    go_wp2_with fail
    refine (uok_at u i d t false HF _).mono ?_
    rintro e w' ⟨rfl, rfl⟩
    go_wp2_with fail
    go_ret2
    exact ⟨rfl, ((Below.refl _ _).alloc (Nat.le_refl _) _).alloc (by simp) _⟩
  | true =>
    have hfb := (fmtOk_iff u i d).1 hf
    have hu := hfb.1
    obtain ⟨I, rfl⟩ : ∃ I : Nat, i = I := ⟨i.toNat, by omega⟩
    obtain ⟨D, rfl⟩ : ∃ D : Nat, d = D := ⟨d.toNat, by omega⟩
    have hI : I ≤ 6 := by omega
    have hD : D ≤ 6 := by omega
    have HF := Lib.hid hf
    by_cases hr : -536870912 ≤ g ∧ g ≤ 536870912
    · obtain ⟨r1, r2⟩ := hr
      obtain ⟨P, hP⟩ : ∃ P, per u = P := ⟨_, rfl⟩
      have hPc := per_cases hu
      rw [hP] at hPc
      obtain ⟨X, hX⟩ : ∃ X, lastG u (D : Int) = X := ⟨_, rfl⟩
      have hX2 : P * ((10 ^ (6 - D) : Nat) : Int) = X := by rw [← hX, step_eq, hP]
      have hpw := pow_le (6 - D) (by omega)
      have hp1 : 1 ≤ 10 ^ (6 - D) := Nat.one_le_pow _ _ (by decide)
      have hX0 : 10 ≤ X := by rw [← hX]; exact step_ge u hu D
      have hX1 : X ≤ 254000000 := by rw [← hX2]; rcases hPc with h | h <;> rw [h] <;> omega
      have hPb : P.natAbs * 10 ^ (6 - D) ≤ 1000000000000000000 := by rcases hPc with h | h <;> rw [h] <;> simp <;> omega
      have HP := Lib.hid hP
      have HX := Lib.hid hX
      have HX2 := Lib.hid hX2
      clear hf hfb hu hP hX hX2 hpw hp1 hPc
      by_cases hdiv : g % X = 0
      · obtain ⟨q, hq⟩ : ∃ q, g / X = q := ⟨_, rfl⟩
        have hgq : g = q * X := by rw [← hq]; exact (Int.ediv_mul_cancel (Int.dvd_of_emod_eq_zero hdiv)).symm
        have hq2 : g.tdiv X = q := by rw [hgq]; exact Int.mul_tdiv_cancel q (by omega)
        have hm2 : g.tmod X = 0 := Int.tmod_eq_zero_of_dvd (Int.dvd_of_emod_eq_zero hdiv)
        have hqa : q.natAbs ≤ g.natAbs := by rw [hgq, Int.natAbs_mul]; exact Nat.le_mul_of_pos_right _ (by omega)
        have hqb1 : -536870912 ≤ q := by omega
        have hqb2 : q ≤ 536870912 := by omega
        have hsgn : (g < 0 ↔ q < 0) := by
          constructor
          · intro h
            apply Classical.byContradiction; intro hn
            have := Int.mul_nonneg (a := q) (b := X) (by omega) (by omega)
            omega
          · intro h
            have := Int.mul_neg_of_neg_of_pos (a := q) (b := X) h (by omega)
            omega
        obtain ⟨v, hv⟩ : ∃ v : Nat, q.natAbs = v := ⟨_, rfl⟩
        have hsz : ((I : Int) + (D : Int)).toNat = I + D := by omega
        have hID : 1 ≤ I + D := by have := (fmtOk_iff _ _ _).1 HF.out; omega
        have hw : IntKind.i64.wrap (g.tdiv X) = q := by rw [hq2]; exact IntWalk.i64_in _ (by omega)
        have hX00 : (X == 0) = false := by simp; omega
        have hX01 : ¬ X = 0 := by omega
        obtain ⟨S1, hS1⟩ := str_ex (Lib.decDigits v)
        have hS1z : S1.size = nDigits v := by rw [← len_list, hS1, Lib.decDigits_length]
        have hvb : nDigits v ≤ 20 := Lib.nDigits_le20 v (by omega)
        have hok0 : ∀ tt : Bool, v < 10 ^ (I + D) → digitsV g u I D tt = some ((if g < 0 then [45] else []) ++ numL' v (I + D) tt) := by
          intro tt hlt
          unfold digitsV
          rw [HX.out, hq, hv, hsz, if_pos ⟨HF.out, r1, r2, hdiv, hlt⟩]
        have HVQ : Hid ((g / X).natAbs = v) := by show _ = _; rw [hq, hv]
        have HS1 := Lib.hid hS1
        by_cases hneg : q < 0
        · have hg0 : g < 0 := hsgn.2 hneg
          have hok1 : ∀ tt : Bool, v < 10 ^ (I + D) → digitsV g u I D tt = some ([45] ++ numL' v (I + D) tt) := by
            intro tt hlt; rw [hok0 tt hlt, if_pos hg0]
          have HOK := Lib.hid hok1
          have HGQ := Lib.hid hgq
          clear hok0 hok1 hgq hsgn hq hqa
          have hS1i : Hid (S1.data.toList = Lib.itoa (-q)) := by
            show _ = _
            rw [hS1, show (-q) = (v : Int) by omega]; exact (Lib.itoa_nonneg v).symm
          go_enter Tryd.func33, Tryd.ntmps33
          go_wp2_with fail
          refine (uok_at u I D t true HF _).mono ?_
          rintro e w' ⟨rfl, rfl⟩
          go_wp2_with fail
          go_quiet ((first | (go_at_call 54; exact Calls.quiet_of_same ((grains_at u P HP _).mono fun _ _ h => ⟨h.1, h.2.symm⟩)) | (go_at_call 53; exact Calls.quiet_of_same ((tens_at P _ (6 - D) (by omega) (by omega) hPb X HX2 _).mono fun _ _ h => ⟨h.1, h.2.symm⟩))))
          go_wp2_with fail
          go_quiet (fail)
          go_wp2_with fail
          refine (fmt_at _ S1 hS1i (by omega) (by omega) _ ?_).mono ?_
          · exact (((hT.alloc _).alloc _).drewN _)
          rintro e w1 ⟨rfl, hb1⟩
          have hc0 : w1.cell? ⟨w.heap.size, 1, none⟩ = some (.int .i64 I) := by rw [hb1.cell (p := ⟨w.heap.size, 1, none⟩) (by simp; omega)]; simp [go_sem]
          have hc1 : w1.cell? ⟨w.heap.size, 2, none⟩ = some (.int .i64 D) := by rw [hb1.cell (p := ⟨w.heap.size, 2, none⟩) (by simp; omega)]; simp [go_sem]
          have hc2 : w1.cell? ⟨w.heap.size, 3, none⟩ = some (.bool t) := by rw [hb1.cell (p := ⟨w.heap.size, 3, none⟩) (by simp; omega)]; simp [go_sem]
          have hbel : Below w.heap.size w w1 := (below_drewN (((Below.refl _ _).alloc (Nat.le_refl _) _).alloc (by simp) _) _).trans (hb1.mono (by simp; omega))
          have hT1 : Tab w1 := hT.below hbel
          clear hb1

          by_cases hfit : nDigits v ≤ I + D
          · have hfitz : ¬ I + D < S1.size := by omega
            cases t with
            | false =>
              have hok : digitsV g u I D false = some ([45] ++ Lib.decDigits v) := by rw [HOK.out false (by rw [← fits_iff hID]; exact hfit)]; unfold numL'; rfl
              have hb' : b = true := by rw [← hL.out.2, hok]; rfl
              have hSl : Hid (S.data.toList = [45] ++ S1.data.toList) := by show _ = _; rw [hS.out, ← hL.out.1, hok, HS1.out]; rfl
              subst hb'
              clear hok
              go_wp2_with fail
              go_ret2
              exact ⟨ret_sb (by rw [hSl.out]; simp), hbel⟩
            | true =>
              obtain ⟨R, hR⟩ := str_ex (List.replicate (I + D - nDigits v) 48)
              have hRS : (R ++ S1).data.toList = pad v (I + D) := by rw [app_list, hR, HS1.out, pad_dec hfit]
              obtain ⟨S3, hS3⟩ := str_ex (trimRightB (pad v (I + D)) 48)
              have hz3 : S3.size ≤ 12 := by
                rw [← len_list, hS3]
                have := trimRightB_length (pad v (I + D)) 48
                rw [pad_length] at this; omega
              have hRz : R.size ≤ 12 := by rw [← len_list, hR, List.length_replicate]; omega
              have HR := Lib.hid hR
              have HRS := Lib.hid hRS
              have HS3 := Lib.hid hS3
              have hsub : (I : Int) + D - (nDigits v : Int) = ((I + D - nDigits v : Nat) : Int) := by omega
              have hok := HOK.out true (by rw [← fits_iff hID]; exact hfit)
              by_cases he : trimRightB (pad v (I + D)) 48 = []
              · have hb' : b = true := by rw [← hL.out.2, hok]; rfl
                have hSl : Hid (S.data.toList = [45] ++ [48]) := by show _ = _; rw [hS.out, ← hL.out.1, hok]; unfold numL'; rw [if_pos rfl, if_pos he]; rfl
                have hem : S3.toList = [] := by rw [Lib.toList_data, hS3, he]
                subst hb'
                have HSUB := Lib.hid hsub
                clear hok hR hRS hS3 he hsub
                go_wp2_with fail
                with_reducible refine (repeat_at _ (I + D - nDigits v) HSUB.out (by omega) R HR _).mono ?_
                rintro e w2 ⟨rfl, hb2⟩
                go_wp2_with fail
                with_reducible refine (trim_at _ S3 _ HRS HS3 (by rw [ByteArray.size_append]; omega) _).mono ?_
                rintro e w3 ⟨rfl, rfl⟩
                go_wp2_with fail
                go_ret2
                exact ⟨ret_sb (by rw [hSl.out]; simp), hbel.trans (hb2.mono hbel.size)⟩
              · have hb' : b = true := by rw [← hL.out.2, hok]; rfl
                have hSl : Hid (S.data.toList = [45] ++ S3.data.toList) := by show _ = _; rw [hS.out, ← hL.out.1, hok, hS3]; unfold numL'; rw [if_pos rfl, if_neg he]; rfl
                have hem : S3.toList.isEmpty = false := by
                  rw [Lib.toList_data, hS3]
                  cases hx : trimRightB (pad v (I + D)) 48 with
                  | nil => exact absurd hx he
                  | cons _ _ => rfl
                have hem2 : ¬ S3.toList = [] := by intro h; rw [h] at hem; cases hem
                subst hb'
                have HSUB := Lib.hid hsub
                clear hok hR hRS hS3 he hsub
                go_wp2_with fail
                with_reducible refine (repeat_at _ (I + D - nDigits v) HSUB.out (by omega) R HR _).mono ?_
                rintro e w2 ⟨rfl, hb2⟩
                go_wp2_with fail
                with_reducible refine (trim_at _ S3 _ HRS HS3 (by rw [ByteArray.size_append]; omega) _).mono ?_
                rintro e w3 ⟨rfl, rfl⟩
                go_wp2_with fail
                go_ret2
                exact ⟨ret_sb (by rw [hSl.out]; simp), hbel.trans (hb2.mono hbel.size)⟩
          · have hN : digitsV g u I D t = none := digitsV_no (fun h => hfit (by have h5 := h.2.2.2.2; rw [HX.out, hsz] at h5; rw [fits_iff hID, ← HVQ.out]; exact h5))
            have hb' : b = false := by rw [← hL.out.2, hN]; rfl
            have hE : S = ⟨#[]⟩ := str_eq (by rw [hS.out, ← hL.out.1, hN]; rfl)
            subst hb'; subst hE
            have hfitz : I + D < S1.size := by omega
            clear hN
            go_wp2_with fail
            go_ret2
            exact ⟨rfl, hbel⟩
        · have hg0 : ¬ g < 0 := fun h => hneg (hsgn.1 h)
          have hok1 : ∀ tt : Bool, v < 10 ^ (I + D) → digitsV g u I D tt = some (numL' v (I + D) tt) := by
            intro tt hlt; rw [hok0 tt hlt, if_neg hg0]; rfl
          have HOK := Lib.hid hok1
          have HGQ := Lib.hid hgq
          have hq0 : 0 ≤ q := by omega
          have hg1 : 0 ≤ g := by omega
          clear hok0 hok1 hgq hsgn hqa
          have hS1i : Hid (S1.data.toList = Lib.itoa q) := by
            show _ = _
            rw [hS1, show q = (v : Int) by omega]; exact (Lib.itoa_nonneg v).symm
          go_enter Tryd.func33, Tryd.ntmps33
          go_wp2_with fail
          refine (uok_at u I D t true HF _).mono ?_
          rintro e w' ⟨rfl, rfl⟩
          go_wp2_with fail
          go_quiet ((first | (go_at_call 54; exact Calls.quiet_of_same ((grains_at u P HP _).mono fun _ _ h => ⟨h.1, h.2.symm⟩)) | (go_at_call 53; exact Calls.quiet_of_same ((tens_at P _ (6 - D) (by omega) (by omega) hPb X HX2 _).mono fun _ _ h => ⟨h.1, h.2.symm⟩))))
          go_wp2_with fail
          go_quiet (fail)
          go_wp2_with fail
          refine (fmt_at _ S1 hS1i (by omega) (by omega) _ ?_).mono ?_
          · exact (((hT.alloc _).alloc _).drewN _)
          rintro e w1 ⟨rfl, hb1⟩
          have hc0 : w1.cell? ⟨w.heap.size, 1, none⟩ = some (.int .i64 I) := by rw [hb1.cell (p := ⟨w.heap.size, 1, none⟩) (by simp; omega)]; simp [go_sem]
          have hc1 : w1.cell? ⟨w.heap.size, 2, none⟩ = some (.int .i64 D) := by rw [hb1.cell (p := ⟨w.heap.size, 2, none⟩) (by simp; omega)]; simp [go_sem]
          have hc2 : w1.cell? ⟨w.heap.size, 3, none⟩ = some (.bool t) := by rw [hb1.cell (p := ⟨w.heap.size, 3, none⟩) (by simp; omega)]; simp [go_sem]
          have hbel : Below w.heap.size w w1 := (below_drewN (((Below.refl _ _).alloc (Nat.le_refl _) _).alloc (by simp) _) _).trans (hb1.mono (by simp; omega))
          have hT1 : Tab w1 := hT.below hbel
          clear hb1

          by_cases hfit : nDigits v ≤ I + D
          · have hfitz : ¬ I + D < S1.size := by omega
            cases t with
            | false =>
              have hok : digitsV g u I D false = some ( Lib.decDigits v) := by rw [HOK.out false (by rw [← fits_iff hID]; exact hfit)]; unfold numL'; rfl
              have hb' : b = true := by rw [← hL.out.2, hok]; rfl
              have hSl : Hid (S.data.toList =  S1.data.toList) := by show _ = _; rw [hS.out, ← hL.out.1, hok, HS1.out]; rfl
              subst hb'
              clear hok
              go_wp2_with fail
              go_ret2
              exact ⟨ret_sb (by rw [hSl.out]; simp), hbel⟩
            | true =>
              obtain ⟨R, hR⟩ := str_ex (List.replicate (I + D - nDigits v) 48)
              have hRS : (R ++ S1).data.toList = pad v (I + D) := by rw [app_list, hR, HS1.out, pad_dec hfit]
              obtain ⟨S3, hS3⟩ := str_ex (trimRightB (pad v (I + D)) 48)
              have hz3 : S3.size ≤ 12 := by
                rw [← len_list, hS3]
                have := trimRightB_length (pad v (I + D)) 48
                rw [pad_length] at this; omega
              have hRz : R.size ≤ 12 := by rw [← len_list, hR, List.length_replicate]; omega
              have HR := Lib.hid hR
              have HRS := Lib.hid hRS
              have HS3 := Lib.hid hS3
              have hsub : (I : Int) + D - (nDigits v : Int) = ((I + D - nDigits v : Nat) : Int) := by omega
              have hok := HOK.out true (by rw [← fits_iff hID]; exact hfit)
              by_cases he : trimRightB (pad v (I + D)) 48 = []
              · have hb' : b = true := by rw [← hL.out.2, hok]; rfl
                have hSl : Hid (S.data.toList =  [48]) := by show _ = _; rw [hS.out, ← hL.out.1, hok]; unfold numL'; rw [if_pos rfl, if_pos he]; rfl
                have hem : S3.toList = [] := by rw [Lib.toList_data, hS3, he]
                subst hb'
                have HSUB := Lib.hid hsub
                clear hok hR hRS hS3 he hsub
                go_wp2_with fail
                with_reducible refine (repeat_at _ (I + D - nDigits v) HSUB.out (by omega) R HR _).mono ?_
                rintro e w2 ⟨rfl, hb2⟩
                go_wp2_with fail
                with_reducible refine (trim_at _ S3 _ HRS HS3 (by rw [ByteArray.size_append]; omega) _).mono ?_
                rintro e w3 ⟨rfl, rfl⟩
                go_wp2_with fail
                go_ret2
                exact ⟨ret_sb (by rw [hSl.out]; simp), hbel.trans (hb2.mono hbel.size)⟩
              · have hb' : b = true := by rw [← hL.out.2, hok]; rfl
                have hSl : Hid (S.data.toList =  S3.data.toList) := by show _ = _; rw [hS.out, ← hL.out.1, hok, hS3]; unfold numL'; rw [if_pos rfl, if_neg he]; rfl
                have hem : S3.toList.isEmpty = false := by
                  rw [Lib.toList_data, hS3]
                  cases hx : trimRightB (pad v (I + D)) 48 with
                  | nil => exact absurd hx he
                  | cons _ _ => rfl
                have hem2 : ¬ S3.toList = [] := by intro h; rw [h] at hem; cases hem
                subst hb'
                have HSUB := Lib.hid hsub
                clear hok hR hRS hS3 he hsub
                go_wp2_with fail
                with_reducible refine (repeat_at _ (I + D - nDigits v) HSUB.out (by omega) R HR _).mono ?_
                rintro e w2 ⟨rfl, hb2⟩
                go_wp2_with fail
                with_reducible refine (trim_at _ S3 _ HRS HS3 (by rw [ByteArray.size_append]; omega) _).mono ?_
                rintro e w3 ⟨rfl, rfl⟩
                go_wp2_with fail
                go_ret2
                exact ⟨ret_sb (by rw [hSl.out]; simp), hbel.trans (hb2.mono hbel.size)⟩
          · have hN : digitsV g u I D t = none := digitsV_no (fun h => hfit (by have h5 := h.2.2.2.2; rw [HX.out, hsz] at h5; rw [fits_iff hID, ← HVQ.out]; exact h5))
            have hb' : b = false := by rw [← hL.out.2, hN]; rfl
            have hE : S = ⟨#[]⟩ := str_eq (by rw [hS.out, ← hL.out.1, hN]; rfl)
            subst hb'; subst hE
            have hfitz : I + D < S1.size := by omega
            clear hN
            go_wp2_with fail
            go_ret2
            exact ⟨rfl, hbel⟩
      · have hN : digitsV g u I D t = none := digitsV_no (fun h => hdiv (by rw [← HX.out]; exact h.2.2.2.1))
        have hb : b = false := by rw [← hL.out.2, hN]; rfl
        have hE : S = ⟨#[]⟩ := str_eq (by rw [hS.out, ← hL.out.1, hN]; rfl)
        subst hb; subst hE
        have m1 : ((g % X) != 0) = true := by simp [hdiv]
        have m2 : ((g.tmod X) != 0) = true := by
          simp
          intro h
          exact hdiv (Int.emod_eq_zero_of_dvd (Int.dvd_of_tmod_eq_zero h))
        have m3 : ((g % X) == 0) = false := by simp [hdiv]
        have m4 : ((g.tmod X) == 0) = false := by
          simp
          intro h
          exact hdiv (Int.emod_eq_zero_of_dvd (Int.dvd_of_tmod_eq_zero h))
        clear hN hL hS hdiv
        go_enter Tryd.func33, Tryd.ntmps33
        go_wp2_with fail
        refine (uok_at u I D t true HF _).mono ?_
        rintro e w' ⟨rfl, rfl⟩
        go_wp2_with fail
        go_quiet ((first | (go_at_call 54; exact Calls.quiet_of_same ((grains_at u P HP _).mono fun _ _ h => ⟨h.1, h.2.symm⟩)) | (go_at_call 53; exact Calls.quiet_of_same ((tens_at P _ (6 - D) (by omega) (by omega) hPb X HX2 _).mono fun _ _ h => ⟨h.1, h.2.symm⟩))))
        go_wp2_with fail
        go_ret2
        exact ⟨rfl, below_drewN (((Below.refl _ _).alloc (Nat.le_refl _) _).alloc (by simp) _) _⟩
    · have hN : digitsV g u I D t = none := digitsV_no (fun h => hr ⟨h.2.1, h.2.2.1⟩)
      have hb : b = false := by rw [← hL.out.2, hN]; rfl
      have hE : S = ⟨#[]⟩ := str_eq (by rw [hS.out, ← hL.out.1, hN]; rfl)
      subst hb; subst hE
      clear hN hf hfb hL hS hu
      by_cases r1 : -536870912 ≤ g
      · have r2 : ¬ g ≤ 536870912 := fun h => hr ⟨r1, h⟩
        clear hr
        go_enter Tryd.func33, Tryd.ntmps33
        go_wp2_with fail
        refine (uok_at u I D t true HF _).mono ?_
        rintro e w' ⟨rfl, rfl⟩
        go_wp2_with fail
        go_ret2
        exact ⟨rfl, ((Below.refl _ _).alloc (Nat.le_refl _) _).alloc (by simp) _⟩
      · clear hr
        go_enter Tryd.func33, Tryd.ntmps33
        go_wp2_with fail
        refine (uok_at u I D t true HF _).mono ?_
        rintro e w' ⟨rfl, rfl⟩
        go_wp2_with fail
        go_ret2
        exact ⟨rfl, ((Below.refl _ _).alloc (Nat.le_refl _) _).alloc (by simp) _⟩
end Go.Proofs.YtmclabehdjdpnaaDoor.UnitW
