/-
  The walk of the reference's Digits.
-/
import Derived.Test.YtmclabehdjdpnaaDoorDigitsW
import Derived.Test.YtmclabehdjdpnaaDoorRefN
import Derived.Test.YtmclabehdjdpnaaDoorFmtAt
namespace Go.Proofs.YtmclabehdjdpnaaDoor.UnitW
open Go.Lib (nDigits trimRightB)
open Go.RowKit Go.Proofs.YtmclabehdjdpnaaDoor.Dp Go.Proofs.YtmclabehdjdpnaaDoor.Base Go.Proofs.YtmclabehdjdpnaaDoor.DeciW Go.Proofs.YtmclabehdjdpnaaDoor.Up Go.Proofs.YtmclabehdjdpnaaDoor.UnitB

theorem heap_drewN (w : World) : ∀ n : Nat, (w.drewN n).heap = w.heap
  | 0 => rfl
  | n + 1 => by
    show (World.drewN _ n).heap = _
    exact heap_drewN _ n

set_option maxRecDepth 100000 in
set_option maxHeartbeats 1600000 in
theorem rdig_any (g u i d : Int) (t : Bool) (L : List UInt8) (b : Bool) (hL : Hid ((digitsV g u i d t).getD [] = L ∧ (digitsV g u i d t).isSome = b)) (S : ByteArray) (hS : Hid (S.data.toList = L)) (w : World) :
    Calls Tryd.prog 39 #[.int .i64 g, fmtVal u i d t] w fun e w' => e = .returned (.tuple #[.string S, .bool b]) ∧ Below w.heap.size w w' := by
  cases hf : fmtOk u i d with
  | false =>
    have hN : digitsV g u i d t = none := digitsV_no (fun h => by rw [hf] at h; cases h.1)
    have hb : b = false := by rw [← hL.out.2, hN]; rfl
    have hE : S = ⟨#[]⟩ := str_eq (by rw [hS.out, ← hL.out.1, hN]; rfl)
    subst hb; subst hE
    have HF := Lib.hid hf
    clear hN hf hL hS
    go_enter Tryd.func39, Tryd.ntmps39
    go_wp2_with fail
    refine (rfok_at u i d t false HF _).mono ?_
    rintro e w' ⟨rfl, rfl⟩
    go_wp2_with fail
    go_ret2
    exact ⟨rfl, ((Below.refl _ _).alloc (Nat.le_refl _) _).alloc (by simp) _⟩
  | true =>
    have hfb := (fmtOk_iff u i d).1 hf
    have hu := hfb.1
    obtain ⟨I, rfl⟩ : ∃ I : Nat, i = I := ⟨i.toNat, by omega⟩
    obtain ⟨D, rfl⟩ : ∃ D : Nat, d = D := ⟨d.toNat, by omega⟩
    have hI : I ≤ 6 := by omega
    have hD : D ≤ 6 := by omega
    have HF := Lib.hid hf
    by_cases hr : -536870912 ≤ g ∧ g ≤ 536870912
    · obtain ⟨r1, r2⟩ := hr
      obtain ⟨P, hP⟩ : ∃ P, per u = P := ⟨_, rfl⟩
      have hPc := per_cases hu
      rw [hP] at hPc
      obtain ⟨X, hX⟩ : ∃ X, lastG u (D : Int) = X := ⟨_, rfl⟩
      obtain ⟨p, hp⟩ : ∃ p : Int, ((10 ^ (6 - D) : Nat) : Int) = p := ⟨_, rfl⟩
      have hX2 : P * p = X := by rw [← hX, step_eq, hP, hp]
      have hpw := pow_le (6 - D) (by omega)
      have hp1 : 1 ≤ 10 ^ (6 - D) := Nat.one_le_pow _ _ (by decide)
      have hX0 : 10 ≤ X := by rw [← hX]; exact step_ge u hu D
      have hp6 : p ≤ 1000000 := by rw [← hp]; omega
      have hp0 : 1 ≤ p := by rw [← hp]; omega
      have hX1 : X ≤ 254000000 := by rw [← hX2]; rcases hPc with h | h <;> rw [h] <;> omega
      obtain ⟨T, hTT⟩ : ∃ T : Int, ((10 ^ (I + D) : Nat) : Int) = T := ⟨_, rfl⟩
      have hw0 : IntKind.i64.wrap (P * p) = X := by rw [hX2]; exact IntWalk.i64_in _ (by omega)
      have HP := Lib.hid hP
      have HX := Lib.hid hX
      have Hp := Lib.hid hp
      have HT := Lib.hid hTT
      have HU := Lib.hid hu
      have hX00 : (X == 0) = false := by simp; omega
      have hX01 : ¬ X = 0 := by omega
      clear hf hfb hu hP hX hX2 hpw hp1 hPc hp hTT
      have hbel : Below w.heap.size w ((w.alloc (fmtObj u I D t)).alloc (fmtObj u I D t)) := ((Below.refl _ _).alloc (Nat.le_refl _) _).alloc (by simp) _
      have HBL := Lib.hid hbel
      clear hbel
      go_enter Tryd.func39, Tryd.ntmps39
      go_wp2_with fail
      refine (rfok_at u I D t true HF _).mono ?_
      rintro e w' ⟨rfl, rfl⟩
      go_upto_if 23 with fail
      go_cut [6] (fun a wx => a = .int .i64 P ∧ (w.alloc (fmtObj u I D t)).alloc (fmtObj u I D t) = wx)
      case first =>
        rcases HU.out with rfl | rfl
        · obtain rfl : P = 10 := HP.out.symm
          go_wp2_with fail
          go_meet
          exact ⟨rfl, rfl⟩
        · obtain rfl : P = 254 := HP.out.symm
          go_wp2_with fail
          go_meet
          exact ⟨rfl, rfl⟩
      case rest =>
      obtain ⟨rfl, rfl⟩ := hcut
      by_cases hdiv : g % X = 0
      · obtain ⟨q, hq⟩ : ∃ q, g / X = q := ⟨_, rfl⟩
        have hgq : g = q * X := by rw [← hq]; exact (Int.ediv_mul_cancel (Int.dvd_of_emod_eq_zero hdiv)).symm
        have hq2 : g.tdiv X = q := by rw [hgq]; exact Int.mul_tdiv_cancel q (by omega)
        have hq3 : (-g).tdiv X = -q := by rw [hgq, ← Int.neg_mul]; exact Int.mul_tdiv_cancel (-q) (by omega)
        have hm2 : g.tmod X = 0 := Int.tmod_eq_zero_of_dvd (Int.dvd_of_emod_eq_zero hdiv)
        have hqa : q.natAbs ≤ g.natAbs := by rw [hgq, Int.natAbs_mul]; exact Nat.le_mul_of_pos_right _ (by omega)
        have hqb1 : -536870912 ≤ q := by omega
        have hqb2 : q ≤ 536870912 := by omega
        have hsgn : (g < 0 ↔ q < 0) := by
          constructor
          · intro h
            apply Classical.byContradiction; intro hn
            have := Int.mul_nonneg (a := q) (b := X) (by omega) (by omega)
            omega
          · intro h
            have := Int.mul_neg_of_neg_of_pos (a := q) (b := X) h (by omega)
            omega
        obtain ⟨v, hv⟩ : ∃ v : Nat, q.natAbs = v := ⟨_, rfl⟩
        have hsz : ((I : Int) + (D : Int)).toNat = I + D := by omega
        have hID : 1 ≤ I + D := by have := (fmtOk_iff _ _ _).1 HF.out; omega
        have hw : IntKind.i64.wrap (g.tdiv X) = q := by rw [hq2]; exact IntWalk.i64_in _ (by omega)
        have hw' : IntKind.i64.wrap ((-g).tdiv X) = -q := by rw [hq3]; exact IntWalk.i64_in _ (by omega)
        have hw'' : IntKind.i64.wrap (-(g.tdiv X)) = -q := by rw [hq2]; exact IntWalk.i64_in _ (by omega)
        have hm3 : ((g.tmod X) == 0) = true := by simp [hm2]
        have hm4 : ((g.tmod X) != 0) = false := by simp [hm2]
        have hwI : IntKind.i64.wrap ((I : Int) + (D : Int)) = (I : Int) + (D : Int) := IntWalk.i64_in _ (by omega)
        have hwg : IntKind.i64.wrap (-g) = -g := IntWalk.i64_in _ (by omega)
        by_cases hlt : v < 10 ^ (I + D)
        · have hok : digitsV g u I D t = some ((if q < 0 then [45] else []) ++ numL' v (I + D) t) := by
            unfold digitsV
            rw [HX.out, hq, hv, hsz, if_pos ⟨HF.out, r1, r2, hdiv, hlt⟩]
            by_cases hn : q < 0
            · rw [if_pos hn, if_pos (hsgn.2 hn)]
            · rw [if_neg hn, if_neg (fun h => hn (hsgn.1 h))]
          have hT1 : q < T := by have := HT.out; omega
          have hT2 : -q < T := by have := HT.out; omega
          have hdd1 : decide (T ≤ q) = false := by simp; omega
          have hdd2 : decide (T ≤ -q) = false := by simp; omega
          have HOK := Lib.hid hok
          have HV := Lib.hid hv
          have HLT := Lib.hid hlt
          clear hgq hq hq2 hq3 hqa hsgn hv hok hlt hsz hdiv hm2
          go_wp2_with fail
          with_reducible refine (rtens_at _ (6 - D) (by omega) (by omega) p Hp _).mono ?_
          rintro e w' ⟨rfl, rfl⟩
          go_wp2_with fail
          go_quiet ((go_at_call 56; exact Calls.quiet_of_same ((rtens_at _ (I + D) (by omega) (by omega) T HT _).mono fun _ _ h => ⟨h.1, h.2.symm⟩)))
          go_upto_if 63 with fail
          go_cut [7, 8] (fun a c wx => ∃ G : ByteArray, a = .int .i64 (v : Int) ∧ c = .string G ∧ G.data.toList = (if q < 0 then [45] else []) ∧ G.size ≤ 1 ∧ Below w.heap.size w wx ∧ wx.heap[w.heap.size]? = some (fmtObj u I D t))
          case first =>
            have hheap : ((((w.alloc (fmtObj u I D t)).alloc (fmtObj u I D t)).drewN nq).heap)[w.heap.size]? = some (fmtObj u I D t) := by
              rw [heap_drewN]
              show ((w.heap.push _).push _)[w.heap.size]? = _
              rw [Array.getElem?_push, if_neg (by simp), Array.getElem?_push, if_pos rfl]
            have HH := Lib.hid hheap
            clear hheap
            by_cases hneg : q < 0
            · have hqv : -q = (v : Int) := by have := HV.out; omega
              have HQV := Lib.hid hqv
              have HG : Hid ((⟨#[45]⟩ : ByteArray).data.toList = if q < 0 then [45] else []) := by show _ = _; rw [if_pos hneg]
              clear hqv
              go_wp2_with fail
              go_meet
              refine ⟨⟨#[45]⟩, by rw [HQV.out], rfl, HG.out, by decide, below_drewN HBL.out _, HH.out⟩
            · have hqv : q = (v : Int) := by have := HV.out; omega
              have HQV := Lib.hid hqv
              have HG : Hid ((⟨#[]⟩ : ByteArray).data.toList = if q < 0 then [45] else []) := by show _ = _; rw [if_neg hneg]
              clear hqv
              go_wp2_with fail
              go_meet
              refine ⟨⟨#[]⟩, by rw [HQV.out], rfl, HG.out, by decide, below_drewN HBL.out _, HH.out⟩
          case rest =>
          obtain ⟨G, rfl, rfl, hG, hG1, hbel, hheap⟩ := hcut
          have HG := Lib.hid hG
          obtain ⟨c0, c1, c2, c3, _, _, _, _⟩ := fmtAt_heap hheap
          clear hG hheap
          have hb' : b = true := by rw [← hL.out.2, HOK.out]; rfl
          subst hb'
          obtain ⟨x, hx⟩ : ∃ x : Int, x = (v : Int) := ⟨_, rfl⟩
          have HXV := Lib.hid hx
          have hx0 : 0 ≤ x := by omega
          have hx1 : x ≤ 9223372036854775807 := by have := HV.out; omega
          rw [← hx]
          clear hx
          cases t with
          | false =>
            obtain ⟨S1, hS1⟩ := str_ex (numL v 1)
            have HS1 := Lib.hid hS1
            have hSl : Hid (S.data.toList = G.data.toList ++ S1.data.toList) := by show _ = _; rw [hS.out, ← hL.out.1, HOK.out, HG.out, HS1.out, numL_one]; rfl
            have hz1 : S1.size ≤ 20 := by rw [← len_list, hS1, numL_one, Lib.decDigits_length]; exact Lib.nDigits_le20 v (by have := HV.out; omega)
            clear hS1
            go_wp2_with fail
            with_reducible refine (num_at v 1 1 rfl (by omega) x HXV hx0 hx1 S1 HS1 _).mono ?_
            rintro e w' ⟨rfl, rfl⟩
            go_wp2_with fail
            go_ret2
            exact ⟨ret_sb (by rw [hSl.out]; simp), hbel⟩
          | true =>
            obtain ⟨S1, hS1⟩ := str_ex (numL v (I + D))
            obtain ⟨S3, hS3⟩ := str_ex (trimRightB (numL v (I + D)) 48)
            have HS1 := Lib.hid hS1
            have HS3 := Lib.hid hS3
            have hpad : numL v (I + D) = pad v (I + D) := numL_of_lt HLT.out
            have hz1 : S1.size ≤ 9223372036854775807 := by rw [← len_list, hS1, hpad, pad_length]; omega
            have hz3 : S3.size ≤ 12 := by
              rw [← len_list, hS3, hpad]
              have := trimRightB_length (pad v (I + D)) 48
              rw [pad_length] at this; omega
            by_cases he : trimRightB (pad v (I + D)) 48 = []
            · have hSl : Hid (S.data.toList = G.data.toList ++ [48]) := by show _ = _; rw [hS.out, ← hL.out.1, HOK.out, HG.out]; unfold numL'; rw [if_pos rfl, if_pos he]; rfl
              have hem : S3.toList = [] := by rw [Lib.toList_data, hS3, hpad, he]
              clear hS1 hS3 hpad he
              go_wp2_with fail
              with_reducible refine (num_at v (I + D) _ (by omega) (by omega) x HXV hx0 hx1 S1 HS1 _).mono ?_
              rintro e w' ⟨rfl, rfl⟩
              go_wp2_with fail
              with_reducible refine (bare_any _ S3 _ HS1 hz1 HS3 _).mono ?_
              rintro e w' ⟨rfl, rfl⟩
              go_wp2_with fail
              go_ret2
              exact ⟨ret_sb (by rw [hSl.out]; simp), hbel⟩
            · have hSl : Hid (S.data.toList = G.data.toList ++ S3.data.toList) := by show _ = _; rw [hS.out, ← hL.out.1, HOK.out, HG.out, HS3.out, hpad]; unfold numL'; rw [if_pos rfl, if_neg he]; rfl
              have hem : S3.toList.isEmpty = false := by
                rw [Lib.toList_data, hS3, hpad]
                cases hx : trimRightB (pad v (I + D)) 48 with
                | nil => exact absurd hx he
                | cons _ _ => rfl
              have hem2 : ¬ S3.toList = [] := by intro h; rw [h] at hem; cases hem
              clear hS1 hS3 hpad he
              go_wp2_with fail
              with_reducible refine (num_at v (I + D) _ (by omega) (by omega) x HXV hx0 hx1 S1 HS1 _).mono ?_
              rintro e w' ⟨rfl, rfl⟩
              go_wp2_with fail
              with_reducible refine (bare_any _ S3 _ HS1 hz1 HS3 _).mono ?_
              rintro e w' ⟨rfl, rfl⟩
              go_wp2_with fail
              go_ret2
              exact ⟨ret_sb (by rw [hSl.out]; simp), hbel⟩
        · have hN : digitsV g u I D t = none := digitsV_no (fun h => hlt (by have h5 := h.2.2.2.2; rw [HX.out, hsz, hq, hv] at h5; exact h5))
          have hb' : b = false := by rw [← hL.out.2, hN]; rfl
          have hE : S = ⟨#[]⟩ := str_eq (by rw [hS.out, ← hL.out.1, hN]; rfl)
          have hTv : T ≤ (v : Int) := by have := HT.out; omega
          subst hb'; subst hE
          clear hN hgq hq hq2 hq3 hqa hsgn hlt hsz hdiv hm2 hL hS
          by_cases hT1 : T ≤ q
          · have hdd1 : decide (T ≤ q) = true := by simp; omega
            clear hv
            go_wp2_with fail
            with_reducible refine (rtens_at _ (6 - D) (by omega) (by omega) p Hp _).mono ?_
            rintro e w' ⟨rfl, rfl⟩
            go_wp2_with fail
            go_quiet ((go_at_call 56; exact Calls.quiet_of_same ((rtens_at _ (I + D) (by omega) (by omega) T HT _).mono fun _ _ h => ⟨h.1, h.2.symm⟩)))
            go_wp2_with fail
            go_ret2
            exact ⟨rfl, below_drewN HBL.out _⟩
          · have hdd1 : decide (T ≤ q) = false := by simp; omega
            have hT2 : T ≤ -q := by omega
            have hdd2 : decide (T ≤ -q) = true := by simp; omega
            clear hv
            go_wp2_with fail
            with_reducible refine (rtens_at _ (6 - D) (by omega) (by omega) p Hp _).mono ?_
            rintro e w' ⟨rfl, rfl⟩
            go_wp2_with fail
            go_quiet ((go_at_call 56; exact Calls.quiet_of_same ((rtens_at _ (I + D) (by omega) (by omega) T HT _).mono fun _ _ h => ⟨h.1, h.2.symm⟩)))
            go_wp2_with fail
            go_ret2
            exact ⟨rfl, below_drewN HBL.out _⟩
      · have hN : digitsV g u I D t = none := digitsV_no (fun h => hdiv (by rw [← HX.out]; exact h.2.2.2.1))
        have hb : b = false := by rw [← hL.out.2, hN]; rfl
        have hE : S = ⟨#[]⟩ := str_eq (by rw [hS.out, ← hL.out.1, hN]; rfl)
        subst hb; subst hE
        have m1 : ((g % X) != 0) = true := by simp [hdiv]
        have m2 : ((g.tmod X) != 0) = true := by
          simp
          intro h
          exact hdiv (Int.emod_eq_zero_of_dvd (Int.dvd_of_tmod_eq_zero h))
        have m3 : ((g % X) == 0) = false := by simp [hdiv]
        have m4 : ((g.tmod X) == 0) = false := by
          simp
          intro h
          exact hdiv (Int.emod_eq_zero_of_dvd (Int.dvd_of_tmod_eq_zero h))
        clear hN hL hS hdiv
        go_wp2_with fail
        with_reducible refine (rtens_at _ (6 - D) (by omega) (by omega) p Hp _).mono ?_
        rintro e w' ⟨rfl, rfl⟩
        go_wp2_with fail
        go_quiet (fail)
        go_wp2_with fail
        go_ret2
        exact ⟨rfl, below_drewN HBL.out _⟩
    · have hN : digitsV g u I D t = none := digitsV_no (fun h => hr ⟨h.2.1, h.2.2.1⟩)
      have hb : b = false := by rw [← hL.out.2, hN]; rfl
      have hE : S = ⟨#[]⟩ := str_eq (by rw [hS.out, ← hL.out.1, hN]; rfl)
      subst hb; subst hE
      clear hN hL hS hf hfb hu
      have hbel : Below w.heap.size w ((w.alloc (fmtObj u I D t)).alloc (fmtObj u I D t)) := ((Below.refl _ _).alloc (Nat.le_refl _) _).alloc (by simp) _
      have HBL := Lib.hid hbel
      clear hbel
      by_cases hh : 536870912 < g
      · clear hr
        go_enter Tryd.func39, Tryd.ntmps39
        go_wp2_with fail
        refine (rfok_at u I D t true HF _).mono ?_
        rintro e w' ⟨rfl, rfl⟩
        go_wp2_with fail
        go_ret2
        exact ⟨rfl, HBL.out⟩
      · have hh2 : g < -536870912 := by omega
        clear hr
        go_enter Tryd.func39, Tryd.ntmps39
        go_wp2_with fail
        refine (rfok_at u I D t true HF _).mono ?_
        rintro e w' ⟨rfl, rfl⟩
        go_wp2_with fail
        go_ret2
        exact ⟨rfl, HBL.out⟩
end Go.Proofs.YtmclabehdjdpnaaDoor.UnitW
