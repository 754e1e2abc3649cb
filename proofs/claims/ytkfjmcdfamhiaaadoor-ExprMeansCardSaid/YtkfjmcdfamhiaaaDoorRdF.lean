/-
  The walks of the reader's inner and factor, and of Parse.
-/
import Derived.Test.YtkfjmcdfamhiaaaDoorRdP
namespace Go.Proofs.YtkfjmcdfamhiaaaDoor.RdW
open Go.RowKit Go.Proofs.YtkfjmcdfamhiaaaDoor.Dp Go.Proofs.YtkfjmcdfamhiaaaDoor.Base Go.Proofs.YtkfjmcdfamhiaaaDoor.Ep Go.Proofs.YtkfjmcdfamhiaaaDoor.Mem

def InnC (d : Nat) : Prop := ∀ (w0 : World) (S : ByteArray) (R deep : Nat) (st : St) (w : World) (c : UInt8) (C : Int), S.size ≤ 300 → deep + d = 30 → RdA w0 S R deep st w → st.e = 0 → st.ops.length + st.r.length ≤ 300 → isSign c = true → Hid (C = (c.toNat : Int)) →
  Calls Tryd.prog 48 #[.pointer (some ⟨R, 0, none⟩), .int .u8 C] w (Left w0 S R deep (innerV (factorV d) c st))
theorem InnC.use {d : Nat} (hF : InnC d) {w0 : World} {S : ByteArray} {R deep : Nat} {st : St} {w : World} {c : UInt8} {C : Int} (hS : S.size ≤ 300) (hd : deep + d = 30) (h : RdA w0 S R deep st w) (he : st.e = 0) (hc : st.ops.length + st.r.length ≤ 300) (hs : isSign c = true) (hC : Hid (C = (c.toNat : Int))) :
    Calls Tryd.prog 48 #[.pointer (some ⟨R, 0, none⟩), .int .u8 C] w (Left w0 S R deep (innerV (factorV d) c st)) := hF w0 S R deep st w c C hS hd h he hc hs hC

set_option maxRecDepth 100000 in
set_option maxHeartbeats 1600000 in
theorem inner_c (d : Nat) (hF : FacC d) (hSm : SumC d) : InnC d := by
  intro w0 S R deep st w c C hS hdd h he hcnt hs hC
  rcases sign_cases hs with rfl | rfl | rfl
  · obtain rfl : C = 43 := hC.out
    have HV : Hid (innerV (factorV d) 43 st = factorV d st) := by show _ = _; unfold innerV; rw [if_neg (by decide), if_neg (by decide)]
    clear hs hC
    go_enter Tryd.func48, Tryd.ntmps48
    go_wp2_with fail
    with_reducible refine (hF.use hS hdd h he hcnt).mono ?_
    rintro e w1 ⟨rfl, h1⟩
    go_wp2_with fail
    refine bodyPost_ret (results_none rfl _ _ _) rfl ?_
    exact ⟨rfl, by rw [HV.out]; exact h1⟩
  · obtain rfl : C = 45 := hC.out
    have HV : Hid (innerV (factorV d) 45 st = put (factorV d st) 7 0) := by show _ = _; unfold innerV; rw [if_neg (by decide), if_pos rfl]
    have HP : Hid ((factorV d st).ops.length ≤ 1000) := by show _ ≤ _; have := factor_cnt d st; omega
    clear hs hC
    go_enter Tryd.func48, Tryd.ntmps48
    go_wp2_with fail
    with_reducible refine (hF.use hS hdd h he hcnt).mono ?_
    rintro e w1 ⟨rfl, h1⟩
    go_wp2_with fail
    with_reducible refine (put_c _ h1 HP.out 7 0).mono ?_
    rintro e w2 ⟨rfl, h2⟩
    go_wp2_with fail
    refine bodyPost_ret (results_none rfl _ _ _) rfl ?_
    exact ⟨rfl, by rw [HV.out]; exact h2⟩
  · obtain rfl : C = 40 := hC.out
    obtain ⟨s1, hs1⟩ : ∃ s1, sumV (factorV d) st = s1 := ⟨_, rfl⟩
    have HV : Hid (innerV (factorV d) 40 st = shutV s1) := by show _ = _; unfold innerV; rw [if_pos rfl, hs1]
    have HS1 := Lib.hid hs1
    clear hs hC hs1
    go_enter Tryd.func48, Tryd.ntmps48
    go_wp2_with fail
    with_reducible refine (hSm.use hS hdd h he hcnt).mono ?_
    rintro e w1 ⟨rfl, h1⟩
    rw [HS1.out] at h1
    obtain ⟨k, v, h1⟩ := h1
    have H1 := Lib.hid h1
    obtain ⟨c0, c1, c2, c3, c4⟩ := h1.cells
    have f1 := h1.frozen 1
    have f4 := h1.frozen 4
    have hk300 : k ≤ 300 := Nat.le_trans h1.k_le hS
    clear h h1 he hcnt
    by_cases hz : s1.e = 0
    · have te : ((s1.e : Int) == 0) = true := by rw [hz]; rfl
      have HZ := Lib.hid hz
      clear hz
      obtain ⟨c, hc⟩ : ∃ c, hdI s1.r = c := ⟨_, rfl⟩
      have HC := Lib.hid hc
      by_cases h41 : hd s1.r = 41
      · have t41 : (c == 41) = true := by rw [← hc, hdI_eq h41]; rfl
        have HT : Hid (shutV s1 = ⟨s1.r.drop 1, s1.ops, 0⟩ ∧ s1.r ≠ []) := ⟨by unfold shutV; rw [if_pos HZ.out, if_pos h41], by intro e; rw [e] at h41; exact absurd h41 (by decide)⟩
        clear hc h41
        go_wp2_with fail
        with_reducible refine (next_c _ H1 c HC).mono ?_
        rintro e w' ⟨nn, rfl, rfl⟩
        have HN := Lib.hid ((H1.out.drewN nn).next1 HT.out.2 HZ.out).any
        go_wp2_with fail
        go_end0
        exact ⟨rfl, by rw [HV.out, HT.out.1]; exact HN.out⟩
      · have t41 : (c == 41) = false := by rw [← hc]; exact hdI_ne h41
        have HT : Hid (shutV s1 = ⟨s1.r, s1.ops, 3⟩) := by show _ = _; unfold shutV; rw [if_pos HZ.out, if_neg h41]
        clear hc h41
        go_wp2_with fail
        with_reducible refine (next_c _ H1 c HC).mono ?_
        rintro e w' ⟨nn, rfl, rfl⟩
        go_wp2_with fail
        refine bodyPost_ret (results_none rfl _ _ _) rfl ?_
        exact ⟨rfl, by rw [HV.out, HT.out]; exact ((H1.out.drewN nn).err 3).any⟩
    · have te : ((s1.e : Int) == 0) = false := by simp; omega
      have HT : Hid (shutV s1 = s1) := by show _ = _; unfold shutV; rw [if_neg hz]
      clear hz
      go_wp2_with fail
      refine bodyPost_ret (results_none rfl _ _ _) rfl ?_
      exact ⟨rfl, by rw [HV.out, HT.out]; exact H1.out.any⟩

theorem factor_leaf {d : Nat} {st : St} (h : isSign (hd st.r) = false) : factorV d st = leafV st := by
  cases d <;> (rw [factorV, if_neg (by rw [h]; decide)])
theorem hdI_lt (r : List UInt8) : 0 ≤ hdI r ∧ hdI r < 256 := by
  unfold hdI
  have := UInt8.toNat_lt (hd r)
  omega
set_option maxRecDepth 100000 in
set_option maxHeartbeats 3200000 in
theorem leaf_c (d : Nat) {w0 : World} {S : ByteArray} {R deep : Nat} {st : St} {w : World} (hS : S.size ≤ 300) (h : RdA w0 S R deep st w) (he : st.e = 0) (hcnt : st.ops.length + st.r.length ≤ 300) (hs : isSign (hd st.r) = false) :
    Calls Tryd.prog 39 #[.pointer (some ⟨R, 0, none⟩)] w (Left w0 S R deep (factorV d st)) := by
  rw [factor_leaf hs]
  obtain ⟨k, v, h⟩ := h
  have H := Lib.hid h
  obtain ⟨c0, c1, c2, c3, c4⟩ := h.cells
  have f4 := h.frozen 4
  have hl : st.ops.length ≤ 1000 := by omega
  obtain ⟨c, hc⟩ : ∃ c, hdI st.r = c := ⟨_, rfl⟩
  have HC := Lib.hid hc
  have hne : hd st.r ≠ 43 ∧ hd st.r ≠ 45 ∧ hd st.r ≠ 40 := by
    refine ⟨?_, ?_, ?_⟩ <;> (intro e; rw [e] at hs; exact absurd hs (by decide))
  have t43 : (c == 43) = false := by rw [← hc]; exact hdI_ne hne.1
  have t45 : (c == 45) = false := by rw [← hc]; exact hdI_ne hne.2.1
  have t40 : (c == 40) = false := by rw [← hc]; exact hdI_ne hne.2.2
  clear h hcnt hs hne
  by_cases h36 : hd st.r = 36
  · have t36 : (c == 36) = true := by rw [← hc, hdI_eq h36]; rfl
    have HV : Hid (leafV st = varV st) := by show _ = _; unfold leafV; rw [if_pos h36]
    have H36 := Lib.hid h36
    clear hc h36
    go_enter Tryd.func39, Tryd.ntmps39
    go_wp2_with fail
    with_reducible refine (next_c _ H c HC).mono ?_
    rintro e w' ⟨nn, rfl, rfl⟩
    go_wp2_with fail
    with_reducible refine (variable_c hS _ (H.out.drewN nn).any he hl H36.out).mono ?_
    rintro e w2 ⟨rfl, h2⟩
    go_wp2_with fail
    go_end0
    exact ⟨rfl, by rw [HV.out]; exact h2⟩
  · have t36 : (c == 36) = false := by rw [← hc]; exact hdI_ne h36
    by_cases h46 : hd st.r = 46
    · have t46 : (c == 46) = true := by rw [← hc, hdI_eq h46]; rfl
      have HV : Hid (leafV st = numV st) := by show _ = _; unfold leafV; rw [if_neg h36, if_pos (by rw [h46]; decide)]
      clear hc h36 h46
      go_enter Tryd.func39, Tryd.ntmps39
      go_wp2_with fail
      with_reducible refine (next_c _ H c HC).mono ?_
      rintro e w' ⟨nn, rfl, rfl⟩
      go_wp2_with fail
      with_reducible refine (number_c hS _ (H.out.drewN nn).any he hl).mono ?_
      rintro e w2 ⟨rfl, h2⟩
      go_wp2_with fail
      go_end0
      exact ⟨rfl, by rw [HV.out]; exact h2⟩
    · have t46 : (c == 46) = false := by rw [← hc]; exact hdI_ne h46
      obtain ⟨b, hb⟩ : ∃ b, isD (hd st.r) = b := ⟨_, rfl⟩
      have HB : Hid ((decide (48 ≤ c) && decide (c ≤ 57)) = b) := by
        show _ = _
        rw [← hb, ← hc]
        unfold isD hdI
        congr 1 <;> (rw [decide_eq_decide]; omega)
      cases b with
      | true =>
        have HV : Hid (leafV st = numV st) := by show _ = _; unfold leafV; rw [if_neg h36, if_pos (by rw [hb]; simp)]
        clear hc h36 h46 hb
        go_enter Tryd.func39, Tryd.ntmps39
        go_wp2_with fail
        with_reducible refine (next_c _ H c HC).mono ?_
        rintro e w' ⟨nn, rfl, rfl⟩
        go_wp2_with fail
        with_reducible refine (digit_c _ true HB _).mono ?_
        rintro e w' ⟨rfl, rfl⟩
        go_wp2_with fail
        with_reducible refine (number_c hS _ (H.out.drewN nn).any he hl).mono ?_
        rintro e w2 ⟨rfl, h2⟩
        go_wp2_with fail
        go_end0
        exact ⟨rfl, by rw [HV.out]; exact h2⟩
      | false =>
        have HV : Hid (leafV st = ⟨st.r, st.ops, 3⟩) := by show _ = _; unfold leafV; rw [if_neg h36, if_neg (by rw [hb]; simpa using h46)]
        clear hc h36 h46 hb
        go_enter Tryd.func39, Tryd.ntmps39
        go_wp2_with fail
        with_reducible refine (next_c _ H c HC).mono ?_
        rintro e w' ⟨nn, rfl, rfl⟩
        go_wp2_with fail
        with_reducible refine (digit_c _ false HB _).mono ?_
        rintro e w' ⟨rfl, rfl⟩
        go_wp2_with fail
        go_end0
        exact ⟨rfl, by rw [HV.out]; exact ((H.out.drewN nn).err 3).any⟩

theorem fac_zero : FacC 0 := by
  intro w0 S R deep st w hS hdd h he hcnt
  by_cases hs : isSign (hd st.r) = true
  · obtain ⟨k, v, h⟩ := h
    have H := Lib.hid h
    obtain ⟨c0, c1, c2, c3, c4⟩ := h.cells
    have f4 := h.frozen 4
    obtain ⟨c, hc⟩ : ∃ c, hdI st.r = c := ⟨_, rfl⟩
    have HC := Lib.hid hc
    obtain rfl : deep = 30 := by omega
    have HV : Hid (factorV 0 st = ⟨st.r, st.ops, 6⟩) := by show _ = _; rw [factorV, if_pos hs]
    have HZ : Hid (Left w0 S R 30 (factorV 0 st) = Left w0 S R 30 ⟨st.r, st.ops, 6⟩) := by show _ = _; rw [HV.out]
    clear h hcnt he
    rcases sign_cases hs with h0 | h0 | h0
    · skip
      have t43 : (c == 43) = true := by rw [← hc, hdI_eq h0]; rfl
      clear hc hs h0
      go_enter Tryd.func39, Tryd.ntmps39
      go_wp2_with fail
      with_reducible refine (next_c _ H c HC).mono ?_
      rintro e w' ⟨nn, rfl, rfl⟩
      go_wp2_with fail
      refine bodyPost_ret (results_none rfl _ _ _) rfl ?_
      exact ⟨rfl, by rw [HV.out]; exact ((H.out.drewN nn).err 6).any⟩
    · skip
      have t43 : (c == 43) = false := by rw [← hc, hdI_eq h0]; rfl
      have t45 : (c == 45) = true := by rw [← hc, hdI_eq h0]; rfl
      clear hc hs h0
      go_enter Tryd.func39, Tryd.ntmps39
      go_wp2_with fail
      with_reducible refine (next_c _ H c HC).mono ?_
      rintro e w' ⟨nn, rfl, rfl⟩
      go_wp2_with fail
      refine bodyPost_ret (results_none rfl _ _ _) rfl ?_
      exact ⟨rfl, by rw [HV.out]; exact ((H.out.drewN nn).err 6).any⟩
    · skip
      have t43 : (c == 43) = false := by rw [← hc, hdI_eq h0]; rfl
      have t45 : (c == 45) = false := by rw [← hc, hdI_eq h0]; rfl
      have t40 : (c == 40) = true := by rw [← hc, hdI_eq h0]; rfl
      clear hc hs h0
      go_enter Tryd.func39, Tryd.ntmps39
      go_wp2_with fail
      with_reducible refine (next_c _ H c HC).mono ?_
      rintro e w' ⟨nn, rfl, rfl⟩
      go_wp2_with fail
      refine bodyPost_ret (results_none rfl _ _ _) rfl ?_
      exact ⟨rfl, by rw [HV.out]; exact ((H.out.drewN nn).err 6).any⟩
  · exact leaf_c 0 hS h he hcnt (by simpa using hs)

theorem Rd.dive1 {w0 w : World} {S : ByteArray} {R deep k : Nat} {st : St} {v : Value} (h : Rd w0 S R deep st k v w) : Rd w0 S R (deep + 1) st k v (w.setCell ⟨R, 2, none⟩ (.int .i64 ((deep : Int) + 1))) := h.dive (deep + 1)
set_option maxRecDepth 100000 in
set_option maxHeartbeats 1600000 in
theorem fac_succ (d : Nat) (hI : InnC d) : FacC (d + 1) := by
  intro w0 S R deep st w hS hdd h he hcnt
  by_cases hs : isSign (hd st.r) = true
  · obtain ⟨k, v, h⟩ := h
    have H := Lib.hid h
    obtain ⟨c0, c1, c2, c3, c4⟩ := h.cells
    have f1 := h.frozen 1
    have f2 := h.frozen 2
    have hk300 : k ≤ 300 := Nat.le_trans h.k_le hS
    obtain ⟨c, hc⟩ : ∃ c, hdI st.r = c := ⟨_, rfl⟩
    have HC := Lib.hid hc
    have tdp : ((deep : Int) == 30) = false := by simp; omega
    have HV : Hid (factorV (d + 1) st = innerV (factorV d) (hd st.r) ⟨st.r.drop 1, st.ops, 0⟩) := by show _ = _; rw [factorV, if_pos hs, he]
    have HNE := Lib.hid (sign_ne hs)
    have HE := Lib.hid he
    have HCN : Hid ((⟨st.r.drop 1, st.ops, 0⟩ : St).ops.length + (⟨st.r.drop 1, st.ops, 0⟩ : St).r.length ≤ 300) := by
      show st.ops.length + (st.r.drop 1).length ≤ 300
      rw [List.length_drop]; omega
    have hdd' : deep + 1 + d = 30 := by omega
    have HSG := Lib.hid hs
    have HCC : Hid (c = ((hd st.r).toNat : Int)) := by show _ = _; rw [← hc]; rfl
    clear h hcnt he
    rcases sign_cases hs with h0 | h0 | h0
    · skip
      have t43 : (c == 43) = true := by rw [← hc, hdI_eq h0]; rfl
      clear hc hs h0
      go_enter Tryd.func39, Tryd.ntmps39
      go_wp2_with fail
      with_reducible refine (next_c _ H c HC).mono ?_
      rintro e w' ⟨nn, rfl, rfl⟩
      have HN := Lib.hid ((H.out.drewN nn).next1 HNE.out HE.out).dive1.any
      go_wp2_with fail
      with_reducible refine (hI.use hS hdd' HN.out rfl HCN.out HSG.out HCC).mono ?_
      rintro e w2 ⟨rfl, k2, v2, h2⟩
      have H2 := Lib.hid h2
      obtain ⟨d0, d1, d2, d3, d4⟩ := h2.cells
      have g2 := h2.frozen 2
      have HR := Lib.hid (h2.dive deep).any
      clear h2 c0 c1 c2 c3 c4 f1 f2
      go_wp2_with fail
      go_end0
      exact ⟨rfl, by rw [HV.out]; exact HR.out⟩
    · skip
      have t43 : (c == 43) = false := by rw [← hc, hdI_eq h0]; rfl
      have t45 : (c == 45) = true := by rw [← hc, hdI_eq h0]; rfl
      clear hc hs h0
      go_enter Tryd.func39, Tryd.ntmps39
      go_wp2_with fail
      with_reducible refine (next_c _ H c HC).mono ?_
      rintro e w' ⟨nn, rfl, rfl⟩
      have HN := Lib.hid ((H.out.drewN nn).next1 HNE.out HE.out).dive1.any
      go_wp2_with fail
      with_reducible refine (hI.use hS hdd' HN.out rfl HCN.out HSG.out HCC).mono ?_
      rintro e w2 ⟨rfl, k2, v2, h2⟩
      have H2 := Lib.hid h2
      obtain ⟨d0, d1, d2, d3, d4⟩ := h2.cells
      have g2 := h2.frozen 2
      have HR := Lib.hid (h2.dive deep).any
      clear h2 c0 c1 c2 c3 c4 f1 f2
      go_wp2_with fail
      go_end0
      exact ⟨rfl, by rw [HV.out]; exact HR.out⟩
    · skip
      have t43 : (c == 43) = false := by rw [← hc, hdI_eq h0]; rfl
      have t45 : (c == 45) = false := by rw [← hc, hdI_eq h0]; rfl
      have t40 : (c == 40) = true := by rw [← hc, hdI_eq h0]; rfl
      clear hc hs h0
      go_enter Tryd.func39, Tryd.ntmps39
      go_wp2_with fail
      with_reducible refine (next_c _ H c HC).mono ?_
      rintro e w' ⟨nn, rfl, rfl⟩
      have HN := Lib.hid ((H.out.drewN nn).next1 HNE.out HE.out).dive1.any
      go_wp2_with fail
      with_reducible refine (hI.use hS hdd' HN.out rfl HCN.out HSG.out HCC).mono ?_
      rintro e w2 ⟨rfl, k2, v2, h2⟩
      have H2 := Lib.hid h2
      obtain ⟨d0, d1, d2, d3, d4⟩ := h2.cells
      have g2 := h2.frozen 2
      have HR := Lib.hid (h2.dive deep).any
      clear h2 c0 c1 c2 c3 c4 f1 f2
      go_wp2_with fail
      go_end0
      exact ⟨rfl, by rw [HV.out]; exact HR.out⟩
  · exact leaf_c (d + 1) hS h he hcnt (by simpa using hs)

theorem factor_c : ∀ d, FacC d
  | 0 => fac_zero
  | d + 1 => fac_succ d (inner_c d (factor_c d) (sum_c d (product_c d (factor_c d))))
theorem sum_all : SumC 30 := sum_c 30 (product_c 30 (factor_c 30))
end Go.Proofs.YtkfjmcdfamhiaaaDoor.RdW
