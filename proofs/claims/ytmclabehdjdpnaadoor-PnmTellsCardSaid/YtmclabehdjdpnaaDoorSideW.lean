/-
  The walk of pnm.side.
-/
import Derived.Test.YtmclabehdjdpnaaDoorCutW
namespace Go.Proofs.YtmclabehdjdpnaaDoor.PnmW
open Go.RowKit Go.Proofs.YtmclabehdjdpnaaDoor.Dp Go.Proofs.YtmclabehdjdpnaaDoor.Base Go.Proofs.YtmclabehdjdpnaaDoor.Mem Go.Proofs.YtmclabehdjdpnaaDoor.Pp

theorem drop_cons {l : List UInt8} {k : Nat} (h : k < l.length) : l.drop k = l[k] :: l.drop (k + 1) := List.drop_eq_getElem_cons h
theorem scan_no {l : List UInt8} {k m : Nat} (h : k < l.length) (hd : isD l[k] = true) (hv : 10 * m + (l[k].toNat - 48) = 0 ∨ 256 < 10 * m + (l[k].toNat - 48)) : scan m (l.drop k) = none := by
  rw [drop_cons h, scan, if_pos hd, if_pos hv]
theorem scan_yes {l : List UInt8} {k m : Nat} (h : k < l.length) (hd : isD l[k] = true) (hv : ¬ (10 * m + (l[k].toNat - 48) = 0 ∨ 256 < 10 * m + (l[k].toNat - 48))) : scan m (l.drop k) = scan (10 * m + (l[k].toNat - 48)) (l.drop (k + 1)) := by
  rw [drop_cons h, scan, if_pos hd, if_neg hv]
theorem scan_halt {l : List UInt8} {k m : Nat} (h : k < l.length) (hd : isD l[k] = false) : scan m (l.drop k) = some (m, l.drop k) := by
  rw [drop_cons h, scan_stop m hd]
theorem scan_end {l : List UInt8} {m : Nat} : scan m (l.drop l.length) = some (m, l.drop l.length) := by
  rw [List.drop_eq_nil_of_le (Nat.le_refl _)]; rfl
theorem side_of {l E : List UInt8} {m k : Nat} {b : Bool} (h : scan 0 l = some (m, l.drop k)) (hk : k ≤ l.length) (hb : E.isPrefixOf (l.drop k) = b) :
    sideV l E = if b = true ∧ 0 < k then some (m, (l.drop k).drop E.length) else none := by
  unfold sideV
  rw [h]
  simp only [hb, List.length_drop]
  by_cases h1 : b = true ∧ 0 < k
  · rw [if_pos h1, if_pos ⟨h1.1, by omega⟩]
  · rw [if_neg h1, if_neg (by rintro ⟨h2, h3⟩; exact h1 ⟨h2, by omega⟩)]
theorem side_none {l E : List UInt8} (h : scan 0 l = none) : sideV l E = none := by
  unfold sideV; rw [h]

def SideOut (c : Nat) (l E : List UInt8) (w : World) (e : Ending) (w' : World) : Prop :=
  ∃ (n : Int) (q : Option Addr) (k d : Nat), e = .returned (.tuple #[.int .i64 n, .slice q k d, .bool (sideV l E).isSome]) ∧ Below w.heap.size w w' ∧ ∀ m r, sideV l E = some (m, r) → n = (m : Int) ∧ k = r.length ∧ RB w' q r ∧ k ≤ d ∧ d ≤ c
theorem side_out_none {c : Nat} {l E : List UInt8} {w w' : World} (h : sideV l E = none) (n : Int) (q : Option Addr) (k d : Nat) (hb : Below w.heap.size w w') : SideOut c l E w (.returned (.tuple #[.int .i64 n, .slice q k d, .bool false])) w' :=
  ⟨n, q, k, d, by rw [h]; rfl, hb, fun m r h' => by rw [h] at h'; cases h'⟩
theorem side_out_some {c : Nat} {l E r : List UInt8} {m : Nat} {w w' : World} (h : sideV l E = some (m, r)) (q : Option Addr) (k d : Nat) (hk : k = r.length) (hr : RB w' q r) (hd : k ≤ d) (hdc : d ≤ c) (hb : Below w.heap.size w w') : SideOut c l E w (.returned (.tuple #[.int .i64 (m : Int), .slice q k d, .bool true])) w' :=
  ⟨m, q, k, d, by rw [h]; rfl, hb, fun m' r' h' => by
    rw [h] at h'
    injection h' with h'
    injection h' with h1 h2
    subst h1; subst h2
    exact ⟨rfl, hk, hr, hd, hdc⟩⟩

set_option maxRecDepth 100000 in
set_option maxHeartbeats 1600000 in
theorem side_at (b o c : Nat) (l : List UInt8) (E : ByteArray) (n : Nat) (hn : Hid (n = l.length)) (hc : n ≤ c) (hcm : c ≤ maxLen) (hE : Hid (0 < E.data.toList.length)) (hEz : E.size ≤ 1000) (w : World) (hR : RB w (some ⟨b, o, none⟩) l) :
    Calls Tryd.prog 45 #[.slice (some ⟨b, o, none⟩) n c, .string E] w (SideOut c l E.data.toList w) := by
  unfold maxLen at hcm
  obtain ⟨cap0, w1, hconv, hown, hb1, hzw⟩ := conv_bytes (P := Tryd.prog) w 9 29 5 E Tryd.underlying9 Tryd.underlying29 Tryd.underlying5 (by unfold maxLen; omega)
  have HR := Lib.hid hR
  have HO := Lib.hid hown
  have HB := Lib.hid hb1
  clear hR hown hb1 hzw
  go_enter Tryd.func45, Tryd.ntmps45
  go_wp2_with fail
  go_loop [7, 8] (fun a i => ∃ m k : Nat, k ≤ n ∧ m ≤ 256 ∧ a = .int .i64 m ∧ i = .int .i64 k ∧ Hid (scan 0 l = scan m (l.drop k))) (fun _ i => n - (intOf i).toNat)
  case atStart => exact ⟨0, 0, by omega, by omega, rfl, rfl, rfl⟩
  case round =>
    obtain ⟨m, k, hk, hm, rfl, rfl, HS⟩ := hrel
    by_cases hlt : k < n
    · have hkl : k < l.length := by rw [← hn.out]; exact hlt
      obtain ⟨X, hX⟩ : ∃ X, l[k].toNat = X := ⟨_, rfl⟩
      have hX8 : X < 256 := by rw [← hX]; exact UInt8.toNat_lt _
      have hcell : w.cell? ⟨b, o + k, none⟩ = some (.int .u8 (X : Int)) := by rw [HR.out.cell k hkl, hX]
      have hdig := isD_iff l[k]
      rw [hX] at hdig
      have HD := Lib.hid hdig
      have HX := Lib.hid hX
      clear hdig hX
      by_cases h48 : 48 ≤ (X : Int)
      · by_cases h57 : (X : Int) ≤ 57
        · have hisd : Hid (isD l[k] = true) := HD.out.2 (by omega)
          obtain ⟨V, hV⟩ : ∃ V, 10 * m + (X - 48) = V := ⟨_, rfl⟩
          have hVi : (10 * (m : Int) + ((X : Int) - 48)) = V := by omega
          have hVb : V ≤ 2617 := by omega
          have HV : Hid (10 * m + (X - 48) = V) := hV
          clear hV
          by_cases hv0 : V = 0
          · have hno : Hid (sideV l E.data.toList = none) := side_none (HS.out.trans (scan_no hkl hisd (by rw [HX.out, HV.out]; omega)))
            have t0 : ((V : Int) == 0) = true := by rw [hv0]; rfl
            clear hv0
            go_wp2_with fail
            go_ret3
            exact side_out_none hno.out _ _ _ _ (Below.refl _ _)
          · have t0 : ((V : Int) == 0) = false := by simp; omega
            by_cases hv1 : 256 < (V : Int)
            · have hno : Hid (sideV l E.data.toList = none) := side_none (HS.out.trans (scan_no hkl hisd (by rw [HX.out, HV.out]; omega)))
              go_wp2_with fail
              go_ret3
              exact side_out_none hno.out _ _ _ _ (Below.refl _ _)
            · have hnx : Hid (scan 0 l = scan V (l.drop (k + 1))) := by
                show _ = _
                rw [HS.out, scan_yes hkl hisd (by rw [HX.out, HV.out]; omega), HX.out, HV.out]
              go_wp2_with fail
              go_round
              case rel => exact ⟨V, k + 1, by omega, by omega, rfl, by go_num, hnx⟩
              case measure => simp [intOf]; omega
        · have hisd : isD l[k] = false := by
            rw [Bool.eq_false_iff]; intro h; have := HD.out.1 h; omega
          have HSC := HS.out.trans (scan_halt hkl hisd)
          clear hisd
          have HC : Hid (scan 0 l = some (m, l.drop k)) := HSC
          obtain ⟨z, hz⟩ : ∃ z, E.data.toList.isPrefixOf (l.drop k) = z := ⟨_, rfl⟩
          have HZ := Lib.hid hz
          have hkll : k ≤ l.length := by rw [← hn.out]; exact hk
          have HKL := Lib.hid hkll
          have hlm : Hid (E.size = E.data.toList.length) := by show _ = _; rw [len_list]
          clear hz HSC hkll
          have hln : Hid (n - k = (l.drop k).length) := by show _ = _; rw [List.length_drop, ← hn.out]
          have hck : ¬ c = k := by omega
          have HR1 : Hid (RB w1 (some ⟨b, o + k, none⟩) (l.drop k)) := (HR.out.below HB.out).drop k
          go_wp2_with fail
          with_reducible refine (cut_c _ _ _ _ _ _ (l.drop k) E.data.toList hln hlm (by omega) HR1.out HO.out.reads hE.out z HZ).mono ?_
          rintro e w' ⟨q, j, d, rfl, rfl, hjd, hdc, hz1, hz0⟩
          have HZ1 := Lib.hid hz1
          clear hz1 hz0
          cases z with
          | true =>
            by_cases hk0 : 0 < (k : Int)
            · have hs := Lib.hid ((side_of HC.out HKL.out HZ.out).trans (if_pos ⟨rfl, by omega⟩))
              have hkd : decide (0 < k) = true := by simp; omega
              go_wp2_with fail
              go_ret3
              exact side_out_some hs.out _ _ _ (HZ1.out (by trivial)).1 (HZ1.out (by trivial)).2 hjd (by omega) HB.out
            · have hs := Lib.hid ((side_of HC.out HKL.out HZ.out).trans (if_neg (by omega)))
              have hkd : decide (0 < k) = false := by simp; omega
              go_wp2_with fail
              go_ret3
              exact side_out_none hs.out _ _ _ _ HB.out
          | false =>
            have hs := Lib.hid ((side_of HC.out HKL.out HZ.out).trans (if_neg (fun h => by cases h.1)))
            go_wp2_with fail
            go_ret3
            exact side_out_none hs.out _ _ _ _ HB.out
      · have hisd : isD l[k] = false := by
          rw [Bool.eq_false_iff]; intro h; have := HD.out.1 h; omega
        have HSC := HS.out.trans (scan_halt hkl hisd)
        clear hisd
        have HC : Hid (scan 0 l = some (m, l.drop k)) := HSC
        obtain ⟨z, hz⟩ : ∃ z, E.data.toList.isPrefixOf (l.drop k) = z := ⟨_, rfl⟩
        have HZ := Lib.hid hz
        have hkll : k ≤ l.length := by rw [← hn.out]; exact hk
        have HKL := Lib.hid hkll
        have hlm : Hid (E.size = E.data.toList.length) := by show _ = _; rw [len_list]
        clear hz HSC hkll
        have hln : Hid (n - k = (l.drop k).length) := by show _ = _; rw [List.length_drop, ← hn.out]
        have hck : ¬ c = k := by omega
        have HR1 : Hid (RB w1 (some ⟨b, o + k, none⟩) (l.drop k)) := (HR.out.below HB.out).drop k
        go_wp2_with fail
        with_reducible refine (cut_c _ _ _ _ _ _ (l.drop k) E.data.toList hln hlm (by omega) HR1.out HO.out.reads hE.out z HZ).mono ?_
        rintro e w' ⟨q, j, d, rfl, rfl, hjd, hdc, hz1, hz0⟩
        have HZ1 := Lib.hid hz1
        clear hz1 hz0
        cases z with
        | true =>
          by_cases hk0 : 0 < (k : Int)
          · have hs := Lib.hid ((side_of HC.out HKL.out HZ.out).trans (if_pos ⟨rfl, by omega⟩))
            have hkd : decide (0 < k) = true := by simp; omega
            go_wp2_with fail
            go_ret3
            exact side_out_some hs.out _ _ _ (HZ1.out (by trivial)).1 (HZ1.out (by trivial)).2 hjd (by omega) HB.out
          · have hs := Lib.hid ((side_of HC.out HKL.out HZ.out).trans (if_neg (by omega)))
            have hkd : decide (0 < k) = false := by simp; omega
            go_wp2_with fail
            go_ret3
            exact side_out_none hs.out _ _ _ _ HB.out
        | false =>
          have hs := Lib.hid ((side_of HC.out HKL.out HZ.out).trans (if_neg (fun h => by cases h.1)))
          go_wp2_with fail
          go_ret3
          exact side_out_none hs.out _ _ _ _ HB.out
    · obtain rfl : n = k := by omega
      have HSC : scan 0 l = some (m, l.drop n) := by
        rw [HS.out, hn.out]; exact scan_end
      have HC : Hid (scan 0 l = some (m, l.drop n)) := HSC
      obtain ⟨z, hz⟩ : ∃ z, E.data.toList.isPrefixOf (l.drop n) = z := ⟨_, rfl⟩
      have HZ := Lib.hid hz
      have hkll : n ≤ l.length := by rw [← hn.out]; exact hk
      have HKL := Lib.hid hkll
      have hlm : Hid (E.size = E.data.toList.length) := by show _ = _; rw [len_list]
      clear hz HSC hkll
      have hln : Hid (0 = (l.drop n).length) := by show _ = _; rw [List.length_drop, ← hn.out]; omega
      by_cases hck : c = n
      · have HR1 : Hid (RB w1 (some ⟨b, o, none⟩) (l.drop n)) := by
          show RB _ _ _
          rw [show l.drop n = [] from List.eq_nil_of_length_eq_zero hln.out.symm]
          exact RB.nil _ _
        obtain rfl : n = c := hck.symm
        go_wp2_with fail
        with_reducible refine (cut_c _ _ _ _ _ _ (l.drop n) E.data.toList hln hlm (by omega) HR1.out HO.out.reads hE.out z HZ).mono ?_
        rintro e w' ⟨q, j, d, rfl, rfl, hjd, hdc, hz1, hz0⟩
        have HZ1 := Lib.hid hz1
        clear hz1 hz0
        cases z with
        | true =>
          by_cases hk0 : 0 < (n : Int)
          · have hs := Lib.hid ((side_of HC.out HKL.out HZ.out).trans (if_pos ⟨rfl, by omega⟩))
            have hkd : decide (0 < n) = true := by simp; omega
            go_wp2_with fail
            go_ret3
            exact side_out_some hs.out _ _ _ (HZ1.out (by trivial)).1 (HZ1.out (by trivial)).2 hjd (by omega) HB.out
          · have hs := Lib.hid ((side_of HC.out HKL.out HZ.out).trans (if_neg (by omega)))
            have hkd : decide (0 < n) = false := by simp; omega
            go_wp2_with fail
            go_ret3
            exact side_out_none hs.out _ _ _ _ HB.out
        | false =>
          have hs := Lib.hid ((side_of HC.out HKL.out HZ.out).trans (if_neg (fun h => by cases h.1)))
          go_wp2_with fail
          go_ret3
          exact side_out_none hs.out _ _ _ _ HB.out
      · have HR1 : Hid (RB w1 (some ⟨b, o + n, none⟩) (l.drop n)) := (HR.out.below HB.out).drop n
        go_wp2_with fail
        with_reducible refine (cut_c _ _ _ _ _ _ (l.drop n) E.data.toList hln hlm (by omega) HR1.out HO.out.reads hE.out z HZ).mono ?_
        rintro e w' ⟨q, j, d, rfl, rfl, hjd, hdc, hz1, hz0⟩
        have HZ1 := Lib.hid hz1
        clear hz1 hz0
        cases z with
        | true =>
          by_cases hk0 : 0 < (n : Int)
          · have hs := Lib.hid ((side_of HC.out HKL.out HZ.out).trans (if_pos ⟨rfl, by omega⟩))
            have hkd : decide (0 < n) = true := by simp; omega
            go_wp2_with fail
            go_ret3
            exact side_out_some hs.out _ _ _ (HZ1.out (by trivial)).1 (HZ1.out (by trivial)).2 hjd (by omega) HB.out
          · have hs := Lib.hid ((side_of HC.out HKL.out HZ.out).trans (if_neg (by omega)))
            have hkd : decide (0 < n) = false := by simp; omega
            go_wp2_with fail
            go_ret3
            exact side_out_none hs.out _ _ _ _ HB.out
        | false =>
          have hs := Lib.hid ((side_of HC.out HKL.out HZ.out).trans (if_neg (fun h => by cases h.1)))
          go_wp2_with fail
          go_ret3
          exact side_out_none hs.out _ _ _ _ HB.out

set_option maxRecDepth 100000 in
set_option maxHeartbeats 1600000 in
theorem side_nil (p : Option Addr) (c : Nat) (E : ByteArray) (hcm : c ≤ maxLen) (hE : Hid (0 < E.data.toList.length)) (hEz : E.size ≤ 1000) (w : World) :
    Calls Tryd.prog 45 #[.slice p 0 c, .string E] w (SideOut c [] E.data.toList w) := by
  unfold maxLen at hcm
  obtain ⟨cap0, w1, hconv, hown, hb1, hzw⟩ := conv_bytes (P := Tryd.prog) w 9 29 5 E Tryd.underlying9 Tryd.underlying29 Tryd.underlying5 (by unfold maxLen; omega)
  have HO := Lib.hid hown
  have HB := Lib.hid hb1
  have hlm : Hid (E.size = E.data.toList.length) := by show _ = _; rw [len_list]
  have hz : Hid (E.data.toList.isPrefixOf ([] : List UInt8) = false) := by
    have := hE.out
    show _ = _
    cases h : E.data.toList with
    | nil => rw [h] at this; simp at this
    | cons x r => rfl
  have hn0 : Hid (0 = ([] : List UInt8).length) := rfl
  have hs : Hid (sideV [] E.data.toList = none) := by
    show _ = _
    unfold sideV scan
    simp only
    rw [if_neg]
    rintro ⟨_, h⟩
    exact absurd h (Nat.lt_irrefl _)
  clear hown hb1 hzw
  go_enter Tryd.func45, Tryd.ntmps45
  go_wp2_with fail
  go_loop [7, 8] (fun a i => a = .int .i64 0 ∧ i = .int .i64 0) (fun _ _ => 0)
  case atStart => exact ⟨rfl, rfl⟩
  case round =>
    obtain ⟨rfl, rfl⟩ := hrel
    by_cases hck : c = 0
    · obtain rfl := hck
      go_wp2_with fail
      with_reducible refine (cut_c _ _ _ _ _ _ [] E.data.toList hn0 hlm (by omega) (RB.nil _ _) HO.out.reads hE.out false hz).mono ?_
      rintro e w' ⟨q, j, d, rfl, rfl, hjd, hdc, hz1, hz0⟩
      clear hz1 hz0
      go_wp2_with fail
      go_ret3
      exact side_out_none hs.out _ _ _ _ HB.out
    · go_wp2_with fail
      with_reducible refine (cut_c _ _ _ _ _ _ [] E.data.toList hn0 hlm (by omega) (RB.nil _ _) HO.out.reads hE.out false hz).mono ?_
      rintro e w' ⟨q, j, d, rfl, rfl, hjd, hdc, hz1, hz0⟩
      clear hz1 hz0
      go_wp2_with fail
      go_ret3
      exact side_out_none hs.out _ _ _ _ HB.out

theorem side_c (p : Option Addr) (n c : Nat) (l : List UInt8) (E : ByteArray) (hn : Hid (n = l.length)) (hc : n ≤ c) (hcm : c ≤ maxLen) (hE : Hid (0 < E.data.toList.length)) (hEz : E.size ≤ 1000) (w : World) (hR : RB w p l) :
    Calls Tryd.prog 45 #[.slice p n c, .string E] w (SideOut c l E.data.toList w) := by
  rcases Nat.eq_zero_or_pos l.length with h0 | h0
  · obtain rfl : l = [] := List.eq_nil_of_length_eq_zero h0
    obtain rfl : n = 0 := hn.out
    exact side_nil p c E hcm hE hEz w
  · obtain ⟨b, o, rfl⟩ := hR.addr h0
    exact side_at b o c l E n hn hc hcm hE hEz w hR
def SideNo (w : World) (e : Ending) (w' : World) : Prop := ∃ (n : Int) (q : Option Addr) (k d : Nat), e = .returned (.tuple #[.int .i64 n, .slice q k d, .bool false]) ∧ Below w.heap.size w w'
def SideYes (m : Nat) (r : List UInt8) (c : Nat) (w : World) (e : Ending) (w' : World) : Prop :=
  ∃ (q : Option Addr) (k d : Nat), e = .returned (.tuple #[.int .i64 (m : Int), .slice q k d, .bool true]) ∧ Below w.heap.size w w' ∧ Hid (k = r.length) ∧ RB w' q r ∧ k ≤ d ∧ d ≤ c
theorem side_no (p : Option Addr) (n c : Nat) (l : List UInt8) (E : ByteArray) (hn : Hid (n = l.length)) (hc : n ≤ c) (hcm : c ≤ maxLen) (hE : Hid (0 < E.data.toList.length)) (hEz : E.size ≤ 1000) (w : World) (hR : RB w p l) (hs : Hid (sideV l E.data.toList = none)) :
    Calls Tryd.prog 45 #[.slice p n c, .string E] w (SideNo w) := by
  refine (side_c p n c l E hn hc hcm hE hEz w hR).mono fun e w' ⟨m, q, k, d, he, hb, _⟩ => ⟨m, q, k, d, ?_, hb⟩
  rw [he, hs.out]; rfl
theorem side_yes (p : Option Addr) (n c : Nat) (l : List UInt8) (E : ByteArray) (hn : Hid (n = l.length)) (hc : n ≤ c) (hcm : c ≤ maxLen) (hE : Hid (0 < E.data.toList.length)) (hEz : E.size ≤ 1000) (w : World) (hR : RB w p l) (m : Nat) (r : List UInt8) (hs : Hid (sideV l E.data.toList = some (m, r))) :
    Calls Tryd.prog 45 #[.slice p n c, .string E] w (SideYes m r c w) := by
  refine (side_c p n c l E hn hc hcm hE hEz w hR).mono fun e w' ⟨m', q, k, d, he, hb, hx⟩ => ?_
  obtain ⟨rfl, h1, h2, h3, h4⟩ := hx m r hs.out
  exact ⟨q, k, d, by rw [he, hs.out]; rfl, hb, h1, h2, h3, h4⟩
end Go.Proofs.YtmclabehdjdpnaaDoor.PnmW
