/-
  Proved: for every number, text, grains and format, raw and such as may be, unit's Grain, Coord, Digits and Ok return what the document's own answer returns (heliographlaw3.UnitTells returns true). Conditions: the row's own (the package-level tables read as the program's text lays them, tied by the card).
-/
import Derived.Test.YtmclabehdjdpnaaDoorUnitA
import Derived.Test.YtmclabehdjdpnaaDoorRcoordW
import Derived.Test.YtmclabehdjdpnaaDoorRdigitsW
import Derived.Test.YtmclabehdjdpnaaDoorFmtAt
import Derived.ProofKit
import Derived.Lib.SmallJoins
import Derived.Deep.RegionHeld3
namespace Go.Proofs.YtmclabehdjdpnaaDoor.UnitTells
open Go.ChangeShapes Go.WideShapes Go.ChangeAt Go.WideMaps Go.WideElems Go.RowKit
open Go.ChangeMaps (open_string)
open Go.Joins
open Go.Proofs.YtmclabehdjdpnaaDoor.Dp Go.Proofs.YtmclabehdjdpnaaDoor.Base Go.Proofs.YtmclabehdjdpnaaDoor.DeciW Go.Proofs.YtmclabehdjdpnaaDoor.Up Go.Proofs.YtmclabehdjdpnaaDoor.UnitW Go.Proofs.YtmclabehdjdpnaaDoor.UnitB

set_option maxRecDepth 100000 in
set_option maxHeartbeats 1600000 in
theorem walk (n0 u0 : Int) (s : ByteArray) (hs : s.size ≤ maxLen) (g0 : Int) (fu fi fd : Int) (ft : Bool) (w : World) (hT : Tab w) :
    Calls Tryd.prog 12 #[.int .i64 n0, .int .i64 u0, .string s, .int .i64 g0, fmtVal fu fi fd ft] w fun e w' => e = .returned (.bool true) ∧ Below w.heap.size w w' := by
  have hs' : s.size ≤ 9223372036854775807 := hs
  clear hs
  by_cases h100 : 100 < s.size
  · go_enter Tryd.func12, Tryd.ntmps12
    go_wp2_with fail
    with_reducible refine (uawake_any _ (hT.alloc _)).mono ?_
    rintro e w1 ⟨rfl, hb1⟩
    go_wp2_with fail
    go_ret
    exact ⟨rfl, ((Below.refl _ _).alloc (Nat.le_refl _) _).trans (hb1.mono (by simp))⟩
  · go_enter Tryd.func12, Tryd.ntmps12
    go_wp2_with fail
    go_loopw [11, 0, 1, 3] (fun i a b c wr => ∃ (j : Nat) (n u g p q r : Int) (t : Bool), j ≤ 2 ∧ i = .int .i64 j ∧ a = .int .i64 n ∧ b = .int .i64 u ∧ c = .int .i64 g ∧ wr.heap[w.heap.size]? = some (fmtObj p q r t) ∧ Below w.heap.size w wr) (fun i _ _ _ _ => 2 - (intOf i).toNat)
    case atStart => exact ⟨0, n0, u0, g0, fu, fi, fd, ft, by omega, rfl, rfl, rfl, rfl, by show (w.heap.push _)[w.heap.size]? = _; simp, (Below.refl _ _).alloc (Nat.le_refl _) _⟩
    case round =>
      obtain ⟨j, n, u, g, p, q, r, t, hj, rfl, rfl, rfl, rfl, hbox, hbel⟩ := hrel
      by_cases hlt : j < 2
      · obtain ⟨v1, o1, hv1⟩ : ∃ v o, (grainV n u).getD 0 = v ∧ (grainV n u).isSome = o := ⟨_, _, rfl, rfl⟩
        obtain ⟨v2, o2, hv2⟩ : ∃ v o, (coordV s.data.toList p q r t).getD 0 = v ∧ (coordV s.data.toList p q r t).isSome = o := ⟨_, _, rfl, rfl⟩
        obtain ⟨L3, o3, hv3⟩ : ∃ v o, (digitsV g p q r t).getD [] = v ∧ (digitsV g p q r t).isSome = o := ⟨_, _, rfl, rfl⟩
        obtain ⟨o4, hv4⟩ : ∃ o, fmtOk p q r = o := ⟨_, rfl⟩
        obtain ⟨S3, hS3⟩ := str_ex L3
        obtain ⟨U, I, D, hF, hTame⟩ := tame_ex p q r t
        have H1 := Lib.hid hv1
        have H2 := Lib.hid hv2
        have H3 := Lib.hid hv3
        have H4 := Lib.hid hv4
        have HS3 := Lib.hid hS3
        have HTame := Lib.hid hTame
        have HBOX := Lib.hid hbox
        have HBEL := Lib.hid hbel
        have hTr : Tab wr := hT.below hbel
        obtain ⟨c0, c1, c2, c3, _, _, _, _⟩ := fmtAt_heap hbox
        clear hv1 hv2 hv3 hv4 hS3 hTame hF hbox hbel
        go_wp2_with fail
        with_reducible refine (grain_at n u v1 o1 H1 _).mono ?_
        rintro e w' ⟨rfl, rfl⟩
        go_wp2_with fail
        with_reducible refine (rgrain_at n u v1 o1 H1 _).mono ?_
        rintro e w' ⟨rfl, rfl⟩
        go_wp2_with fail
        with_reducible refine (coord_at s _ (Lib.hid rfl) p q r t v2 o2 H2 hs' _).mono ?_
        rintro e w2 ⟨rfl, hb2⟩
        have HX2 := Lib.hid (one_below HBOX.out hb2)
        have hT2 : Tab w2 := hTr.below hb2
        have hbel2 := HBEL.out.trans (hb2.mono HBEL.out.size)
        obtain ⟨a0, a1, a2, a3, _, _, _, _⟩ := fmtAt_heap HX2.out
        go_wp2_with fail
        with_reducible refine (rcoord_at s p q r t v2 o2 H2 hs' _).mono ?_
        rintro e w3 ⟨rfl, hb3⟩
        have HX3 := Lib.hid (one_below HX2.out hb3)
        have hT3 : Tab w3 := hT2.below hb3
        have hbel3 := hbel2.trans (hb3.mono hbel2.size)
        obtain ⟨b0, b1, b2, b3, _, _, _, _⟩ := fmtAt_heap HX3.out
        go_wp2_with fail
        with_reducible refine (udigits_any g p q r t L3 o3 H3 S3 HS3 _ hT3).mono ?_
        rintro e w4 ⟨rfl, hb4⟩
        have HX4 := Lib.hid (one_below HX3.out hb4)
        have hT4 : Tab w4 := hT3.below hb4
        have hbel4 := hbel3.trans (hb4.mono hbel3.size)
        obtain ⟨d0, d1, d2, d3, _, _, _, _⟩ := fmtAt_heap HX4.out
        go_wp2_with fail
        with_reducible refine (rdig_any g p q r t L3 o3 H3 S3 HS3 _).mono ?_
        rintro e w5 ⟨rfl, hb5⟩
        have HX5 := Lib.hid (one_below HX4.out hb5)
        have hT5 : Tab w5 := hT4.below hb5
        have hbel5 := hbel4.trans (hb5.mono hbel4.size)
        clear c0 c1 c2 c3 a0 a1 a2 a3 b0 b1 b2 b3 d0 d1 d2 d3 hb2 hb3 hb4 hb5 hTr hT2 hT3 hT4 hbel2 hbel3 hbel4
        obtain ⟨c0, c1, c2, c3, _, _, _, _⟩ := fmtAt_heap HX5.out
        go_upto_region 12 with fail
        go_cut [102] (fun c wx => c = .bool false ∧ Below w.heap.size w wx ∧ wx.heap[w.heap.size]? = some (fmtObj p q r t))
        case first =>
          go_region_held3 (fun w' => w'.cell? ⟨w.heap.size, 0, none⟩ = some (.int .i64 p) ∧ w'.cell? ⟨w.heap.size, 1, none⟩ = some (.int .i64 q) ∧ w'.cell? ⟨w.heap.size, 2, none⟩ = some (.int .i64 r) ∧ w'.cell? ⟨w.heap.size, 3, none⟩ = some (.bool t)) (go_keep) (first | (go_at_call 40; refine (uok_at p q r t o4 H4 _).mono ?_; rintro e w' ⟨rfl, rfl⟩) | (go_at_call 41; refine (rfok_at p q r t o4 H4 _).mono ?_; rintro e w' ⟨rfl, rfl⟩))
          go_wp2_with fail
          go_meet
          exact ⟨rfl, ((hbel5.alloc hbel5.size _).alloc (Nat.le_trans hbel5.size (by simp)) _).drew, two_alloc HX5.out⟩
        case rest =>
          obtain ⟨rfl, hbel6, hbox6⟩ := hcut
          obtain ⟨u2, hu2⟩ : ∃ u2, bits .and .i64 u 1 = u2 ∧ 0 ≤ u2 ∧ u2 ≤ 1 := ⟨u % 2, by rw [Bits.and1], by omega, by omega⟩
          obtain ⟨hu2, hu3, hu4⟩ := hu2
          have HX6 := Lib.hid hbox6
          clear c0 c1 c2 c3 hbox6
          obtain ⟨c0, c1, c2, c3, _, _, _, _⟩ := fmtAt_heap HX6.out
          go_wp2_with fail
          with_reducible refine (HTame.out _).mono ?_
          rintro e w7 ⟨rfl, hb7⟩
          have HX7 := Lib.hid (one_below HX6.out hb7)
          have hbel7 := hbel6.trans (hb7.mono hbel6.size)
          obtain ⟨a0, a1, a2, a3, z0, z1, z2, z3⟩ := fmtAt_heap HX7.out
          go_wp2_with fail
          go_roundw
          case rel => exact ⟨j + 1, n.tmod 60000000, u2 + 1, g.tmod 600000000, U, I, D, t, by omega, by go_num, rfl, rfl, rfl, heap_set HX7.out, (((hbel7.setCell (Nat.le_refl _) _).setCell (Nat.le_refl _) _).setCell (Nat.le_refl _) _).setCell (Nat.le_refl _) _⟩
          case measure => simp [intOf]; omega
      · obtain rfl : j = 2 := by omega
        have hTr : Tab wr := hT.below hbel
        go_wp2_with fail
        with_reducible refine (uawake_any _ hTr).mono ?_
        rintro e w2 ⟨rfl, hb2⟩
        go_wp2_with fail
        go_ret
        exact ⟨rfl, hbel.trans (hb2.mono hbel.size)⟩
end Go.Proofs.YtmclabehdjdpnaaDoor.UnitTells
