/-
  The walks of the document's ImageOk and Image.
-/
import Derived.Test.YtmclabehdjdpnaaDoorEncY
import Derived.Test.YtmclabehdjdpnaaDoorRefN
import Derived.Deep.RegionHeld3
namespace Go.Proofs.YtmclabehdjdpnaaDoor.PnmW
open Go.RowKit Go.Proofs.YtmclabehdjdpnaaDoor.Dp Go.Proofs.YtmclabehdjdpnaaDoor.Base Go.Proofs.YtmclabehdjdpnaaDoor.Pp Go.Proofs.YtmclabehdjdpnaaDoor.Mem Go.Proofs.YtmclabehdjdpnaaDoor.DeciW

set_option maxHeartbeats 1600000 in
theorem refok_any (W H : Int) (c : Bool) (p : Option Addr) (k cp : Nat) (hW0 : 1 ≤ W) (hW1 : W ≤ 256) (hH0 : 1 ≤ H) (hH1 : H ≤ 256) (z : Bool) (hz : Hid (decide (sizeV W H c = some k) = z)) (w : World) :
    Calls Tryd.prog 20 #[imgVal W H c (.slice p k cp)] w fun e w' => e = .returned (.bool z) ∧ w.alloc (imgObj W H c (.slice p k cp)) = w' := by
  obtain ⟨a, rfl⟩ : ∃ a : Nat, W = a := ⟨W.toNat, by omega⟩
  obtain ⟨b, rfl⟩ : ∃ b : Nat, H = b := ⟨H.toNat, by omega⟩
  have hAB : a * b ≤ 256 * 256 := Nat.mul_le_mul (by omega) (by omega)
  obtain ⟨N1, hN1⟩ : ∃ N1 : Nat, a * b = N1 := ⟨_, rfl⟩
  have e2 : IntKind.i64.wrap ((a : Int) * (b : Int)) = (N1 : Int) := by
    rw [show (a : Int) * (b : Int) = ((a * b : Nat) : Int) by simp, hN1]; exact IntWalk.i64_in _ (by omega)
  have hN1b : N1 ≤ 65536 := by omega
  have hs : sizeV a b c = some (if c then 3 * N1 else N1) := by
    unfold sizeV
    rw [if_pos (by omega), Int.toNat_natCast, Int.toNat_natCast, ← hN1]
    cases c <;> simp [Nat.mul_assoc]
  have hz2 := hz.out
  rw [hs] at hz2
  have HZ : Hid (decide ((if c then 3 * N1 else N1) = k) = z) := by
    show _ = _
    rw [← hz2]; simp
  clear hs hz2 hz hAB hN1
  cases c with
  | true =>
    have HZ2 : Hid (((k : Int) == 3 * (N1 : Int)) = z) := by
      show _ = _
      rw [← HZ.out, Bool.eq_iff_iff, beq_iff_eq, decide_eq_true_iff]
      simp only [if_true]
      omega
    clear HZ
    cases z with
    | true =>
      have t := HZ2.out
      clear HZ2
      go_enter Tryd.func20, Tryd.ntmps20
      go_wp2_with fail
      go_ret
      exact ⟨rfl, rfl⟩
    | false =>
      have t := HZ2.out
      clear HZ2
      go_enter Tryd.func20, Tryd.ntmps20
      go_wp2_with fail
      go_ret
      exact ⟨rfl, rfl⟩
  | false =>
    have HZ2 : Hid (((k : Int) == (N1 : Int)) = z) := by
      show _ = _
      rw [← HZ.out, Bool.eq_iff_iff, beq_iff_eq, decide_eq_true_iff]
      simp only [Bool.false_eq_true, if_false]
      omega
    clear HZ
    cases z with
    | true =>
      have t := HZ2.out
      clear HZ2
      go_enter Tryd.func20, Tryd.ntmps20
      go_wp2_with fail
      go_ret
      exact ⟨rfl, rfl⟩
    | false =>
      have t := HZ2.out
      clear HZ2
      go_enter Tryd.func20, Tryd.ntmps20
      go_wp2_with fail
      go_ret
      exact ⟨rfl, rfl⟩

/-- A number's numeral. -/
def numS (x : Int) : ByteArray := ⟨(numL x.toNat 1).toArray⟩
theorem numS_any (x : Int) (h0 : 0 ≤ x) (h1 : x ≤ 9223372036854775807) (w : World) :
    Calls Tryd.prog 31 #[.int .i64 x, .int .i64 1] w fun e w' => e = .returned (.string (numS x)) ∧ w' = w :=
  (num_at x.toNat 1 1 rfl (by decide) x (by show _ = _; omega) h0 h1 (numS x) rfl w).mono fun _ _ h => ⟨h.1, h.2.symm⟩
/-- What Image returns: the bytes l in new memory. -/
def ImgOut (l : List UInt8) (w : World) (e : Ending) (w' : World) : Prop :=
  ∃ g cap : Nat, e = .returned (.slice (some ⟨g, 0, none⟩) l.length cap) ∧ Own w' w.heap.size 5 g cap l ∧ Below w.heap.size w w'

set_option maxRecDepth 100000 in
set_option maxHeartbeats 1600000 in
theorem refimg_any (W H : Int) (c : Bool) (pa : Option Addr) (n cap : Nat) (pix : List UInt8) (hn : Hid (n = pix.length)) (hW1 : 1 ≤ W) (hW2 : W ≤ 256) (hH1 : 1 ≤ H) (hH2 : H ≤ 256) (w : World) (hP : RB w pa pix) (hbig : Hid (100 + n ≤ 140737488355328)) :
    Calls Tryd.prog 21 #[imgVal W H c (.slice pa n cap)] w fun e w' => ImgOut (headL W.toNat H.toNat c ++ pix) w e w' := by
  have hA : (numS W).data.toList = numL W.toNat 1 := rfl
  have hB : (numS H).data.toList = numL H.toNat 1 := rfl
  have HA := Lib.hid hA
  have HB := Lib.hid hB
  have hzA : (numS W).size ≤ 20 := by rw [← len_list, hA, numL_one, Lib.decDigits_length]; exact Lib.nDigits_le20 _ (by omega)
  have hzB : (numS H).size ≤ 20 := by rw [← len_list, hB, numL_one, Lib.decDigits_length]; exact Lib.nDigits_le20 _ (by omega)
  obtain ⟨G, hG⟩ := str_ex (tagL c)
  have HG := Lib.hid hG
  have hzG : G.size ≤ 3 := by rw [← len_list, hG]; cases c <;> decide
  have HP := Lib.hid hP
  clear hA hB hG hP
  have s1 : ¬ 9223372036854775807 < G.size + (numS W).size := by omega
  have s2 : ¬ 9223372036854775807 < G.size + (numS W).size + 1 := by omega
  have s3 : ¬ 9223372036854775807 < G.size + (numS W).size + 1 + (numS H).size := by omega
  have s4 : ¬ 9223372036854775807 < G.size + (numS W).size + 1 + (numS H).size + 5 := by omega
  go_enter Tryd.func21, Tryd.ntmps21
  go_upto_if 5 with fail
  go_cut [3] (fun a wx => a = .string G ∧ w.alloc (imgObj W H c (.slice pa n cap)) = wx)
  case first =>
    cases c with
    | true =>
      obtain rfl : G = ⟨#[80, 54, 10]⟩ := str_eq HG.out
      go_wp2_with fail
      go_meet
      exact ⟨rfl, rfl⟩
    | false =>
      obtain rfl : G = ⟨#[80, 53, 10]⟩ := str_eq HG.out
      go_wp2_with fail
      go_meet
      exact ⟨rfl, rfl⟩
  case rest =>
  obtain ⟨rfl, rfl⟩ := hcut
  go_upto_region 4 with fail
  go_cut [3] (fun a wx => ∃ S : ByteArray, a = .string S ∧ S.data.toList = G.data.toList ++ ((numS W).data.toList ++ ([32] ++ ((numS H).data.toList ++ endL))) ∧ Below w.heap.size w wx ∧ wx.heap[w.heap.size]? = some (imgObj W H c (.slice pa n cap)))
  case first =>
    go_quiet ((go_at_call 31; exact Calls.quiet_of_same (numS_any _ (by omega) (by omega) _)))
    go_wp2_with fail
    go_meet
    refine ⟨_, rfl, by simp [endL], below_drewN ((Below.refl _ _).alloc (Nat.le_refl _) _) _, heap_alloc_new w _⟩
  case rest =>
  obtain ⟨S, rfl, hSl, hbel3, hheap3⟩ := hcut
  have hhead : S.data.toList = headL W.toNat H.toNat c := by
    rw [hSl, HG.out, HA.out, HB.out, numL_one, numL_one]; rfl
  have hzS : S.size ≤ 100 := by
    rw [← len_list, hSl]
    have q : endL.length = 5 := rfl
    simp only [List.length_append, len_list, List.length_cons, List.length_nil, q]
    omega
  obtain ⟨c0, c1, c2, c3, _, _, _, _⟩ := imgAt_heap hheap3
  obtain ⟨cap0, w1, hconv, hown, hb1, hzw⟩ := conv_bytes (P := Tryd.prog) wc 9 29 5 S Tryd.underlying9 Tryd.underlying29 Tryd.underlying5 (by unfold maxLen; omega)
  rw [hhead] at hown
  have hlt : w.heap.size < wc.heap.size := (Array.getElem?_eq_some_iff.1 hheap3).1
  have hcell : w1.cell? ⟨w.heap.size, 3, none⟩ = some (.slice pa n cap) := (hb1.cell (p := ⟨w.heap.size, 3, none⟩) hlt).trans c3
  have hP1 : RB w1 pa pix := (HP.out.below hbel3).below hb1
  obtain ⟨i0, hi, hz0, hz1, hz2⟩ := info_parts info_u8
  have HI := Lib.hid (And.intro hi (And.intro hz0 (And.intro hz1 hz2)))
  have HB3 := Lib.hid (And.intro hbel3 hb1)
  have HP1 := Lib.hid hP1
  have HO := Lib.hid hown
  have HLN : Hid (S.size = (headL W.toNat H.toNat c).length) := by show _ = _; rw [← len_list, hhead]
  have HLP : Hid ((headL W.toNat H.toNat c).length + pix.length ≤ 140737488355328) := by
    show _ ≤ _
    rw [← hhead, len_list, ← hn.out]
    have := hbig.out
    omega
  have HNB : Hid (w.heap.size ≤ w1.heap.size) := by show _ ≤ _; rw [hzw]; omega
  clear hhead hown hP1 hb1 hlt hi hz0 hz1 hz2 hSl hbel3 hheap3
  go_wp2_with (at_builtin; refine wpList_append_bytes _ rfl _ _ _ rfl w.heap.size 5 i0 Tryd.underlying29 HI.out.1 HI.out.2.1 HI.out.2.2.1 HI.out.2.2.2 wc.heap.size S.size cap0 _ (by rfl) HLN.out (HO.out.mono HB3.out.1.size) pa n cap pix (by rfl) hn.out HP1.out HLP.out HNB.out ?_; intro g' cap' w' hown' hgrow' hor')
  go_ret
  have hl : S.size + n = (headL W.toNat H.toNat c ++ pix).length := by rw [List.length_append, HLN.out, hn.out]
  refine ⟨g', cap', by rw [hl]; rfl, hown', ?_⟩
  refine (HB3.out.1.trans (HB3.out.2.mono HB3.out.1.size)).grown hgrow' HNB.out ?_
  intro k hk
  injection hk with hk
  rw [← hk]
  exact HB3.out.1.size
end Go.Proofs.YtmclabehdjdpnaaDoor.PnmW
