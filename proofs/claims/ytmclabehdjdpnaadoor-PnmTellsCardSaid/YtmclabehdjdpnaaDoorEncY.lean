/-
  The walk of pnm.Encode: an image that may be.
-/
import Derived.Test.YtmclabehdjdpnaaDoorEncW
import Derived.Test.YtmclabehdjdpnaaDoorMem
import Derived.Deep.RegionHeld3
namespace Go.Proofs.YtmclabehdjdpnaaDoor.PnmW
open Go.RowKit Go.Proofs.YtmclabehdjdpnaaDoor.Dp Go.Proofs.YtmclabehdjdpnaaDoor.Base Go.Proofs.YtmclabehdjdpnaaDoor.Pp Go.Proofs.YtmclabehdjdpnaaDoor.Mem

theorem keep_start {o : Nat} {w v : World} {W H : Int} {c : Bool} {p : Value} (hb : Below o w v) (hT : Tab v) (hh : v.heap[o]? = some (imgObj W H c p)) :
    v.drew.cell? ⟨o, 0, none⟩ = some (.int .i64 W) ∧ v.drew.cell? ⟨o, 1, none⟩ = some (.int .i64 H) ∧ Tab v.drew ∧ Below o w v.drew ∧ v.drew.heap[o]? = some (imgObj W H c p) := by
  have h : v.drew.heap[o]? = some (imgObj W H c p) := hh
  refine ⟨?_, ?_, hT.drewN 1, hb.drew, h⟩
  · simp [World.cell?, h]
  · simp [World.cell?, h]
theorem keep_below {o : Nat} {w v x : World} {W H : Int} {c : Bool} {p : Value} (hx : Below v.heap.size v x)
    (h : v.cell? ⟨o, 0, none⟩ = some (.int .i64 W) ∧ v.cell? ⟨o, 1, none⟩ = some (.int .i64 H) ∧ Tab v ∧ Below o w v ∧ v.heap[o]? = some (imgObj W H c p)) :
    x.cell? ⟨o, 0, none⟩ = some (.int .i64 W) ∧ x.cell? ⟨o, 1, none⟩ = some (.int .i64 H) ∧ Tab x ∧ Below o w x ∧ x.heap[o]? = some (imgObj W H c p) := by
  obtain ⟨h1, h2, h3, h4, h5⟩ := h
  have hlt : o < v.heap.size := (Array.getElem?_eq_some_iff.1 h5).1
  exact ⟨(hx.cell hlt).trans h1, (hx.cell hlt).trans h2, h3.below hx, h4.trans (hx.mono (Nat.le_of_lt hlt)), (hx.block o hlt).trans h5⟩

theorem imgAt_heap {w : World} {b : Nat} {W H : Int} {c : Bool} {p : Value} (h : w.heap[b]? = some (imgObj W H c p)) :
    w.cell? ⟨b, 0, none⟩ = some (.int .i64 W) ∧ w.cell? ⟨b, 1, none⟩ = some (.int .i64 H) ∧ w.cell? ⟨b, 2, none⟩ = some (.bool c) ∧ w.cell? ⟨b, 3, none⟩ = some p ∧
    w.frozen? ⟨b, 0, none⟩ = false ∧ w.frozen? ⟨b, 1, none⟩ = false ∧ w.frozen? ⟨b, 2, none⟩ = false ∧ w.frozen? ⟨b, 3, none⟩ = false := by
  refine ⟨?_, ?_, ?_, ?_, ?_, ?_, ?_, ?_⟩ <;> simp [World.cell?, World.frozen?, h]
theorem held_tab {o : Nat} {w v : World} {W H : Int} {c : Bool} {p : Value} 
    (h : v.cell? ⟨o, 0, none⟩ = some (.int .i64 W) ∧ v.cell? ⟨o, 1, none⟩ = some (.int .i64 H) ∧ Tab v ∧ Below o w v ∧ v.heap[o]? = some (imgObj W H c p)) : Tab v := h.2.2.1

theorem info_u8 : (Tryd.prog.info? 5).map (fun i => (i.zero, i.size, i.bytes)) = some (some (.int .u8 0), 1, 1) := by kernel_rfl
/-- What Encode returns: the bytes l in new memory. -/
def EncOut (l : List UInt8) (w : World) (e : Ending) (w' : World) : Prop :=
  ∃ g cap : Nat, e = .returned (.tuple #[.slice (some ⟨g, 0, none⟩) l.length cap, .bool true]) ∧ Own w' w.heap.size 5 g cap l ∧ Below w.heap.size w w'
theorem head_of {W H : Int} {c : Bool} {S G A B : ByteArray} (h0 : 1 ≤ W) (h1 : 1 ≤ H) (hS : S.data.toList = G.data.toList ++ (A.data.toList ++ ([32] ++ (B.data.toList ++ endL)))) (hG : G.data.toList = tagL c) (hA : A.data.toList = Lib.itoa W) (hB : B.data.toList = Lib.itoa H) : S.data.toList = headL W.toNat H.toNat c := by
  rw [hS, hG, hA, hB]
  conv => lhs; rw [show W = ((W.toNat : Nat) : Int) by omega, show H = ((H.toNat : Nat) : Int) by omega, Lib.itoa_nonneg, Lib.itoa_nonneg]
  rfl

set_option maxRecDepth 100000 in
set_option maxHeartbeats 1600000 in
theorem enc_yes (W H : Int) (c : Bool) (pa : Option Addr) (n cap : Nat) (pix : List UInt8) (hn : Hid (n = pix.length)) (hY : Hid (sizeV W H c = some n)) (w : World) (hT : Tab w) (hP : RB w pa pix) (hbig : Hid (100 + n ≤ 140737488355328)) :
    Calls Tryd.prog 17 #[imgVal W H c (.slice pa n cap)] w fun e w' => EncOut (headL W.toNat H.toNat c ++ pix) w e w' := by
  have HS : Hid ((sizeV W H c).getD 0 = n ∧ (sizeV W H c).isSome = true) := by show _ ∧ _; rw [hY.out]; exact ⟨rfl, rfl⟩
  have hb : (1 ≤ W ∧ W ≤ 256) ∧ 1 ≤ H ∧ H ≤ 256 := by
    have h := hY.out
    unfold sizeV at h
    split at h
    · assumption
    · cases h
  obtain ⟨⟨hW1, hW2⟩, hH1, hH2⟩ := hb
  obtain ⟨A, hA⟩ := str_ex (Lib.itoa W)
  obtain ⟨B, hB⟩ := str_ex (Lib.itoa H)
  have HA := Lib.hid hA
  have HB := Lib.hid hB
  have hzA : A.size ≤ 20 := by rw [← len_list, hA, show W = ((W.toNat : Nat) : Int) by omega, Lib.itoa_nonneg, Lib.decDigits_length]; exact Lib.nDigits_le20 _ (by omega)
  have hzB : B.size ≤ 20 := by rw [← len_list, hB, show H = ((H.toNat : Nat) : Int) by omega, Lib.itoa_nonneg, Lib.decDigits_length]; exact Lib.nDigits_le20 _ (by omega)
  clear hA hB
  go_enter Tryd.func17, Tryd.ntmps17
  go_wp2_with fail
  with_reducible refine (size_at W H c _ n true HS _).mono ?_
  rintro e w' ⟨rfl, rfl⟩
  obtain ⟨G, hG⟩ := str_ex (tagL c)
  have HG := Lib.hid hG
  have hzG : G.size ≤ 3 := by rw [← len_list, hG]; cases c <;> decide
  clear hG
  go_upto_if 22 with fail
  go_cut [6] (fun a wx => a = .string G ∧ (w.alloc (imgObj W H c (.slice pa n cap))).alloc (imgObj W H c (.slice pa n cap)) = wx)
  case first =>
    cases c with
    | true =>
      obtain rfl : G = ⟨#[80, 54, 10]⟩ := str_eq HG.out
      go_wp2_with fail
      go_meet
      exact ⟨rfl, rfl⟩
    | false =>
      obtain rfl : G = ⟨#[80, 53, 10]⟩ := str_eq HG.out
      go_wp2_with fail
      go_meet
      exact ⟨rfl, rfl⟩
  case rest =>
  obtain ⟨rfl, rfl⟩ := hcut
  have hbel : Below w.heap.size w ((w.alloc (imgObj W H c (.slice pa n cap))).alloc (imgObj W H c (.slice pa n cap))) := ((Below.refl _ _).alloc (Nat.le_refl _) _).alloc (by simp) _
  have hheap : ((w.alloc (imgObj W H c (.slice pa n cap))).alloc (imgObj W H c (.slice pa n cap))).heap[w.heap.size]? = some (imgObj W H c (.slice pa n cap)) := by
    show ((w.heap.push _).push _)[w.heap.size]? = _
    rw [Array.getElem?_push, if_neg (by simp), Array.getElem?_push, if_pos rfl]
  have hT2 : Tab ((w.alloc (imgObj W H c (.slice pa n cap))).alloc (imgObj W H c (.slice pa n cap))) := hT.below hbel
  have KS := Lib.hid (keep_start hbel hT2 hheap)
  clear hbel hheap hT2
  generalize ((w.alloc (imgObj W H c (.slice pa n cap))).alloc (imgObj W H c (.slice pa n cap))) = W2 at KS ⊢
  have s1 : ¬ 9223372036854775807 < A.size + 1 := by omega
  have s2 : ¬ 9223372036854775807 < A.size + 1 + B.size := by omega
  have s3 : ¬ 9223372036854775807 < A.size + 1 + B.size + 5 := by omega
  have s4 : ¬ 9223372036854775807 < G.size + (A.size + 1 + B.size + 5) := by omega
  go_upto_region 7 with fail
  go_cut [6] (fun a wx => ∃ S : ByteArray, a = .string S ∧ S.data.toList = G.data.toList ++ (A.data.toList ++ ([32] ++ (B.data.toList ++ endL))) ∧ Tab wx ∧ Below w.heap.size w wx ∧ wx.heap[w.heap.size]? = some (imgObj W H c (.slice pa n cap)))
  case first =>
    go_region_held3 (fun w' => w'.cell? ⟨w.heap.size, 0, none⟩ = some (.int .i64 W) ∧ w'.cell? ⟨w.heap.size, 1, none⟩ = some (.int .i64 H) ∧ Tab w' ∧ Below w.heap.size w w' ∧ w'.heap[w.heap.size]? = some (imgObj W H c (.slice pa n cap))) ((first | exact KS.out | exact keep_below (by assumption) (by assumption))) (first | (go_at_call 42; refine (itoa_at W (by omega) (by omega) A HA _ (held_tab (by assumption))).mono ?_; rintro e w' ⟨rfl, hbw⟩) | (go_at_call 42; refine (itoa_at H (by omega) (by omega) B HB _ (held_tab (by assumption))).mono ?_; rintro e w' ⟨rfl, hbw⟩))
    rename_i hHeld
    have HH := Lib.hid hHeld
    clear hHeld
    go_wp2_with fail
    go_meet
    exact ⟨_, rfl, by simp [endL], HH.out.2.2.1, HH.out.2.2.2.1, HH.out.2.2.2.2⟩
  case rest =>
  obtain ⟨S, rfl, hSl, hT3, hbel3, hheap3⟩ := hcut
  have hhead := head_of hW1 hH1 hSl HG.out HA.out HB.out
  have hzS : S.size ≤ 100 := by
    rw [← len_list, hSl]
    have q : endL.length = 5 := rfl
    simp only [List.length_append, len_list, List.length_cons, List.length_nil, q]
    omega
  obtain ⟨c0, c1, c2, c3, _, _, _, _⟩ := imgAt_heap hheap3
  obtain ⟨cap0, w1, hconv, hown, hb1, hzw⟩ := conv_bytes (P := Tryd.prog) wc 9 29 5 S Tryd.underlying9 Tryd.underlying29 Tryd.underlying5 (by unfold maxLen; omega)
  rw [hhead] at hown
  have hlt : w.heap.size < wc.heap.size := (Array.getElem?_eq_some_iff.1 hheap3).1
  have hcell : w1.cell? ⟨w.heap.size, 3, none⟩ = some (.slice pa n cap) := (hb1.cell (p := ⟨w.heap.size, 3, none⟩) hlt).trans c3
  have hP1 : RB w1 pa pix := (hP.below hbel3).below hb1
  obtain ⟨i0, hi, hz0, hz1, hz2⟩ := info_parts info_u8
  have HI := Lib.hid (And.intro hi (And.intro hz0 (And.intro hz1 hz2)))
  have HB3 := Lib.hid (And.intro hbel3 hb1)
  have HP1 := Lib.hid hP1
  have HO := Lib.hid hown
  have HLN : Hid (S.size = (headL W.toNat H.toNat c).length) := by show _ = _; rw [← len_list, hhead]
  have HLP : Hid ((headL W.toNat H.toNat c).length + pix.length ≤ 140737488355328) := by
    show _ ≤ _
    rw [← hhead, len_list, ← hn.out]
    have := hbig.out
    omega
  have HNB : Hid (w.heap.size ≤ w1.heap.size) := by show _ ≤ _; rw [hzw]; omega
  clear hhead hown hP1 hb1 hlt hi hz0 hz1 hz2 hSl hT3 hbel3 hheap3 hP hT KS
  go_wp2_with (at_builtin; refine wpList_append_bytes _ rfl _ _ _ rfl w.heap.size 5 i0 Tryd.underlying29 HI.out.1 HI.out.2.1 HI.out.2.2.1 HI.out.2.2.2 wc.heap.size S.size cap0 _ (by rfl) HLN.out (HO.out.mono HB3.out.1.size) pa n cap pix (by rfl) hn.out HP1.out HLP.out HNB.out ?_; intro g' cap' w' hown' hgrow' hor')
  go_ret2
  have hl : S.size + n = (headL W.toNat H.toNat c ++ pix).length := by rw [List.length_append, HLN.out, hn.out]
  refine ⟨g', cap', by rw [hl]; rfl, hown', ?_⟩
  · refine (HB3.out.1.trans (HB3.out.2.mono HB3.out.1.size)).grown hgrow' HNB.out ?_
    intro k hk
    injection hk with hk
    rw [← hk]
    exact HB3.out.1.size
end Go.Proofs.YtmclabehdjdpnaaDoor.PnmW
