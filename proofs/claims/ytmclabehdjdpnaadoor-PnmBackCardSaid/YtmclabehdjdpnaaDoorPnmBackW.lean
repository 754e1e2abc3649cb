/-
  Proved: an image of numbers is decoded as it was encoded; with one byte more or less it is none; whatever bytes are decoded, an image is encoded as the same bytes, and what is none gives the empty image (heliographlaw25.PnmBack returns true). Conditions: the row's own (the package-level tables read as the program's text lays them, tied by the card).
-/
import Derived.Test.YtmclabehdjdpnaaDoorMadeW
import Derived.Test.YtmclabehdjdpnaaDoorBits
import Derived.Test.YtmclabehdjdpnaaDoorOpen
import Derived.ProofKit
namespace Go.Proofs.YtmclabehdjdpnaaDoor.PnmBack
open Go.ChangeShapes Go.WideShapes Go.ChangeAt Go.WideMaps Go.WideElems Go.RowKit
open Go.Proofs.YtmclabehdjdpnaaDoor.Dp Go.Proofs.YtmclabehdjdpnaaDoor.Base Go.Proofs.YtmclabehdjdpnaaDoor.Mem Go.Proofs.YtmclabehdjdpnaaDoor.Pp Go.Proofs.YtmclabehdjdpnaaDoor.PnmW

theorem one_below {w v : World} {b : Nat} {o : Obj} (h : w.heap[b]? = some o) (hb : Below w.heap.size w v) : v.heap[b]? = some o :=
  (hb.block b (Array.getElem?_eq_some_iff.1 h).1).trans h
theorem xor8 (a b : Int) : ∃ x : UInt8, bits .xor .u8 a b = (x.toNat : Int) := by
  have h : 0 ≤ bits .xor .u8 a b ∧ bits .xor .u8 a b < 256 := by
    show 0 ≤ IntKind.u8.wrap _ ∧ IntKind.u8.wrap _ < 256
    rw [IntKind.wrap_u8]
    omega
  exact ⟨UInt8.ofNat (bits .xor .u8 a b).toNat, by rw [UInt8.toNat_ofNat', Nat.mod_eq_of_lt (by omega)]; omega⟩
theorem own_empty' {e : TypeId} (w : World) (g : Nat) (hg : g = w.heap.size) : Own (w.alloc (.cells #[] e)) g e g 0 [] := by
  subst hg
  exact ⟨#[], (0, 0), Nat.le_refl _, heap_alloc_new w _, .inl rfl, Nat.le_refl _, Nat.zero_le _, rfl, rfl⟩
theorem own_empty {B : Nat} {e : TypeId} (w : World) (hB : B ≤ w.heap.size) : Own (w.alloc (.cells #[] e)) B e w.heap.size 0 [] :=
  ⟨#[], (0, 0), hB, heap_alloc_new w _, .inl rfl, Nat.le_refl _, Nat.zero_le _, rfl, rfl⟩
theorem head_le {W H : Nat} (hW : W ≤ 256) (hH : H ≤ 256) (c : Bool) : 1 ≤ (headL W H c).length ∧ (headL W H c).length ≤ 50 := by
  have h1 := Lib.nDigits_le20 W (by omega)
  have h2 := Lib.nDigits_le20 H (by omega)
  have h3 := Lib.decDigits_length W
  have h4 := Lib.decDigits_length H
  have h5 : (tagL c).length = 3 := by cases c <;> rfl
  have h6 : endL.length = 5 := rfl
  unfold headL
  simp only [List.length_append, List.length_cons, List.length_nil]
  omega

set_option maxRecDepth 100000 in
set_option maxHeartbeats 6400000 in
theorem walk (w0 h0 : Int) (c : Bool) (seed : Int) (pr : Option Addr) (nr cr : Nat) (lr : List UInt8) (hnr : Hid (nr = lr.length)) (hncr : nr ≤ cr) (hcr : cr ≤ maxLen) (at0 : Int) (by0 : UInt8) (w : World) (hT : Tab w) (hR : RB w pr lr) :
    Calls Tryd.prog 6 #[.int .i64 w0, .int .i64 h0, .bool c, .int .i64 seed, .slice pr nr cr, .int .i64 at0, .int .u8 by0.toNat] w fun e w' => e = .returned (.bool true) ∧ Below w.heap.size w w' := by
  unfold maxLen at hcr
  have HT := Lib.hid hT
  have HRR := Lib.hid hR
  clear hT hR
  by_cases hbig : 600 < (nr : Int)
  · go_enter Tryd.func6, Tryd.ntmps6
    go_wp2_with fail
    with_reducible refine (awake_any _ HT.out).mono ?_
    rintro e w1 ⟨rfl, hb1⟩
    go_wp2_with fail
    go_ret
    exact ⟨rfl, hb1⟩
  · go_enter Tryd.func6, Tryd.ntmps6
    go_wp2_with fail
    with_reducible refine (made_any w0 h0 c seed _).mono ?_
    rintro e w1 ⟨W, H, p, d, l, rfl, ⟨hW0, hW1⟩, ⟨hH0, hH1⟩, hsz, hRl, hld, hdm, hb1⟩
    have hl768 : 1 ≤ l.length ∧ l.length ≤ 768 := by
      have := size_bound hsz
      unfold sizeV at hsz
      rw [if_pos (by omega), Int.toNat_natCast, Int.toNat_natCast] at hsz
      injection hsz with hsz
      have h1 : W * H ≤ 16 * 16 := Nat.mul_le_mul hW1 hH1
      rw [Nat.mul_assoc] at hsz
      cases c <;> simp at hsz <;> omega
    obtain ⟨n, hn⟩ : ∃ n, l.length = n := ⟨_, rfl⟩
    rw [hn] at hsz hl768 hld ⊢
    have HN : Hid (n = l.length) := hn.symm
    have HSZ := Lib.hid hsz
    obtain ⟨hl1, hl768⟩ := hl768
    have HB2 : Hid (Below w.heap.size w (w1.alloc (imgObj W H c (.slice p n d)))) := hb1.alloc hb1.size _
    have HM2 : Hid ((w1.alloc (imgObj W H c (.slice p n d))).heap[w1.heap.size]? = some (imgObj W H c (.slice p n d))) := heap_alloc_new w1 _
    have HR2 : Hid (RB (w1.alloc (imgObj W H c (.slice p n d))) p l) := hRl.below ((Below.refl _ _).alloc (Nat.le_refl _) _)
    clear hn hsz hb1 hRl
    go_wp2_with fail
    generalize (w1.alloc (imgObj W H c (.slice p n d))) = w2 at HB2 HM2 HR2 ⊢
    have HBG : Hid (100 + n ≤ 140737488355328) := by show _ ≤ _; omega
    with_reducible refine (enc_yes W H c p n d l HN HSZ _ (HT.out.below HB2.out) HR2.out HBG).mono ?_
    rw [Int.toNat_natCast, Int.toNat_natCast]
    obtain ⟨L, hL⟩ : ∃ L, headL W H c ++ l = L := ⟨_, rfl⟩
    rw [hL]
    have hlen : L.length = (headL W H c).length + n := by rw [← hL, List.length_append, ← HN.out]
    have hhd := head_le (c := c) (W := W) (H := H) (by omega) (by omega)
    have HD : Hid (decV L = some (W, H, c, l)) := by
      show _ = _
      rw [← hL, dec_head ⟨hW0, by omega⟩ ⟨hH0, by omega⟩, ← HN.out, if_pos HSZ.out]
    have HDM : Hid (decV (L ++ [by0]) = none) := by
      show _ = _
      rw [← hL, List.append_assoc, dec_head ⟨hW0, by omega⟩ ⟨hH0, by omega⟩, if_neg]
      rw [HSZ.out, List.length_append, ← HN.out]
      intro e; injection e with e; simp at e
    obtain ⟨N, hN⟩ : ∃ N, L.length = N := ⟨_, rfl⟩
    have HDL : Hid (decV (L.take (N - 1)) = none) := by
      show _ = _
      have e1 : L.take (N - 1) = headL W H c ++ l.take (n - 1) := by
        rw [← hL, List.take_append]
        congr 1
        · rw [List.take_of_length_le (by omega)]
        · congr 1; omega
      rw [e1, dec_head ⟨hW0, by omega⟩ ⟨hH0, by omega⟩, if_neg]
      rw [HSZ.out, List.length_take, ← HN.out]
      intro e; injection e with e; omega
    have hN1 : 2 ≤ N := by omega
    have hN2 : N ≤ 818 := by omega
    have HLN : Hid (N = L.length) := hN.symm
    clear hL hlen hhd hN
    rintro e w3 ⟨g, cap, he, hown3, hb3⟩
    rw [← HLN.out] at he
    subst he
    have hcap := hown3.cap_le
    rw [← HLN.out] at hcap
    obtain ⟨hcap1, hcap2⟩ := hcap
    unfold maxLen at hcap2
    have HB3 : Hid (Below w.heap.size w w3) := HB2.out.trans (hb3.mono HB2.out.size)
    have HM3 : Hid (w3.heap[w1.heap.size]? = some (imgObj W H c (.slice p n d))) := one_below HM2.out hb3
    have HR3 : Hid (RB w3 p l) := HR2.out.below hb3
    have HL3 : Hid (RB w3 (some ⟨g, 0, none⟩) L) := hown3.reads
    clear hown3 hb3 HB2 HM2 HR2
    go_wp2_with fail
    with_reducible refine (dec_yes _ N cap L HLN hcap1 (by unfold maxLen; omega) _ HL3.out W H c l HD).mono ?_
    rintro e w4 ⟨q, d4, he, hr4, hd4, hb4⟩
    rw [← HN.out] at he hd4
    subst he
    have HB5 : Hid (Below w.heap.size w (w4.alloc (imgObj W H c (.slice q n d4)))) := (HB3.out.trans (hb4.mono HB3.out.size)).alloc (Nat.le_trans HB3.out.size hb4.size) _
    have hb45 : Below w3.heap.size w3 (w4.alloc (imgObj W H c (.slice q n d4))) := hb4.alloc hb4.size _
    have HM5 : Hid ((w4.alloc (imgObj W H c (.slice q n d4))).heap[w1.heap.size]? = some (imgObj W H c (.slice p n d))) := one_below HM3.out hb45
    have HQ5 : Hid ((w4.alloc (imgObj W H c (.slice q n d4))).heap[w4.heap.size]? = some (imgObj W H c (.slice q n d4))) := heap_alloc_new w4 _
    have HR5 : Hid (RB (w4.alloc (imgObj W H c (.slice q n d4))) p l) := HR3.out.below hb45
    have HRQ5 : Hid (RB (w4.alloc (imgObj W H c (.slice q n d4))) q l) := hr4.below ((Below.refl _ _).alloc (Nat.le_refl _) _)
    have HL5 : Hid (RB (w4.alloc (imgObj W H c (.slice q n d4))) (some ⟨g, 0, none⟩) L) := HL3.out.below hb45
    obtain ⟨m0, m1, m2, m3, _⟩ := imgAt_heap HM5.out
    obtain ⟨q0, q1, q2, q3, _⟩ := imgAt_heap HQ5.out
    clear hr4 hb4 hb45 HB3 HM3 HR3 HL3
    go_wp2_with fail
    generalize (w4.alloc (imgObj W H c (.slice q n d4))) = w5 at HB5 HM5 HQ5 HR5 HRQ5 HL5 ⊢
    clear m0 m1 m2 m3 q0 q1 q2 q3
    with_reducible refine (same_c W H c q p n n d4 d l HN HN _ HRQ5.out HR5.out).mono ?_
    rintro e w6 ⟨rfl, hb6⟩
    have hN0 : ((N : Int) == 0) = false := by simp; omega
    have HB6 : Hid (Below w.heap.size w w6) := HB5.out.trans (hb6.mono HB5.out.size)
    have HL6 : Hid (RB w6 (some ⟨g, 0, none⟩) L) := HL5.out.below hb6
    have HO6 : Hid (Own (w6.alloc (.cells #[] 5)) w6.heap.size 5 w6.heap.size 0 []) := own_empty w6 (Nat.le_refl _)
    have HA6 : Hid (Below w6.heap.size w6 (w6.alloc (.cells #[] 5))) := (Below.refl _ _).alloc (Nat.le_refl _) _
    have HLA6 : Hid (RB (w6.alloc (.cells #[] 5)) (some ⟨g, 0, none⟩) L) := HL6.out.below ((Below.refl _ _).alloc (Nat.le_refl _) _)
    obtain ⟨i0, hi, hz0, hz1, hz2⟩ := info_parts info_u8
    have HI := Lib.hid (And.intro hi (And.intro hz0 (And.intro hz1 hz2)))
    clear hb6 hi hz0 hz1 hz2 HB5 HM5 HQ5 HR5 HRQ5 HL5
    have HLL : Hid (([] : List UInt8).length + L.length ≤ 140737488355328) := by show _ ≤ _; rw [← HLN.out]; simp; omega
    go_wp2_with (first
      | (at_builtin; refine wpList_append_bytes _ rfl (.tmp 68) (.tmp 69) _ rfl w6.heap.size 5 i0 Tryd.underlying29 HI.out.1 HI.out.2.1 HI.out.2.2.1 HI.out.2.2.2 w6.heap.size 0 0 [] (by rfl) rfl HO6.out (some ⟨g, 0, none⟩) N cap L (by rfl) HLN.out HLA6.out HLL.out HA6.out.size ?_; intro g7 cap7 w7 hown7 hgrow7 hor7; rw [List.nil_append] at hown7; have HO7 := Lib.hid hown7; have HB7 := Lib.hid (HA6.out.grown hgrow7 HA6.out.size (fun k hk => by injection hk with hk; rw [← hk]; exact Nat.le_refl _)); have HG7 := Lib.hid hgrow7; clear hown7 hgrow7 hor7)
      | (at_builtin; refine wpList_append_bytes _ rfl (.tmp 70) (.tmp 72) _ rfl w6.heap.size 5 i0 Tryd.underlying29 HI.out.1 HI.out.2.1 HI.out.2.2.1 HI.out.2.2.2 g7 N cap7 L (by rfl) HLN.out (HO7.out.below ((Below.refl _ _).alloc (Nat.le_refl _) _)) (some ⟨w7.heap.size, 0, none⟩) 1 1 [by0] (by rfl) rfl (RB.lit _ _ _ _ _ rfl _ rfl) (by rw [← HLN.out]; simp; omega) (Nat.le_trans HB7.out.size (by simp)) ?_; intro g8 cap8 w8 hown8 hgrow8 hor8; have HO8 := Lib.hid hown8; have HB8 := Lib.hid ((HB7.out.alloc HB7.out.size (.cells #[.int .u8 by0.toNat] 5)).grown hgrow8 (Nat.le_trans HB7.out.size (by simp)) (fun k hk => by injection hk with hk; rw [← hk]; exact HO7.out.ge)); have HG8 := Lib.hid hgrow8; clear hown8 hgrow8 hor8))
    have hc8 := HO8.out.cap_le
    have HL8 : Hid (N + 1 = (L ++ [by0]).length) := by show _ = _; rw [List.length_append, ← HLN.out]; rfl
    rw [← HL8.out] at hc8
    obtain ⟨hc8a, hc8b⟩ := hc8
    with_reducible refine (dec_no _ (N + 1) cap8 (L ++ [by0]) HL8 hc8a hc8b _ HO8.out.reads HDM).mono ?_
    rintro e w9 ⟨rfl, hb9⟩
    have HB10 : Hid (Below w6.heap.size w6 (w9.alloc (imgObj 0 0 false (.slice none 0 0)))) := (HB8.out.trans (hb9.mono HB8.out.size)).alloc (Nat.le_trans HB8.out.size hb9.size) _
    have HLT : Hid (N - 1 = (L.take (N - 1)).length) := by show _ = _; rw [List.length_take, ← HLN.out]; omega
    clear hb9 hc8a hc8b HA6 HLA6 HO6 HO7 HB7 HG7 HO8 HB8 HG8 HL8 HDM HD
    go_wp2_with fail
    generalize (w9.alloc (imgObj 0 0 false (.slice none 0 0))) = w10 at HB10 ⊢
    have HL10 : Hid (RB w10 (some ⟨g, 0, none⟩) L) := HL6.out.below HB10.out
    with_reducible refine (dec_no _ (N - 1) cap (L.take (N - 1)) HLT (by omega) (by unfold maxLen; omega) _ (HL10.out.take (N - 1)) HDL).mono ?_
    rintro e w11 ⟨rfl, hb11⟩
    have HB12 : Hid (Below w.heap.size w (w11.alloc (imgObj 0 0 false (.slice none 0 0)))) := ((HB6.out.trans (HB10.out.mono HB6.out.size)).trans (hb11.mono (Nat.le_trans HB6.out.size HB10.out.size))).alloc (Nat.le_trans HB6.out.size (Nat.le_trans HB10.out.size hb11.size)) _
    have HL12 : Hid (RB (w11.alloc (imgObj 0 0 false (.slice none 0 0))) (some ⟨g, 0, none⟩) L) := HL10.out.below (hb11.alloc hb11.size _)
    have HO13 : Hid (Own ((w11.alloc (imgObj 0 0 false (.slice none 0 0))).alloc (.cells #[] 5)) (w11.heap.size + 1) 5 (w11.heap.size + 1) 0 []) := own_empty' _ _ (by simp)
    have HA13 : Hid (Below w.heap.size w ((w11.alloc (imgObj 0 0 false (.slice none 0 0))).alloc (.cells #[] 5))) := HB12.out.alloc HB12.out.size _
    have HL13 : Hid (RB ((w11.alloc (imgObj 0 0 false (.slice none 0 0))).alloc (.cells #[] 5)) (some ⟨g, 0, none⟩) L) := HL12.out.below ((Below.refl _ _).alloc (Nat.le_refl _) _)
    have HQ13 : Hid (w.heap.size ≤ w11.heap.size + 1) := by show _ ≤ _; have := HB12.out.size; simpa using this
    obtain ⟨I, hI, hI16⟩ : ∃ I : Nat, bits .and .i64 at0 65535 = (I : Int) ∧ I < 65536 := ⟨(at0 % 65536).toNat, by rw [Bits.and65535]; omega, by omega⟩
    obtain ⟨J, hJ, hJN⟩ : ∃ J : Nat, (I : Int) % (N : Int) = (J : Int) ∧ J < N := ⟨I % N, by simp, Nat.mod_lt _ (by omega)⟩
    have hJL : J < L.length := by rw [← HLN.out]; exact hJN
    obtain ⟨x, hx⟩ := xor8 (L[J].toNat : Int) (by0.toNat : Int)
    obtain ⟨Y, hY⟩ : ∃ Y, (L[J].toNat : Int) = Y := ⟨_, rfl⟩
    rw [hY] at hx
    have HY := Lib.hid hY
    clear hb11 hY
    go_wp2_with (at_builtin; refine wpList_append_bytes _ rfl (.tmp 86) (.tmp 87) _ rfl (w11.heap.size + 1) 5 i0 Tryd.underlying29 HI.out.1 HI.out.2.1 HI.out.2.2.1 HI.out.2.2.2 (w11.heap.size + 1) 0 0 [] (by rfl) rfl HO13.out (some ⟨g, 0, none⟩) N cap L (by rfl) HLN.out HL13.out HLL.out (by simp) ?_; intro g14 cap14 w14 hown14 hgrow14 hor14; rw [List.nil_append] at hown14; have HO14 := Lib.hid hown14; have HB14 := Lib.hid (HA13.out.grown hgrow14 HA13.out.size (fun k hk => by injection hk with hk; rw [← hk]; exact HQ13.out)); have hc14 : w14.cell? ⟨g14, J, none⟩ = some (.int .u8 Y) := (by rw [← HY.out]; have := HO14.out.reads.cell J hJL; rwa [Nat.zero_add] at this); have hf14 : w14.frozen? ⟨g14, J, none⟩ = false := HO14.out.unfrozen J (by have := HO14.out.cap_le.1; have := HLN.out; omega); clear hown14 hgrow14 hor14)
    have HB15 : Hid (Below w.heap.size w (w14.setCell ⟨g14, J, none⟩ (.int .u8 (x.toNat : Int)))) := HB14.out.setCell (Nat.le_trans HQ13.out HO14.out.ge) _
    have HX15 : Hid (RB (w14.setCell ⟨g14, J, none⟩ (.int .u8 (x.toNat : Int))) (some ⟨g14, 0, none⟩) (L.set J x)) := (HO14.out.set J x).reads
    have HXN : Hid (N = (L.set J x).length) := by show _ = _; rw [List.length_set]; exact HLN.out
    have hcx : N ≤ cap14 ∧ cap14 ≤ maxLen := by have h := HO14.out.cap_le; rw [← HLN.out] at h; exact h
    obtain ⟨hcx1, hcx2⟩ := hcx
    unfold maxLen at hcx2
    have HR15 : Hid (RB (w14.setCell ⟨g14, J, none⟩ (.int .u8 (x.toNat : Int))) pr lr) := HRR.out.below HB15.out
    clear hc14 hf14
    generalize (w14.setCell ⟨g14, J, none⟩ (.int .u8 (x.toNat : Int))) = w15 at HB15 HX15 HR15 ⊢
    obtain ⟨lx, hlx⟩ : ∃ lx, L.set J x = lx := ⟨_, rfl⟩
    rw [hlx] at HX15 HXN
    clear hlx HO14 HB14 HO13 HA13 HL13 HB12 HL12 HB10 HL10 HLT HDL hx HY hJ hI
    go_loopw [25] (fun i wr => ∃ k : Nat, k ≤ 2 ∧ i = .int .i64 k ∧ Hid (Below w.heap.size w wr ∧ RB wr pr lr ∧ RB wr (some ⟨g14, 0, none⟩) lx)) (fun i _ => 2 - (intOf i).toNat)
    case atStart => exact ⟨0, by omega, rfl, HB15.out, HR15.out, HX15.out⟩
    case round =>
      obtain ⟨k, hk2, rfl, HW⟩ := hrel
      rename_i wr
      clear HB15 HR15 HX15
      by_cases hk : k < 2
      · go_upto_region 15 with fail
        go_cut [26] (fun y wx => ∃ (py : Option Addr) (ny cy : Nat) (ly : List UInt8), y = .slice py ny cy ∧ Hid (ny = ly.length) ∧ ny ≤ cy ∧ cy ≤ 9223372036854775807 ∧ Hid (RB wx py ly ∧ Below w.heap.size w wx ∧ Below wr.heap.size wr wx))
        case first =>
          have hbel : ∀ o, Below w.heap.size w (wr.alloc o) ∧ Below wr.heap.size wr (wr.alloc o) := fun o => ⟨HW.out.1.alloc HW.out.1.size o, (Below.refl _ _).alloc (Nat.le_refl _) o⟩
          have HBL := Lib.hid hbel
          clear hbel
          obtain rfl | rfl : k = 0 ∨ k = 1 := by omega
          · go_wp2_with fail
            go_meet
            exact ⟨pr, nr, cr, lr, rfl, hnr, hncr, by omega, HW.out.2.1.below (HBL.out _).2, (HBL.out _).1, (HBL.out _).2⟩
          · go_wp2_with fail
            go_meet
            exact ⟨some ⟨g14, 0, none⟩, N, cap14, lx, rfl, HXN, by omega, by omega, HW.out.2.2.below (HBL.out _).2, (HBL.out _).1, (HBL.out _).2⟩
        case rest =>
          obtain ⟨py, ny, cy, ly, rfl, hny, hnc, hcy, HC⟩ := hcut
          cases hdv : decV ly with
          | none =>
            have HDV := Lib.hid hdv
            clear hdv
            go_wp2_with fail
            with_reducible refine (dec_no py ny cy ly hny hnc (by unfold maxLen; omega) _ HC.out.1 HDV).mono ?_
            rintro e v1 ⟨rfl, hv1⟩
            go_wp2_with fail
            have HS0 : Hid (sizeV 0 0 false ≠ some 0) := by show _ ≠ _; decide +kernel
            with_reducible refine (enc_no 0 0 false none 0 0 HS0 _).mono ?_
            rintro e v3 ⟨rfl, hv3⟩
            have hz : v3.heap[v1.heap.size]? = some (imgObj 0 0 false (.slice none 0 0)) := one_below (heap_alloc_new v1 _) hv3
            have HV3 : Hid (Below wr.heap.size wr v3) := ((HC.out.2.2.trans (hv1.mono HC.out.2.2.size)).alloc (Nat.le_trans HC.out.2.2.size hv1.size) _).trans (hv3.mono (Nat.le_trans HC.out.2.2.size (Nat.le_trans hv1.size (by simp))))
            obtain ⟨m0, m1, m2, m3, _⟩ := imgAt_heap hz
            clear hv1 hv3 hz
            go_wp2_with fail
            with_reducible refine (same_c 0 0 false none none 0 0 0 0 [] (Lib.hid (Eq.refl _)) (Lib.hid (Eq.refl _)) _ (RB.nil _ _) (RB.nil _ _)).mono ?_
            rintro e v4 ⟨rfl, hv4⟩
            have HV4 : Hid (Below wr.heap.size wr v4) := HV3.out.trans (hv4.mono HV3.out.size)
            clear hv4 m0 m1 m2 m3
            go_wp2_with fail
            go_roundw
            case rel => exact ⟨k + 1, by omega, by go_num, HW.out.1.trans (HV4.out.mono HW.out.1.size), HW.out.2.1.below HV4.out, HW.out.2.2.below HV4.out⟩
            case measure => simp [intOf]; omega
          | some z =>
            obtain ⟨A, B, c', pix⟩ := z
            have HDV := Lib.hid hdv
            have hback := dec_back hdv
            have HLY := Lib.hid hback.1
            have HSZ' := Lib.hid hback.2
            have hpx := size_bound hback.2
            obtain ⟨m, hm⟩ : ∃ m, pix.length = m := ⟨_, rfl⟩
            have HM : Hid (m = pix.length) := hm.symm
            rw [hm] at HSZ' hpx
            have HBG' : Hid (100 + m ≤ 140737488355328) := by show _ ≤ _; omega
            clear hdv hback hpx hm
            go_wp2_with fail
            with_reducible refine (dec_yes py ny cy ly hny hnc (by unfold maxLen; omega) _ HC.out.1 A B c' pix HDV).mono ?_
            rintro e v1 ⟨q', d', he, hq', hd', hv1⟩
            rw [← HM.out] at he hd'
            subst he
            have hV2 : Below wr.heap.size wr (v1.alloc (imgObj A B c' (.slice q' m d'))) := (HC.out.2.2.trans (hv1.mono HC.out.2.2.size)).alloc (Nat.le_trans HC.out.2.2.size hv1.size) _
            have HV2 := Lib.hid hV2
            have HQ2 : Hid (RB (v1.alloc (imgObj A B c' (.slice q' m d'))) q' pix) := hq'.below ((Below.refl _ _).alloc (Nat.le_refl _) _)
            have HY2 : Hid (RB (v1.alloc (imgObj A B c' (.slice q' m d'))) py ly) := HC.out.1.below (hv1.alloc hv1.size _)
            clear hq' hv1 hV2
            go_wp2_with fail
            generalize (v1.alloc (imgObj A B c' (.slice q' m d'))) = v2 at HV2 HQ2 HY2 ⊢
            with_reducible refine (enc_yes A B c' q' m d' pix HM HSZ' _ ((HT.out.below HW.out.1).below HV2.out) HQ2.out HBG').mono ?_
            rintro e v3 ⟨g', cap', he, hown', hv3⟩
            rw [Int.toNat_natCast, Int.toNat_natCast, ← HLY.out, ← hny.out] at he
            rw [Int.toNat_natCast, Int.toNat_natCast, ← HLY.out] at hown'
            subst he
            have s1 := hown'.reads.str (P := Tryd.prog) 29 5 9 Tryd.underlying29 Tryd.underlying5 Tryd.underlying9 ny cap' hny.out
            have s2 := (HY2.out.below hv3).str (P := Tryd.prog) 29 5 9 Tryd.underlying29 Tryd.underlying5 Tryd.underlying9 ny cy hny.out
            obtain ⟨S, hS⟩ : ∃ S, (⟨ly.toArray⟩ : ByteArray) = S := ⟨_, rfl⟩
            rw [hS] at s1 s2
            have HV3 : Hid (Below wr.heap.size wr v3) := HV2.out.trans (hv3.mono HV2.out.size)
            clear hS hown' hv3
            go_wp2_with fail
            go_roundw
            case rel => exact ⟨k + 1, by omega, by go_num, HW.out.1.trans (HV3.out.mono HW.out.1.size), HW.out.2.1.below HV3.out, HW.out.2.2.below HV3.out⟩
            case measure => simp [intOf]; omega
      · obtain rfl : k = 2 := by omega
        go_wp2_with fail
        with_reducible refine (awake_any _ (HT.out.below HW.out.1)).mono ?_
        rintro e v4 ⟨rfl, hv4⟩
        have HV4 := Lib.hid hv4
        clear hv4
        go_wp2_with fail
        go_ret
        exact ⟨rfl, HW.out.1.trans (HV4.out.mono HW.out.1.size)⟩
end Go.Proofs.YtmclabehdjdpnaaDoor.PnmBack
