/-
  Proved: any image is encoded as the bytes that the document gives, or refused just if it may not be (heliographlaw25.PnmTells returns true). Conditions: the row's own (the package-level tables read as the program's text lays them, tied by the card).
-/
import Derived.Test.YtmclabehdjdpnaaDoorMadeW
import Derived.Test.YtmclabehdjdpnaaDoorRefImgW
import Derived.Test.YtmclabehdjdpnaaDoorOpen
import Derived.ProofKit
import Derived.Lib.SmallJoins
namespace Go.Proofs.YtmclabehdjdpnaaDoor.PnmTells
open Go.ChangeShapes Go.WideShapes Go.ChangeAt Go.WideMaps Go.WideElems Go.RowKit
open Go.Joins (open_agg4)
open Go.Proofs.YtmclabehdjdpnaaDoor.Dp Go.Proofs.YtmclabehdjdpnaaDoor.Base Go.Proofs.YtmclabehdjdpnaaDoor.Mem Go.Proofs.YtmclabehdjdpnaaDoor.Pp Go.Proofs.YtmclabehdjdpnaaDoor.PnmW

theorem one_below {w v : World} {b : Nat} {o : Obj} (h : w.heap[b]? = some o) (hb : Below w.heap.size w v) : v.heap[b]? = some o :=
  (hb.block b (Array.getElem?_eq_some_iff.1 h).1).trans h
/-- The image lies there. -/
structure ImAt (w0 : World) (W H : Int) (c : Bool) (p : Option Addr) (n cp : Nat) (l : List UInt8) (w : World) : Prop where
  h : w.heap[w0.heap.size]? = some (imgObj W H c (.slice p n cp))
  r : RB w p l
  b : Below w0.heap.size w0 w
theorem ImAt.below {w0 w v : World} {W H : Int} {c : Bool} {p : Option Addr} {n cp : Nat} {l : List UInt8} (h : ImAt w0 W H c p n cp l w) (hb : Below w.heap.size w v) : ImAt w0 W H c p n cp l v :=
  ⟨one_below h.h hb, h.r.below hb, h.b.trans (hb.mono h.b.size)⟩
theorem made_bound {W H : Nat} {c : Bool} {n : Nat} (hW : 1 ≤ W ∧ W ≤ 16) (hH : 1 ≤ H ∧ H ≤ 16) (h : sizeV W H c = some n) : n ≤ 768 := by
  unfold sizeV at h
  rw [if_pos (by omega), Int.toNat_natCast, Int.toNat_natCast] at h
  injection h with h
  have h1 : W * H ≤ 16 * 16 := Nat.mul_le_mul hW.2 hH.2
  rw [Nat.mul_assoc] at h
  cases c <;> simp at h <;> omega
theorem im_set {w0 w : World} {W H W' H' : Int} {c c' : Bool} {p p' : Option Addr} {n cp n' cp' : Nat} {l l' : List UInt8} (h : ImAt w0 W H c p n cp l w) (hr : RB w p' l') :
    ImAt w0 W' H' c' p' n' cp' l' ((((w.setCell ⟨w0.heap.size, 0, none⟩ (.int .i64 W')).setCell ⟨w0.heap.size, 1, none⟩ (.int .i64 H')).setCell ⟨w0.heap.size, 2, none⟩ (.bool c')).setCell ⟨w0.heap.size, 3, none⟩ (.slice p' n' cp')) := by
  refine ⟨heap_here (heap_here (heap_here (heap_here h.h 0 _) 1 _) 2 _) 3 _, RB.other hr h.h (fun n => by intro e; cases e) (fun k hk => ?_), (((h.b.setCell (Nat.le_refl _) _).setCell (Nat.le_refl _) _).setCell (Nat.le_refl _) _).setCell (Nat.le_refl _) _⟩
  rw [Below.heap_setCell _ _ _ _ hk, Below.heap_setCell _ _ _ _ hk, Below.heap_setCell _ _ _ _ hk, Below.heap_setCell _ _ _ _ hk]
/-- What the drawn region reads. -/
def Reg (w0 : World) (W H : Int) (c : Bool) (p : Option Addr) (n cp : Nat) (l : List UInt8) (g N cap : Nat) (L : List UInt8) (w : World) : Prop :=
  w.cell? ⟨w0.heap.size, 0, none⟩ = some (.int .i64 W) ∧ w.cell? ⟨w0.heap.size, 1, none⟩ = some (.int .i64 H) ∧ w.cell? ⟨w0.heap.size, 2, none⟩ = some (.bool c) ∧ w.cell? ⟨w0.heap.size, 3, none⟩ = some (.slice p n cp) ∧
  (convert 29 9 (.slice (some ⟨g, 0, none⟩) N cap)).run Tryd.prog w = .ok (.string ⟨L.toArray⟩) w ∧ ImAt w0 W H c p n cp l w ∧ RB w (some ⟨g, 0, none⟩) L
theorem reg_mk {w0 w : World} {W H : Int} {c : Bool} {p : Option Addr} {n cp : Nat} {l : List UInt8} {g N cap : Nat} {L : List UInt8} (hN : N = L.length) (h : ImAt w0 W H c p n cp l w) (hr : RB w (some ⟨g, 0, none⟩) L) : Reg w0 W H c p n cp l g N cap L w := by
  obtain ⟨m0, m1, m2, m3, _⟩ := imgAt_heap h.h
  exact ⟨m0, m1, m2, m3, hr.str _ _ _ Tryd.underlying29 Tryd.underlying5 Tryd.underlying9 N cap hN, h, hr⟩
theorem held_rb {w0 w : World} {W H : Int} {c : Bool} {p : Option Addr} {n cp : Nat} {l : List UInt8} {g N cap : Nat} {L : List UInt8} (h : Reg w0 W H c p n cp l g N cap L w) : RB w p l := h.2.2.2.2.2.1.r
/-- What Image returns, by names. -/
def ImgSaid (L : List UInt8) (N : Nat) (w : World) (e : Ending) (w' : World) : Prop :=
  ∃ g cap : Nat, e = .returned (.slice (some ⟨g, 0, none⟩) N cap) ∧ (convert 29 9 (.slice (some ⟨g, 0, none⟩) N cap)).run Tryd.prog w' = .ok (.string ⟨L.toArray⟩) w' ∧ Below w.heap.size w w'
theorem refimg_said (W H : Int) (c : Bool) (pa : Option Addr) (n cap : Nat) (pix : List UInt8) (hn : Hid (n = pix.length)) (hW1 : 1 ≤ W) (hW2 : W ≤ 256) (hH1 : 1 ≤ H) (hH2 : H ≤ 256) (w : World) (hP : RB w pa pix) (hbig : Hid (100 + n ≤ 140737488355328)) (L : List UInt8) (N : Nat) (hL : Hid (headL W.toNat H.toNat c ++ pix = L)) (hN : Hid (N = L.length)) :
    Calls Tryd.prog 21 #[imgVal W H c (.slice pa n cap)] w (ImgSaid L N w) := by
  refine (refimg_any W H c pa n cap pix hn hW1 hW2 hH1 hH2 w hP hbig).mono fun e w' ⟨g, cap', he, ho, hb⟩ => ?_
  rw [hL.out, ← hN.out] at he
  rw [hL.out] at ho
  exact ⟨g, cap', he, ho.reads.str _ _ _ Tryd.underlying29 Tryd.underlying5 Tryd.underlying9 _ cap' hN.out, hb⟩
theorem reg_below {w0 w v : World} {W H : Int} {c : Bool} {p : Option Addr} {n cp : Nat} {l : List UInt8} {g N cap : Nat} {L : List UInt8} (hN : Hid (N = L.length)) (hb : Below w.heap.size w v) (h : Reg w0 W H c p n cp l g N cap L w) : Reg w0 W H c p n cp l g N cap L v :=
  reg_mk hN.out (h.2.2.2.2.2.1.below hb) (h.2.2.2.2.2.2.below hb)

set_option maxRecDepth 100000 in
set_option maxHeartbeats 1600000 in
theorem walk (W0 H0 : Int) (c0 : Bool) (p0 : Option Addr) (n0 cp0 : Nat) (l0 : List UInt8) (hn0 : Hid (n0 = l0.length)) (w0 h0 : Int) (c : Bool) (seed : Int) (w : World) (hT : Tab w) (hR : RB w p0 l0) :
    Calls Tryd.prog 5 #[imgVal W0 H0 c0 (.slice p0 n0 cp0), .int .i64 w0, .int .i64 h0, .bool c, .int .i64 seed] w fun e w' => e = .returned (.bool true) ∧ Below w.heap.size w w' := by
  have HT := Lib.hid hT
  have HI : Hid (ImAt w W0 H0 c0 p0 n0 cp0 l0 (w.alloc (imgObj W0 H0 c0 (.slice p0 n0 cp0)))) := ⟨heap_alloc_new w _, hR.below ((Below.refl _ _).alloc (Nat.le_refl _) _), (Below.refl _ _).alloc (Nat.le_refl _) _⟩
  clear hT hR
  by_cases hbig : 5000 < (n0 : Int)
  · go_enter Tryd.func5, Tryd.ntmps5
    go_wp2_with fail
    with_reducible refine (awake_any _ (HT.out.alloc _)).mono ?_
    rintro e w1 ⟨rfl, hb1⟩
    go_wp2_with fail
    go_ret
    exact ⟨rfl, ((Below.refl _ _).alloc (Nat.le_refl _) _).trans (hb1.mono (by simp))⟩
  · go_enter Tryd.func5, Tryd.ntmps5
    go_wp2_with fail
    generalize (w.alloc (imgObj W0 H0 c0 (.slice p0 n0 cp0))) = w1 at HI ⊢
    go_loopw [11] (fun i wr => ∃ (k : Nat) (W H : Int) (c : Bool) (p : Option Addr) (n cp : Nat) (l : List UInt8), k ≤ 2 ∧ i = .int .i64 k ∧ Hid (n = l.length) ∧ n ≤ 5000 ∧ Hid (ImAt w W H c p n cp l wr)) (fun i _ => 2 - (intOf i).toNat)
    case atStart => exact ⟨0, W0, H0, c0, p0, n0, cp0, l0, by omega, rfl, hn0, by omega, HI⟩
    case round =>
      obtain ⟨k, W, H, c1, p, n, cp, l, hk2, rfl, hn, hn5, HW⟩ := hrel
      rename_i wr
      clear HI
      have HTr : Hid (Tab wr) := HT.out.below HW.out.b
      by_cases hk : k < 2
      · obtain ⟨m0, m1, m2, m3, _⟩ := imgAt_heap HW.out.h
        by_cases hy : sizeV W H c1 = some n
        · have HY := Lib.hid hy
          have hrg : (1 ≤ W ∧ W ≤ 256) ∧ 1 ≤ H ∧ H ≤ 256 := by
            unfold sizeV at hy
            split at hy
            · assumption
            · cases hy
          obtain ⟨⟨hW1, hW2⟩, hH1, hH2⟩ := hrg
          have HBG : Hid (100 + n ≤ 140737488355328) := by show _ ≤ _; omega
          have HZ : Hid (decide (sizeV W H c1 = some n) = true) := by show _ = _; rw [hy]; simp
          clear hy
          go_wp2_with fail
          with_reducible refine (enc_yes W H c1 p n cp l hn HY _ HTr.out HW.out.r HBG).mono ?_
          obtain ⟨L, hL⟩ : ∃ L, headL W.toNat H.toNat c1 ++ l = L := ⟨_, rfl⟩
          rw [hL]
          rintro e w3 ⟨g, cap, rfl, hown3, hb3⟩
          obtain ⟨N, hN⟩ : ∃ N, L.length = N := ⟨_, rfl⟩
          rw [hN]
          have HLN : Hid (N = L.length) := hN.symm
          have HL := Lib.hid hL
          have HW3 : Hid (ImAt w W H c1 p n cp l w3) := HW.out.below hb3
          have HG3 := Lib.hid hown3.reads
          clear m0 m1 m2 m3 hN hL hown3 hb3
          obtain ⟨m0, m1, m2, m3, _⟩ := imgAt_heap HW3.out.h
          go_wp2_with fail
          with_reducible refine (refok_any W H c1 p n cp hW1 hW2 hH1 hH2 true HZ _).mono ?_
          rintro e w4 ⟨rfl, rfl⟩
          have HW4 : Hid (ImAt w W H c1 p n cp l (w3.alloc (imgObj W H c1 (.slice p n cp)))) := HW3.out.below ((Below.refl _ _).alloc (Nat.le_refl _) _)
          have HG4 : Hid (RB (w3.alloc (imgObj W H c1 (.slice p n cp))) (some ⟨g, 0, none⟩) L) := HG3.out.below ((Below.refl _ _).alloc (Nat.le_refl _) _)
          generalize (w3.alloc (imgObj W H c1 (.slice p n cp))) = w4 at HW4 HG4 ⊢
          clear m0 m1 m2 m3 HW3 HG3
          obtain ⟨m0, m1, m2, m3, _⟩ := imgAt_heap HW4.out.h
          go_upto_region 8 with fail
          go_cut [73] (fun s wx => s = .bool false ∧ ImAt w W H c1 p n cp l wx)
          case first =>
            have HS : Hid (Reg w W H c1 p n cp l g N cap L w4) := reg_mk HLN.out HW4.out HG4.out
            have HS' : Hid (Reg w W H c1 p n cp l g N cap L w4.drew) := reg_below HLN (Below.refl _ _).drew HS.out
            clear m0 m1 m2 m3
            refine wp_region_held_drew (S := fun w' => w'.cell? ⟨w.heap.size, 0, none⟩ = some (.int .i64 W) ∧ w'.cell? ⟨w.heap.size, 1, none⟩ = some (.int .i64 H) ∧ w'.cell? ⟨w.heap.size, 2, none⟩ = some (.bool c1) ∧ w'.cell? ⟨w.heap.size, 3, none⟩ = some (.slice p n cp) ∧ (convert 29 9 (.slice (some ⟨g, 0, none⟩) N cap)).run Tryd.prog w' = .ok (.string ⟨L.toArray⟩) w' ∧ ImAt w W H c1 p n cp l w' ∧ RB w' (some ⟨g, 0, none⟩) L) (by kernel_rfl) HS'.out (fun hHeld => ?_)
            refine wpAnyH_take (i := 0) (v := ?tv0) rfl (by kernel_rfl) (by kernel_rfl) (by kernel_rfl) (fun _ _ _ h => h) (Or.inl ⟨by rfl, ?ty0⟩) (by assumption) ?tr0
            case ty0 =>
              intro w' hSw
              try dsimp only at hSw
              go_simp
              try with_reducible rfl
            simp only [Act.put, List.getElem_toArray, List.getElem_cons_zero, List.setIfInBounds_toArray, List.set_cons_zero, List.set_cons_succ]
            refine wpAnyH_take (i := 1) (v := ?tv1) rfl (by kernel_rfl) (by kernel_rfl) (by kernel_rfl) (fun _ _ _ h => h) (Or.inl ⟨by rfl, ?ty1⟩) (by assumption) ?tr1
            case ty1 =>
              intro w' hSw
              try dsimp only at hSw
              go_simp
              try with_reducible rfl
            simp only [Act.put, List.getElem_toArray, List.getElem_cons_zero, List.getElem_cons_succ, List.setIfInBounds_toArray, List.set_cons_zero, List.set_cons_succ]
            refine wpAnyH_take (i := 2) (v := ?tv2) rfl (by kernel_rfl) (by kernel_rfl) (by kernel_rfl) (fun _ _ _ h => h) (Or.inl ⟨by rfl, ?ty2⟩) (by assumption) ?tr2
            case ty2 =>
              intro w' hSw
              try dsimp only at hSw
              go_simp
              try with_reducible rfl
            simp only [Act.put, List.getElem_toArray, List.getElem_cons_zero, List.getElem_cons_succ, List.setIfInBounds_toArray, List.set_cons_zero, List.set_cons_succ]
            refine wpAnyH_take (i := 3) (v := ?tv3) rfl (by kernel_rfl) (by kernel_rfl) (by kernel_rfl) (fun _ _ _ h => h) (Or.inl ⟨by rfl, ?ty3⟩) (by assumption) ?tr3
            case ty3 =>
              intro w' hSw
              try dsimp only at hSw
              go_simp
              try with_reducible rfl
            simp only [Act.put, List.getElem_toArray, List.getElem_cons_zero, List.getElem_cons_succ, List.setIfInBounds_toArray, List.set_cons_zero, List.set_cons_succ]
            refine wpAnyH_take (i := 4) (v := ?tv4) rfl (by kernel_rfl) (by kernel_rfl) (by kernel_rfl) (fun _ _ _ h => h) (Or.inl ⟨by rfl, ?ty4⟩) (by assumption) ?tr4
            case ty4 =>
              intro w' hSw
              try dsimp only at hSw
              go_simp
              try with_reducible rfl
            simp only [Act.put, List.getElem_toArray, List.getElem_cons_zero, List.getElem_cons_succ, List.setIfInBounds_toArray, List.set_cons_zero, List.set_cons_succ]
            refine wpAnyH_take (i := 5) (v := ?tv5) rfl (by kernel_rfl) (by kernel_rfl) (by kernel_rfl) (fun _ _ _ h => h) (Or.inl ⟨by rfl, ?ty5⟩) (by assumption) ?tr5
            case ty5 =>
              intro w' hSw
              try dsimp only at hSw
              go_simp
              try with_reducible rfl
            simp only [Act.put, List.getElem_toArray, List.getElem_cons_zero, List.getElem_cons_succ, List.setIfInBounds_toArray, List.set_cons_zero, List.set_cons_succ]
            refine wpAnyH_take (i := 6) (v := ?tv6) rfl (by kernel_rfl) (by kernel_rfl) (by kernel_rfl) (fun _ _ _ h => h) (Or.inl ⟨by rfl, ?ty6⟩) (by assumption) ?tr6
            case ty6 =>
              intro w' hSw
              try dsimp only at hSw
              go_simp
              try with_reducible rfl
            simp only [Act.put, List.getElem_toArray, List.getElem_cons_zero, List.getElem_cons_succ, List.setIfInBounds_toArray, List.set_cons_zero, List.set_cons_succ]
            refine wpAnyH_take (i := 7) (v := ?tv7) rfl (by kernel_rfl) (by kernel_rfl) (by kernel_rfl) (fun _ _ _ h => h) (Or.inl ⟨by rfl, ?ty7⟩) (by assumption) ?tr7
            case ty7 =>
              intro w' hSw
              try dsimp only at hSw
              go_simp
              try with_reducible rfl
            simp only [Act.put, List.getElem_toArray, List.getElem_cons_zero, List.getElem_cons_succ, List.setIfInBounds_toArray, List.set_cons_zero, List.set_cons_succ]
            refine wpAnyH_take (i := 8) (v := ?tv8) rfl (by kernel_rfl) (by kernel_rfl) (by kernel_rfl) (fun _ _ _ h => h) (Or.inl ⟨by rfl, ?ty8⟩) (by assumption) ?tr8
            case ty8 =>
              intro w' hSw
              try dsimp only at hSw
              go_simp
              try with_reducible rfl
            simp only [Act.put, List.getElem_toArray, List.getElem_cons_zero, List.getElem_cons_succ, List.setIfInBounds_toArray, List.set_cons_zero, List.set_cons_succ]
            refine wpAnyH_ready (rs := [9]) (by kernel_rfl) (by simp) ?_
            refine AllReadyH.cons rfl (fun K hK => ?cs9) ?cm9
            case cm9 => exact AllReadyH.nil
            simp only [List.getElem_toArray, List.getElem_cons_zero, List.getElem_cons_succ]
            go_simp
            refine (refimg_said W H c1 p n cp l hn hW1 hW2 hH1 hH2 _ (held_rb hHeld) HBG L N HL HLN).mono ?_
            rintro e w5 ⟨g5, cap5, rfl, s5, hb5⟩
            refine hK.out _ _ (reg_below HLN hb5 hHeld) (fun hHeld5 => ?_)
            clear hK K
            refine wpAnyH_ready (rs := [10]) (by kernel_rfl) (by simp) ?_
            refine AllReadyH.cons rfl (fun K hK => ?cs10) ?cm10
            case cm10 => exact AllReadyH.nil
            simp only [List.getElem_toArray, List.getElem_cons_zero, List.getElem_cons_succ]
            go_simp
            refine hK.out _ _ hHeld5 (fun hHeld6 => ?_)
            clear hK K hHeld5
            refine wpAnyH_take (i := 11) (v := ?tv11) rfl (by kernel_rfl) (by kernel_rfl) (by kernel_rfl) (fun _ _ _ h => h) (Or.inl ⟨by rfl, ?ty11⟩) (by assumption) ?tr11
            case ty11 =>
              intro w' hSw
              try dsimp only at hSw
              go_simp
              try with_reducible rfl
            simp only [Act.put, List.getElem_toArray, List.getElem_cons_zero, List.getElem_cons_succ, List.setIfInBounds_toArray, List.set_cons_zero, List.set_cons_succ]
            refine wpAnyH_take (i := 12) (v := ?tv12) rfl (by kernel_rfl) (by kernel_rfl) (by kernel_rfl) (fun _ _ _ h => h) (Or.inl ⟨by rfl, ?ty12⟩) (by assumption) ?tr12
            case ty12 =>
              intro w' hSw
              try dsimp only at hSw
              go_simp
              try with_reducible rfl
            simp only [Act.put, List.getElem_toArray, List.getElem_cons_zero, List.getElem_cons_succ, List.setIfInBounds_toArray, List.set_cons_zero, List.set_cons_succ]
            refine wpAnyH_take (i := 13) (v := ?tv13) rfl (by kernel_rfl) (by kernel_rfl) (by kernel_rfl) (fun _ _ _ h => h) (Or.inl ⟨by rfl, ?ty13⟩) (by assumption) ?tr13
            case ty13 =>
              intro w' hSw
              try dsimp only at hSw
              go_simp
              try with_reducible rfl
            simp only [Act.put, List.getElem_toArray, List.getElem_cons_zero, List.getElem_cons_succ, List.setIfInBounds_toArray, List.set_cons_zero, List.set_cons_succ]
            refine wpAnyH_take (i := 14) (v := ?tv14) rfl (by kernel_rfl) (by kernel_rfl) (by kernel_rfl) (fun _ _ _ h => h) (Or.inl ⟨by rfl, ?ty14⟩) (by assumption) ?tr14
            case ty14 =>
              intro w' hSw
              try dsimp only at hSw
              go_simp
              try with_reducible rfl
            simp only [Act.put, List.getElem_toArray, List.getElem_cons_zero, List.getElem_cons_succ, List.setIfInBounds_toArray, List.set_cons_zero, List.set_cons_succ]
            refine wpAnyH_take (i := 15) (v := ?tv15) rfl (by kernel_rfl) (by kernel_rfl) (by kernel_rfl) (fun _ _ _ h => h) (Or.inl ⟨by rfl, ?ty15⟩) (by assumption) ?tr15
            case ty15 =>
              intro w' hSw
              try dsimp only at hSw
              go_simp
              try with_reducible rfl
            simp only [Act.put, List.getElem_toArray, List.getElem_cons_zero, List.getElem_cons_succ, List.setIfInBounds_toArray, List.set_cons_zero, List.set_cons_succ]
            refine wpAnyH_take (i := 16) (v := ?tv16) rfl (by kernel_rfl) (by kernel_rfl) (by kernel_rfl) (fun _ _ _ h => h) (Or.inl ⟨by rfl, ?ty16⟩) (by assumption) ?tr16
            case ty16 =>
              intro w' hSw
              try dsimp only at hSw
              go_simp
              try with_reducible rfl
            simp only [Act.put, List.getElem_toArray, List.getElem_cons_zero, List.getElem_cons_succ, List.setIfInBounds_toArray, List.set_cons_zero, List.set_cons_succ]
            refine wpAnyH_take (i := 17) (v := ?tv17) rfl (by kernel_rfl) (by kernel_rfl) (by kernel_rfl) (fun _ _ _ h => h) (Or.inl ⟨by rfl, ?ty17⟩) (by assumption) ?tr17
            case ty17 =>
              intro w' hSw
              try dsimp only at hSw
              go_simp
              try with_reducible rfl
            simp only [Act.put, List.getElem_toArray, List.getElem_cons_zero, List.getElem_cons_succ, List.setIfInBounds_toArray, List.set_cons_zero, List.set_cons_succ]
            refine wpAnyH_take (i := 18) (v := undef) rfl (by kernel_rfl) (by kernel_rfl) (by kernel_rfl) (fun _ _ _ h => h) (Or.inr ⟨by rfl, rfl⟩) (by assumption) ?_
            simp only [Act.put, List.getElem_toArray, List.getElem_cons_zero, List.getElem_cons_succ, List.setIfInBounds_toArray, List.set_cons_zero, List.set_cons_succ]
            refine wpAnyH_take (i := 19) (v := undef) rfl (by kernel_rfl) (by kernel_rfl) (by kernel_rfl) (fun _ _ _ h => h) (Or.inr ⟨by rfl, rfl⟩) (by assumption) ?_
            simp only [Act.put, List.getElem_toArray, List.getElem_cons_zero, List.getElem_cons_succ, List.setIfInBounds_toArray, List.set_cons_zero, List.set_cons_succ]
            refine wpAnyH_take (i := 20) (v := undef) rfl (by kernel_rfl) (by kernel_rfl) (by kernel_rfl) (fun _ _ _ h => h) (Or.inr ⟨by rfl, rfl⟩) (by assumption) ?_
            simp only [Act.put, List.getElem_toArray, List.getElem_cons_zero, List.getElem_cons_succ, List.setIfInBounds_toArray, List.set_cons_zero, List.set_cons_succ]
            refine wpAnyH_take (i := 21) (v := ?tv21) rfl (by kernel_rfl) (by kernel_rfl) (by kernel_rfl) (fun _ _ _ h => h) (Or.inl ⟨by rfl, ?ty21⟩) (by assumption) ?tr21
            case ty21 =>
              intro w' hSw
              try dsimp only at hSw
              go_simp
              try with_reducible rfl
            simp only [Act.put, List.getElem_toArray, List.getElem_cons_zero, List.getElem_cons_succ, List.setIfInBounds_toArray, List.set_cons_zero, List.set_cons_succ]
            refine wpAnyH_take (i := 22) (v := ?tv22) rfl (by kernel_rfl) (by kernel_rfl) (by kernel_rfl) (fun _ _ _ h => h) (Or.inl ⟨by rfl, ?ty22⟩) (by assumption) ?tr22
            case ty22 =>
              intro w' hSw
              try dsimp only at hSw
              go_simp
              try with_reducible rfl
            simp only [Act.put, List.getElem_toArray, List.getElem_cons_zero, List.getElem_cons_succ, List.setIfInBounds_toArray, List.set_cons_zero, List.set_cons_succ]
            refine wpAnyH_done (by kernel_rfl) ?_ _
            go_wp2_with fail
            go_meet
            exact ⟨rfl, hHeld6.2.2.2.2.2.1⟩
          case rest =>
            obtain ⟨rfl, HW5⟩ := hcut
            have HV5 := Lib.hid HW5
            clear HW5
            go_wp2_with fail
            with_reducible refine (made_any w0 h0 c seed _).mono ?_
            rintro e w6 ⟨W', H', p', d', l', he, hW', hH', hsz', hRl', hld', hdm', hb6⟩
            obtain ⟨n', hn'⟩ : ∃ n', l'.length = n' := ⟨_, rfl⟩
            rw [hn'] at he hsz'
            subst he
            have HN' : Hid (n' = l'.length) := hn'.symm
            have hn5' : n' ≤ 5000 := by have := made_bound hW' hH' hsz'; omega
            have HV6 : Hid (ImAt w W H c1 p n cp l w6) := HV5.out.below hb6
            have HS6 : Hid (ImAt w W' H' c p' n' d' l' ((((w6.setCell ⟨w.heap.size, 0, none⟩ (.int .i64 W')).setCell ⟨w.heap.size, 1, none⟩ (.int .i64 H')).setCell ⟨w.heap.size, 2, none⟩ (.bool c)).setCell ⟨w.heap.size, 3, none⟩ (.slice p' n' d'))) := im_set HV6.out hRl'
            obtain ⟨x0, x1, x2, x3, y0, y1, y2, y3⟩ := imgAt_heap HV6.out.h
            clear hn' hsz' hRl' hb6 hdm' hld'
            go_wp2_with fail
            go_roundw
            case rel => exact ⟨k + 1, W', H', c, p', n', d', l', by omega, by go_num, HN', hn5', HS6⟩
            case measure => simp [intOf]; omega
        · have HNO := Lib.hid hy
          have HZ : Hid (decide (sizeV W H c1 = some n) = false) := by show _ = _; rw [decide_eq_false_iff_not]; exact hy
          clear hy
          by_cases g1 : 1 ≤ W
          · by_cases g2 : W ≤ 256
            · by_cases g3 : 1 ≤ H
              · by_cases g4 : H ≤ 256
                · skip
                  go_wp2_with fail
                  with_reducible refine (enc_no W H c1 p n cp HNO _).mono ?_
                  rintro e w3 ⟨rfl, hb3⟩
                  have HW3 : Hid (ImAt w W H c1 p n cp l w3) := HW.out.below hb3
                  clear m0 m1 m2 m3 hb3
                  obtain ⟨m0, m1, m2, m3, _⟩ := imgAt_heap HW3.out.h
                  go_wp2_with fail
                  with_reducible refine (refok_any W H c1 p n cp g1 g2 g3 g4 false HZ _).mono ?_
                  rintro e w4 ⟨rfl, rfl⟩
                  have WQ : Hid (ImAt w W H c1 p n cp l (w3.alloc (imgObj W H c1 (.slice p n cp)))) := HW3.out.below ((Below.refl _ _).alloc (Nat.le_refl _) _)
                  clear m0 m1 m2 m3
                  generalize (w3.alloc (imgObj W H c1 (.slice p n cp))) = w4 at WQ ⊢
                  go_upto_region 8 with fail
                  go_cut [73] (fun s wx => s = .bool false ∧ ImAt w W H c1 p n cp l wx)
                  case first =>
                    go_quiet (fail)
                    go_wp2_with fail
                    go_meet
                    exact ⟨rfl, WQ.out.below (below_drewN (Below.refl _ _) _)⟩
                  case rest =>
                    obtain ⟨rfl, HW5⟩ := hcut
                    have HV5 := Lib.hid HW5
                    clear HW5
                    go_wp2_with fail
                    with_reducible refine (made_any w0 h0 c seed _).mono ?_
                    rintro e w6 ⟨W', H', p', d', l', he, hW', hH', hsz', hRl', hld', hdm', hb6⟩
                    obtain ⟨n', hn'⟩ : ∃ n', l'.length = n' := ⟨_, rfl⟩
                    rw [hn'] at he hsz'
                    subst he
                    have HN' : Hid (n' = l'.length) := hn'.symm
                    have hn5' : n' ≤ 5000 := by have := made_bound hW' hH' hsz'; omega
                    have HV6 : Hid (ImAt w W H c1 p n cp l w6) := HV5.out.below hb6
                    have HS6 : Hid (ImAt w W' H' c p' n' d' l' ((((w6.setCell ⟨w.heap.size, 0, none⟩ (.int .i64 W')).setCell ⟨w.heap.size, 1, none⟩ (.int .i64 H')).setCell ⟨w.heap.size, 2, none⟩ (.bool c)).setCell ⟨w.heap.size, 3, none⟩ (.slice p' n' d'))) := im_set HV6.out hRl'
                    obtain ⟨x0, x1, x2, x3, y0, y1, y2, y3⟩ := imgAt_heap HV6.out.h
                    clear hn' hsz' hRl' hb6 hdm' hld'
                    go_wp2_with fail
                    go_roundw
                    case rel => exact ⟨k + 1, W', H', c, p', n', d', l', by omega, by go_num, HN', hn5', HS6⟩
                    case measure => simp [intOf]; omega
                · skip
                  go_wp2_with fail
                  with_reducible refine (enc_no W H c1 p n cp HNO _).mono ?_
                  rintro e w3 ⟨rfl, hb3⟩
                  have HW3 : Hid (ImAt w W H c1 p n cp l w3) := HW.out.below hb3
                  clear m0 m1 m2 m3 hb3
                  obtain ⟨m0, m1, m2, m3, _⟩ := imgAt_heap HW3.out.h
                  have WQ := HW3
                  go_upto_region 8 with fail
                  go_cut [73] (fun s wx => s = .bool false ∧ ImAt w W H c1 p n cp l wx)
                  case first =>
                    go_quiet (fail)
                    go_wp2_with fail
                    go_meet
                    exact ⟨rfl, WQ.out.below (below_drewN (Below.refl _ _) _)⟩
                  case rest =>
                    obtain ⟨rfl, HW5⟩ := hcut
                    have HV5 := Lib.hid HW5
                    clear HW5
                    go_wp2_with fail
                    with_reducible refine (made_any w0 h0 c seed _).mono ?_
                    rintro e w6 ⟨W', H', p', d', l', he, hW', hH', hsz', hRl', hld', hdm', hb6⟩
                    obtain ⟨n', hn'⟩ : ∃ n', l'.length = n' := ⟨_, rfl⟩
                    rw [hn'] at he hsz'
                    subst he
                    have HN' : Hid (n' = l'.length) := hn'.symm
                    have hn5' : n' ≤ 5000 := by have := made_bound hW' hH' hsz'; omega
                    have HV6 : Hid (ImAt w W H c1 p n cp l w6) := HV5.out.below hb6
                    have HS6 : Hid (ImAt w W' H' c p' n' d' l' ((((w6.setCell ⟨w.heap.size, 0, none⟩ (.int .i64 W')).setCell ⟨w.heap.size, 1, none⟩ (.int .i64 H')).setCell ⟨w.heap.size, 2, none⟩ (.bool c)).setCell ⟨w.heap.size, 3, none⟩ (.slice p' n' d'))) := im_set HV6.out hRl'
                    obtain ⟨x0, x1, x2, x3, y0, y1, y2, y3⟩ := imgAt_heap HV6.out.h
                    clear hn' hsz' hRl' hb6 hdm' hld'
                    go_wp2_with fail
                    go_roundw
                    case rel => exact ⟨k + 1, W', H', c, p', n', d', l', by omega, by go_num, HN', hn5', HS6⟩
                    case measure => simp [intOf]; omega
              · skip
                go_wp2_with fail
                with_reducible refine (enc_no W H c1 p n cp HNO _).mono ?_
                rintro e w3 ⟨rfl, hb3⟩
                have HW3 : Hid (ImAt w W H c1 p n cp l w3) := HW.out.below hb3
                clear m0 m1 m2 m3 hb3
                obtain ⟨m0, m1, m2, m3, _⟩ := imgAt_heap HW3.out.h
                have WQ := HW3
                go_upto_region 8 with fail
                go_cut [73] (fun s wx => s = .bool false ∧ ImAt w W H c1 p n cp l wx)
                case first =>
                  go_quiet (fail)
                  go_wp2_with fail
                  go_meet
                  exact ⟨rfl, WQ.out.below (below_drewN (Below.refl _ _) _)⟩
                case rest =>
                  obtain ⟨rfl, HW5⟩ := hcut
                  have HV5 := Lib.hid HW5
                  clear HW5
                  go_wp2_with fail
                  with_reducible refine (made_any w0 h0 c seed _).mono ?_
                  rintro e w6 ⟨W', H', p', d', l', he, hW', hH', hsz', hRl', hld', hdm', hb6⟩
                  obtain ⟨n', hn'⟩ : ∃ n', l'.length = n' := ⟨_, rfl⟩
                  rw [hn'] at he hsz'
                  subst he
                  have HN' : Hid (n' = l'.length) := hn'.symm
                  have hn5' : n' ≤ 5000 := by have := made_bound hW' hH' hsz'; omega
                  have HV6 : Hid (ImAt w W H c1 p n cp l w6) := HV5.out.below hb6
                  have HS6 : Hid (ImAt w W' H' c p' n' d' l' ((((w6.setCell ⟨w.heap.size, 0, none⟩ (.int .i64 W')).setCell ⟨w.heap.size, 1, none⟩ (.int .i64 H')).setCell ⟨w.heap.size, 2, none⟩ (.bool c)).setCell ⟨w.heap.size, 3, none⟩ (.slice p' n' d'))) := im_set HV6.out hRl'
                  obtain ⟨x0, x1, x2, x3, y0, y1, y2, y3⟩ := imgAt_heap HV6.out.h
                  clear hn' hsz' hRl' hb6 hdm' hld'
                  go_wp2_with fail
                  go_roundw
                  case rel => exact ⟨k + 1, W', H', c, p', n', d', l', by omega, by go_num, HN', hn5', HS6⟩
                  case measure => simp [intOf]; omega
            · skip
              go_wp2_with fail
              with_reducible refine (enc_no W H c1 p n cp HNO _).mono ?_
              rintro e w3 ⟨rfl, hb3⟩
              have HW3 : Hid (ImAt w W H c1 p n cp l w3) := HW.out.below hb3
              clear m0 m1 m2 m3 hb3
              obtain ⟨m0, m1, m2, m3, _⟩ := imgAt_heap HW3.out.h
              have WQ := HW3
              go_upto_region 8 with fail
              go_cut [73] (fun s wx => s = .bool false ∧ ImAt w W H c1 p n cp l wx)
              case first =>
                go_quiet (fail)
                go_wp2_with fail
                go_meet
                exact ⟨rfl, WQ.out.below (below_drewN (Below.refl _ _) _)⟩
              case rest =>
                obtain ⟨rfl, HW5⟩ := hcut
                have HV5 := Lib.hid HW5
                clear HW5
                go_wp2_with fail
                with_reducible refine (made_any w0 h0 c seed _).mono ?_
                rintro e w6 ⟨W', H', p', d', l', he, hW', hH', hsz', hRl', hld', hdm', hb6⟩
                obtain ⟨n', hn'⟩ : ∃ n', l'.length = n' := ⟨_, rfl⟩
                rw [hn'] at he hsz'
                subst he
                have HN' : Hid (n' = l'.length) := hn'.symm
                have hn5' : n' ≤ 5000 := by have := made_bound hW' hH' hsz'; omega
                have HV6 : Hid (ImAt w W H c1 p n cp l w6) := HV5.out.below hb6
                have HS6 : Hid (ImAt w W' H' c p' n' d' l' ((((w6.setCell ⟨w.heap.size, 0, none⟩ (.int .i64 W')).setCell ⟨w.heap.size, 1, none⟩ (.int .i64 H')).setCell ⟨w.heap.size, 2, none⟩ (.bool c)).setCell ⟨w.heap.size, 3, none⟩ (.slice p' n' d'))) := im_set HV6.out hRl'
                obtain ⟨x0, x1, x2, x3, y0, y1, y2, y3⟩ := imgAt_heap HV6.out.h
                clear hn' hsz' hRl' hb6 hdm' hld'
                go_wp2_with fail
                go_roundw
                case rel => exact ⟨k + 1, W', H', c, p', n', d', l', by omega, by go_num, HN', hn5', HS6⟩
                case measure => simp [intOf]; omega
          · skip
            go_wp2_with fail
            with_reducible refine (enc_no W H c1 p n cp HNO _).mono ?_
            rintro e w3 ⟨rfl, hb3⟩
            have HW3 : Hid (ImAt w W H c1 p n cp l w3) := HW.out.below hb3
            clear m0 m1 m2 m3 hb3
            obtain ⟨m0, m1, m2, m3, _⟩ := imgAt_heap HW3.out.h
            have WQ := HW3
            go_upto_region 8 with fail
            go_cut [73] (fun s wx => s = .bool false ∧ ImAt w W H c1 p n cp l wx)
            case first =>
              go_quiet (fail)
              go_wp2_with fail
              go_meet
              exact ⟨rfl, WQ.out.below (below_drewN (Below.refl _ _) _)⟩
            case rest =>
              obtain ⟨rfl, HW5⟩ := hcut
              have HV5 := Lib.hid HW5
              clear HW5
              go_wp2_with fail
              with_reducible refine (made_any w0 h0 c seed _).mono ?_
              rintro e w6 ⟨W', H', p', d', l', he, hW', hH', hsz', hRl', hld', hdm', hb6⟩
              obtain ⟨n', hn'⟩ : ∃ n', l'.length = n' := ⟨_, rfl⟩
              rw [hn'] at he hsz'
              subst he
              have HN' : Hid (n' = l'.length) := hn'.symm
              have hn5' : n' ≤ 5000 := by have := made_bound hW' hH' hsz'; omega
              have HV6 : Hid (ImAt w W H c1 p n cp l w6) := HV5.out.below hb6
              have HS6 : Hid (ImAt w W' H' c p' n' d' l' ((((w6.setCell ⟨w.heap.size, 0, none⟩ (.int .i64 W')).setCell ⟨w.heap.size, 1, none⟩ (.int .i64 H')).setCell ⟨w.heap.size, 2, none⟩ (.bool c)).setCell ⟨w.heap.size, 3, none⟩ (.slice p' n' d'))) := im_set HV6.out hRl'
              obtain ⟨x0, x1, x2, x3, y0, y1, y2, y3⟩ := imgAt_heap HV6.out.h
              clear hn' hsz' hRl' hb6 hdm' hld'
              go_wp2_with fail
              go_roundw
              case rel => exact ⟨k + 1, W', H', c, p', n', d', l', by omega, by go_num, HN', hn5', HS6⟩
              case measure => simp [intOf]; omega
      · obtain rfl : k = 2 := by omega
        go_wp2_with fail
        with_reducible refine (awake_any _ HTr.out).mono ?_
        rintro e v4 ⟨rfl, hv4⟩
        have HV4 := Lib.hid hv4
        clear hv4
        go_wp2_with fail
        go_ret
        exact ⟨rfl, HW.out.b.trans (HV4.out.mono HW.out.b.size)⟩
end Go.Proofs.YtmclabehdjdpnaaDoor.PnmTells
