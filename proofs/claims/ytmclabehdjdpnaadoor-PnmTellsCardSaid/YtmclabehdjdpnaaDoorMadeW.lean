/-
  The walk of the law's Made: an image of numbers.
-/
import Derived.Test.YtmclabehdjdpnaaDoorPnmA
import Derived.Test.YtmclabehdjdpnaaDoorBits
import Derived.OwnWalk
import Derived.Maps.AppendAt
import Derived.Lib.FrozenHead
namespace Go.Proofs.YtmclabehdjdpnaaDoor.PnmW
open Go.RowKit Go.Proofs.YtmclabehdjdpnaaDoor.Dp Go.Proofs.YtmclabehdjdpnaaDoor.Base Go.Proofs.YtmclabehdjdpnaaDoor.Mem Go.Proofs.YtmclabehdjdpnaaDoor.Pp

theorem own_blk_ne {w : World} {g : Nat} {t e : TypeId} {cs : Array Value} {base size n : Nat} {v : Value} {xs : List Value} (h : w.ownsRow base e size v n xs) (hg : w.heap[g]? = some (.cells cs t)) (hne : e ≠ t) : v.ownBlock ≠ some g := by
  rcases h.2 with ⟨rfl, _⟩ | ⟨g', cap, cur, rfl, _, hh, _⟩
  · simp [Value.ownBlock]
  · intro he
    have : g' = g := by simpa [Value.ownBlock] using he
    subst this
    rw [hh] at hg
    injection hg with hg
    injection hg with _ ht
    exact hne ht
theorem ownsRow_setCell_ne {w : World} {base : Nat} {e : TypeId} {size n : Nat} {v : Value} {xs : List Value} (h : w.ownsRow base e size v n xs) {a : Addr} (ha : v.ownBlock ≠ some a.block) (u : Value) : (w.setCell a u).ownsRow base e size v n xs := by
  refine h.kept (w' := w.setCell a u) (row := some a.block) ⟨rfl, rfl, rfl, by simp [World.setCell], fun k hk hne => Below.heap_setCell _ _ _ _ (fun e => hne (by rw [e]))⟩ (.inr ha)
/-- What Made returns: an image that may be. -/
def MadeOut (c : Bool) (w : World) (e : Ending) (w' : World) : Prop :=
  ∃ (W H : Nat) (p : Option Addr) (d : Nat) (l : List UInt8), e = .returned (imgVal W H c (.slice p l.length d)) ∧ (1 ≤ W ∧ W ≤ 16) ∧ (1 ≤ H ∧ H ≤ 16) ∧ sizeV W H c = some l.length ∧ RB w' p l ∧ l.length ≤ d ∧ d ≤ maxLen ∧ Below w.heap.size w w'
/-- The loop's relation. -/
def MadeRel (w0 : World) (W H : Int) (c : Bool) (N : Nat) (i : Value) (w : World) : Prop :=
  ∃ (k : Nat) (v : Value) (l : List UInt8), k ≤ N ∧ i = .int .i64 k ∧ Hid (l.length = k) ∧ w.ownsRow w0.heap.size 5 1 v k (byteVs l) ∧ w.heap[w0.heap.size]? = some (imgObj 0 0 false (.slice none 0 0)) ∧ w.heap[w0.heap.size + 1]? = some (imgObj W H c v) ∧ Below w0.heap.size w0 w

theorem made_step {w0 wr w' : World} {W H : Int} {c : Bool} {o : Obj} {e : TypeId} {n : Nat} {v : Value} {xs : List Value} (hM : wr.heap[w0.heap.size + 1]? = some (imgObj W H c v)) (hR : wr.heap[w0.heap.size]? = some (imgObj 0 0 false (.slice none 0 0))) (hB : Below w0.heap.size w0 wr)
    (hg : (wr.alloc o).grownBy w' v.ownBlock) (hn : v.ownBlock ≠ some (w0.heap.size + 1)) (hn' : v.ownBlock ≠ some w0.heap.size) (hown : wr.ownsRow w0.heap.size e 1 v n xs) :
    w'.heap[w0.heap.size + 1]? = some (imgObj W H c v) ∧ w'.heap[w0.heap.size]? = some (imgObj 0 0 false (.slice none 0 0)) ∧ Below w0.heap.size w0 w' := by
  have l1 := (Array.getElem?_eq_some_iff.1 hM).1
  refine ⟨?_, ?_, ?_⟩
  · rw [hg.block _ (by simp; omega) (Ne.symm hn), Below.heap_alloc _ _ _ l1, hM]
  · rw [hg.block _ (by simp; omega) (Ne.symm hn'), Below.heap_alloc _ _ _ (by omega), hR]
  · exact (hB.alloc hB.size o).grown hg (by simp; omega) (fun k hk => (World.ownsRowF.lt (World.ownsRowF_of hown) k hk).1)

set_option maxRecDepth 100000 in
set_option maxHeartbeats 1600000 in
theorem made_any (w0 h0 : Int) (c : Bool) (seed : Int) (w : World) :
    Calls Tryd.prog 22 #[.int .i64 w0, .int .i64 h0, .bool c, .int .i64 seed] w (MadeOut c w) := by
  obtain ⟨a, ha, ha16⟩ : ∃ a : Nat, bits .and .i64 w0 15 = (a : Int) ∧ a < 16 := ⟨(w0 % 16).toNat, by rw [Bits.and15]; omega, by omega⟩
  obtain ⟨b, hb, hb16⟩ : ∃ b : Nat, bits .and .i64 h0 15 = (b : Int) ∧ b < 16 := ⟨(h0 % 16).toNat, by rw [Bits.and15]; omega, by omega⟩
  have hAB : (a + 1) * (b + 1) ≤ 16 * 16 := Nat.mul_le_mul (by omega) (by omega)
  obtain ⟨N1, hN1⟩ : ∃ N1 : Nat, (a + 1) * (b + 1) = N1 := ⟨_, rfl⟩
  have e2 : IntKind.i64.wrap (((a : Int) + 1) * ((b : Int) + 1)) = (N1 : Int) := by
    rw [show ((a : Int) + 1) * ((b : Int) + 1) = (((a + 1) * (b + 1) : Nat) : Int) by simp, hN1]; exact IntWalk.i64_in _ (by omega)
  have hN1b : N1 ≤ 256 := by omega
  obtain ⟨N, hN⟩ : ∃ N : Nat, (if c then 3 else 1) * (a + 1) * (b + 1) = N := ⟨_, rfl⟩
  have hNc : N = if c then 3 * N1 else N1 := by rw [← hN, ← hN1]; cases c <;> simp [Nat.mul_assoc]
  have hNb : N ≤ 768 := by rw [hNc]; split <;> omega
  have hNp : 1 ≤ N := by
    have : 1 * 1 ≤ (a + 1) * (b + 1) := Nat.mul_le_mul (by omega) (by omega)
    rw [hNc, ← hN1]; split <;> omega
  have HNC := Lib.hid hNc
  have HFN := Lib.hid hN
  clear hNc hN hAB hN1
  obtain ⟨i0, hi, hz0, hz1, hz2⟩ := info_parts info_u8
  have HI := Lib.hid (And.intro hi (And.intro hz0 (And.intro hz1 hz2)))
  clear hi hz0 hz1 hz2
  go_enter Tryd.func22, Tryd.ntmps22
  go_upto_if 25 with fail
  go_cut [10] (fun s wx => s = .int .i64 (N : Int) ∧ wx = (w.alloc (imgObj 0 0 false (.slice none 0 0))).alloc (imgObj ((a : Int) + 1) ((b : Int) + 1) c (.slice none 0 0)))
  case first =>
    cases c with
    | true =>
      have hv : (3 * (N1 : Int)) = (N : Int) := by rw [HNC.out]; simp
      go_wp2_with fail
      go_meet
      exact ⟨rfl, rfl⟩
    | false =>
      obtain rfl : N = N1 := HNC.out
      go_wp2_with fail
      go_meet
      exact ⟨rfl, rfl⟩
  case rest =>
  obtain ⟨rfl, rfl⟩ := hcut
  clear e2
  go_wp2_with fail
  go_loopw [11] (MadeRel w ((a : Int) + 1) ((b : Int) + 1) c N) (fun i _ => N - (intOf i).toNat)
  case atStart =>
    refine ⟨0, .slice none 0 0, [], Nat.zero_le _, rfl, rfl, ⟨rfl, .inl ⟨rfl, rfl⟩⟩, ?_, ?_, ((Below.refl _ _).alloc (Nat.le_refl _) _).alloc (by simp) _⟩
    · show ((w.heap.push _).push _)[w.heap.size]? = _
      rw [Array.getElem?_push, if_neg (by simp), Array.getElem?_push, if_pos rfl]
    · show ((w.heap.push _).push _)[w.heap.size + 1]? = _
      rw [Array.getElem?_push, if_pos (by simp)]
  case round =>
    obtain ⟨k, v, l, hk, rfl, hl, hown, hR, hM, hbel⟩ := hrel
    rename_i wr
    obtain ⟨m0, m1, m2, m3, z0, z1, z2, z3⟩ := imgAt_heap hM
    have HO := Lib.hid hown
    have HH := Lib.hid (And.intro hR (And.intro hM hbel))
    clear hown hR hM hbel
    by_cases hlt : k < N
    · obtain ⟨j, hj, hj16⟩ : ∃ j : Nat, bits .and .i64 (k : Int) 15 = (j : Int) ∧ j < 16 := ⟨((k : Int) % 16).toNat, by rw [Bits.and15]; omega, by omega⟩
      obtain ⟨X, hX⟩ : ∃ X, Go.RowKit.wrap64 (seed / 2 ^ j + (k : Int) * 7) % 256 = X := ⟨_, rfl⟩
      have hX0 : 0 ≤ X ∧ X < 256 := by omega
      obtain ⟨hX0, hX1⟩ := hX0
      obtain ⟨x, hx⟩ : ∃ x : UInt8, X = (x.toNat : Int) := ⟨UInt8.ofNat X.toNat, by rw [UInt8.toNat_ofNat', Nat.mod_eq_of_lt (by omega)]; omega⟩
      have HX := Lib.hid hx
      have HXX := Lib.hid hX
      have hnb := own_blk_ne HO.out HH.out.2.1 (by decide)
      clear hx
      go_wp2_with (at_builtin; refine wpList_append_own _ rfl _ _ _ rfl w.heap.size 5 i0 (.int .u8 0) 1 1 Tryd.underlying29 HI.out.1 HI.out.2.1 HI.out.2.2.1 HI.out.2.2.2 rfl (by omega) v k (byteVs l) (by rfl) (HO.out.alloc _) ⟨wr.heap.size, 0, none⟩ 1 1 [.int .u8 X] (by rfl) rfl (World.news_of_block (heap_alloc_new wr _)) (by simp [Value.oneCell']) (by unfold maxLen; omega) (by omega) (by have := HH.out.2.2.size; simp; omega) ?_; intro v' w' hown' hgrow' hnn'; obtain ⟨g', cap', rfl, hg1, hg2⟩ := hown'.form (by omega); obtain ⟨hM', hR', hB'⟩ := made_step HH.out.2.1 HH.out.1 HH.out.2.2 hgrow' hnb (own_blk_ne HO.out HH.out.1 (by decide)) HO.out; obtain ⟨n0, n1, n2, n3, y0, y1, y2, y3⟩ := imgAt_heap hM'; have HN' := Lib.hid (And.intro hM' (And.intro hR' (And.intro hB' hown'))); clear hM' hR' hB' hown' hgrow' hnn')
      go_roundw
      case rel =>
        refine ⟨k + 1, _, l ++ [x], by omega, by go_num, ?_, ?_, ?_, heap_here HN'.out.1 3 _, ?_⟩
        · show _ = _
          rw [List.length_append, hl.out]; rfl
        · have := HN'.out.2.2.2
          rw [byteVs_append, show byteVs [x] = [.int .u8 X] by rw [HX.out]; rfl]
          exact ownsRow_setCell_ne this (by intro e; exact own_blk_ne this HN'.out.1 (by decide) e) _
        · exact (Below.heap_setCell _ _ _ _ (by show w.heap.size ≠ w.heap.size + 1; omega)).trans HN'.out.2.1
        · exact HN'.out.2.2.1.setCell (by simp) _
      case measure => simp [intOf]; omega
    · obtain rfl : N = k := by omega
      obtain ⟨g, cap, rfl, hg1, hg2⟩ := HO.out.form (by omega)
      obtain ⟨hln, hown⟩ := own_ownsRow HO.out
      have HW := Lib.hid hown
      have HNL := Lib.hid hln
      obtain ⟨r0, r1, r2, r3, f0, f1, f2, f3⟩ := imgAt_heap HH.out.1
      have HE : Hid _ := res_set HH.out.2.2 0 0 ((a : Int) + 1) ((b : Int) + 1) false c (.slice none 0 0) (.slice (some ⟨g, 0, none⟩) N cap) rfl HH.out.1
      clear hown hln hg1 hg2
      go_wp2_with fail
      clear m0 m1 m2 m3 z0 z1 z2 z3 r0 r1 r2 r3 f0 f1 f2 f3
      have RE := HE.out.2.2 _ _ HW.out.reads
      have hcl := HW.out.cap_le
      have hsz : sizeV ((a + 1 : Nat) : Int) ((b + 1 : Nat) : Int) c = some l.length := by
        rw [← HNL.out, ← HFN.out]
        unfold sizeV
        rw [if_pos (by omega), Int.toNat_natCast, Int.toNat_natCast]
      clear HO HH HW
      generalize ((((wr.setCell ⟨w.heap.size, 0, none⟩ (.int .i64 ((a : Int) + 1))).setCell ⟨w.heap.size, 1, none⟩ (.int .i64 ((b : Int) + 1))).setCell ⟨w.heap.size, 2, none⟩ (.bool c)).setCell ⟨w.heap.size, 3, none⟩ (.slice (some ⟨g, 0, none⟩) N cap)) = WE at HE RE ⊢
      obtain ⟨c0, c1, c2, c3, _⟩ := imgAt_heap HE.out.1
      exact bodyPost_ret (v := imgVal ((a : Int) + 1) ((b : Int) + 1) c (.slice (some ⟨g, 0, none⟩) N cap)) (by simp [results, Tryd.results22, go_sem, c0, c1, c2, c3]) rfl ⟨a + 1, b + 1, some ⟨g, 0, none⟩, cap, l, by rw [← HNL.out]; rfl, by omega, by omega, hsz, RE, hcl.1, hcl.2, HE.out.2.1⟩
end Go.Proofs.YtmclabehdjdpnaaDoor.PnmW
