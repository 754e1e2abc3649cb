/-
  The walks of the fractions: size, gcd, good, Make, Do; the reference's Abs, gcd, Is, Make, Do.
-/
import Derived.Test.YtkfjmcdfamhiaaaDoorFr
import Derived.Test.YtkfjmcdfamhiaaaDoorBase
import Derived.Test.YtkfjmcdfamhiaaaDoorMem
namespace Go.Proofs.YtkfjmcdfamhiaaaDoor.FrW
open Go.RowKit Go.Proofs.YtkfjmcdfamhiaaaDoor.Base Go.Proofs.YtkfjmcdfamhiaaaDoor.Fr

theorem ret_int {k : IntKind} {a b : Int} (h : a = b) : Ending.returned (.int k a) = .returned (.int k b) := by rw [h]
theorem drewN_two (w : World) (a b : Nat) : (w.drewN a).drewN b = w.drewN (a + b) := by simp [World.drewN, Nat.add_assoc]

theorem size_c (v : Int) (h0 : -9223372036854775808 ≤ v) (h1 : v ≤ 9223372036854775807) (a : Int) (ha : Hid ((v.natAbs : Int) = a)) (w : World) :
    Calls Tryd.prog 29 #[.int .i64 v] w fun e w' => e = .returned (.int .u64 a) ∧ w' = w := by
  by_cases hn : v < 0
  · have HA : Hid (a = -v) := by show _ = _; have := ha.out; omega
    go_enter Tryd.func29, Tryd.ntmps29
    go_wp2_with fail
    go_ret
    exact ⟨ret_int (by rw [HA.out]; clear HA ha; simp only [IntKind.wrap_u64]; omega), rfl⟩
  · have HA : Hid (a = v) := by show _ = _; have := ha.out; omega
    go_enter Tryd.func29, Tryd.ntmps29
    go_wp2_with fail
    go_ret
    exact ⟨ret_int (by rw [HA.out]), rfl⟩

set_option maxHeartbeats 400000 in
theorem gcd_c (n m : Nat) (x y g : Int) (hx : x = n) (hy : y = m) (hn : x ≤ 18446744073709551615) (hm : y ≤ 18446744073709551615) (hg : Hid ((Nat.gcd n m : Int) = g)) (w : World) :
    Calls Tryd.prog 30 #[.int .u64 x, .int .u64 y] w fun e w' => e = .returned (.int .u64 g) ∧ ∃ k, w' = w.drewN k := by
  go_enter Tryd.func30, Tryd.ntmps30
  go_wp2_with fail
  go_loopw [0, 1] (fun a b wr => ∃ (p q : Nat) (k : Nat), (p : Int) ≤ 18446744073709551615 ∧ (q : Int) ≤ 18446744073709551615 ∧ Hid ((Nat.gcd p q : Int) = g) ∧ a = .int .u64 p ∧ b = .int .u64 q ∧ wr = w.drewN k) (fun _ b _ => (intOf b).toNat)
  case atStart => exact ⟨n, m, 0, by omega, by omega, hg, by rw [hx], by rw [hy], by rfl⟩
  case round =>
    obtain ⟨p, q, k, hp, hq, HG, rfl, rfl, rfl⟩ := hrel
    by_cases hz' : 0 < (q : Int)
    · have hz : 0 < q := by omega
      have hne : ((q : Int) == 0) = false := by simp; omega
      have HG2 : Hid ((Nat.gcd q (p % q) : Int) = g) := by
        show _ = _
        rw [← HG.out, Nat.gcd_comm p q, Nat.gcd_rec q p, Nat.gcd_comm]
      obtain ⟨r, hr⟩ : ∃ r : Nat, p % q = r := ⟨_, rfl⟩
      have hlt : r < q := by rw [← hr]; exact Nat.mod_lt _ hz
      have hri : (p : Int) % (q : Int) = (r : Int) := by rw [← hr]; rfl
      rw [hr] at HG2
      have HLT : Hid (r < q) := hlt
      clear hr
      go_wp2_with fail
      go_region
      all_goals (rw [hri]; go_round <;> first | (exact ⟨_, _, _, _, _, _, _, _, ⟨q, r, k + 1, hq, by omega, HG2, rfl, rfl, rfl⟩, rfl⟩) | (simp [intOf]; omega))
    · have HP : Hid ((p : Int) = g) := by
        show _ = _
        obtain rfl : q = 0 := by omega
        rw [← HG.out, Nat.gcd_zero_right]
      have hz2 : ¬ 0 < q := by omega
      go_wp2_with fail
      go_ret
      exact ⟨ret_int HP.out, k, rfl⟩

abbrev ratVal (n d : Int) : Value := .agg #[.int .i64 n, .int .i64 d]
abbrev ratObj (n d : Int) : Obj := .cells #[.int .i64 n, .int .i64 d] 27
def YesOut (b : Bool) (w : World) (e : Ending) (w' : World) : Prop := e = .returned (.bool b) ∧ Below w.heap.size w w'

set_option maxRecDepth 100000 in
set_option maxHeartbeats 800000 in
theorem good_c (n d : Int) (b : Bool) (hb : Hid (good n d = b)) (w : World) :
    Calls Tryd.prog 22 #[ratVal n d] w (YesOut b w) := by
  have HBel : Hid (Below w.heap.size w (w.alloc (ratObj n d))) := (Below.refl _ _).alloc (Nat.le_refl _) _
  by_cases hin : In n d
  · obtain ⟨h1, h2, h3, h4⟩ := hin
    obtain ⟨p, hp⟩ : ∃ p : Nat, n.natAbs = p := ⟨_, rfl⟩
    obtain ⟨q, hq⟩ : ∃ q : Nat, d.natAbs = q := ⟨_, rfl⟩
    obtain ⟨g, hg⟩ : ∃ g : Int, (Nat.gcd p q : Int) = g := ⟨_, rfl⟩
    have HP : Hid ((n.natAbs : Int) = (p : Int)) := by show _ = _; rw [hp]
    have HQ : Hid ((d.natAbs : Int) = (q : Int)) := by show _ = _; rw [hq]
    have hpl : (p : Int) ≤ 1073741824 := by omega
    have hql : (q : Int) ≤ 1073741824 := by omega
    have HG : Hid ((Nat.gcd p q : Int) = g) := hg
    have HB : Hid ((g == 1) = b) := by
      show _ = _
      rw [← hb.out]
      unfold good
      rw [decide_eq_true (show In n d from ⟨h1, h2, h3, h4⟩), Bool.true_and, hp, hq, ← hg]
      by_cases h1 : Nat.gcd p q = 1
      · rw [decide_eq_true h1, h1]; rfl
      · rw [decide_eq_false h1]
        simp only [beq_eq_false_iff_ne]
        omega
    clear hp hq hg hb
    go_enter Tryd.func22, Tryd.ntmps22
    go_wp2_with fail
    go_quiet ((first | (go_at_call 29; with_reducible first | exact Calls.quiet_of_same (size_c n (by omega) (by omega) p HP _) | exact Calls.quiet_of_same (size_c d (by omega) (by omega) q HQ _)) | (go_at_call 30; with_reducible exact Calls.quiet_of (gcd_c p q _ _ g rfl rfl (by omega) (by omega) HG _))))
    go_wp2_with fail
    go_ret
    exact ⟨by show Ending.returned (.bool (g == 1)) = _; rw [HB.out], below_drewN HBel.out _⟩
  · have HB : Hid (b = false) := by
      show _ = _
      rw [← hb.out]; unfold good; rw [decide_eq_false hin, Bool.false_and]
    clear hb
    obtain rfl := HB.out
    by_cases h1 : d < 1
    · clear hin
      go_enter Tryd.func22, Tryd.ntmps22
      go_wp2_with fail
      go_ret
      exact ⟨rfl, HBel.out⟩
    · by_cases h2 : 1073741824 < d
      · clear hin
        go_enter Tryd.func22, Tryd.ntmps22
        go_wp2_with fail
        go_ret
        exact ⟨rfl, HBel.out⟩
      · by_cases h3 : n < -1073741824
        · clear hin
          go_enter Tryd.func22, Tryd.ntmps22
          go_wp2_with fail
          go_ret
          exact ⟨rfl, HBel.out⟩
        · have h4 : 1073741824 < n := by unfold In at hin; omega
          clear hin
          go_enter Tryd.func22, Tryd.ntmps22
          go_wp2_with fail
          go_ret
          exact ⟨rfl, HBel.out⟩

/-- A fraction lies there. -/
theorem rat_at {w : World} {b : Nat} {n d : Int} (h : w.heap[b]? = some (ratObj n d)) : (w.cell? ⟨b, 0, none⟩ = some (.int .i64 n) ∧ w.cell? ⟨b, 1, none⟩ = some (.int .i64 d)) ∧ w.frozen? ⟨b, 0, none⟩ = false ∧ w.frozen? ⟨b, 1, none⟩ = false := by
  refine ⟨⟨?_, ?_⟩, ?_, ?_⟩ <;> simp [World.cell?, World.frozen?, h]
theorem heap_set {x : World} {b : Nat} {c : Array Value} {t : TypeId} (h : x.heap[b]? = some (.cells c t)) (o : Nat) (u : Value) : (x.setCell ⟨b, o, none⟩ u).heap[b]? = some (.cells (c.setIfInBounds o u) t) := by
  show (Array.modify _ _ _)[b]? = _
  rw [Array.getElem?_modify, if_pos rfl, h]; rfl
theorem rat_set {w : World} {b : Nat} {n d : Int} (h : w.heap[b]? = some (ratObj n d)) (N D : Int) : ((w.setCell ⟨b, 0, none⟩ (.int .i64 N)).setCell ⟨b, 1, none⟩ (.int .i64 D)).heap[b]? = some (ratObj N D) := heap_set (heap_set h 0 _) 1 _
theorem rat_set0 {w : World} {b : Nat} {n d : Int} (h : w.heap[b]? = some (ratObj n d)) (N : Int) : (w.setCell ⟨b, 0, none⟩ (.int .i64 N)).heap[b]? = some (ratObj N d) := heap_set h 0 _

theorem rat_fin (w : World) (k : Nat) (N D : Int) : ∀ v, v = ((((w.alloc (ratObj 0 0)).drewN k).setCell ⟨w.heap.size, 0, none⟩ (.int .i64 N)).setCell ⟨w.heap.size, 1, none⟩ (.int .i64 D)) →
    (v.heap[w.heap.size]? = some (ratObj N D) ∧ Below w.heap.size w v ∧ v.heap.size = w.heap.size + 1) := by
  rintro v rfl
  have h0 : ((w.alloc (ratObj 0 0)).drewN k).heap[w.heap.size]? = some (ratObj 0 0) := by show (w.heap.push _)[w.heap.size]? = _; simp
  refine ⟨rat_set h0 N D, ?_, by simp [World.setCell]⟩
  exact ((below_drewN ((Below.refl _ _).alloc (Nat.le_refl _) _) k).setCell (Nat.le_refl _) _).setCell (Nat.le_refl _) _
theorem rat_fin2 {w v : World} {N D : Int} (h : v.heap[w.heap.size]? = some (ratObj N D) ∧ Below w.heap.size w v ∧ v.heap.size = w.heap.size + 1) (o : Obj) :
    (v.alloc o).heap[w.heap.size]? = some (ratObj N D) ∧ Below w.heap.size w (v.alloc o) :=
  ⟨by rw [Below.heap_alloc _ _ _ (by omega), h.1], h.2.1.alloc (by omega) o⟩

/-- A fraction and an error in new memory. -/
def RatOut (r : Int × Int × Nat) (w : World) (e : Ending) (w' : World) : Prop := e = .returned (.tuple #[ratVal r.1 r.2.1, .int .i64 (r.2.2 : Int)]) ∧ Below w.heap.size w w'

set_option maxRecDepth 100000 in
set_option maxHeartbeats 1600000 in
theorem make_c (n d : Int) (hn0 : -9223372036854775808 ≤ n) (hn1 : n ≤ 9223372036854775807) (hd0 : -9223372036854775808 ≤ d) (hd1 : d ≤ 9223372036854775807) (r : Int × Int × Nat) (hr : Hid (makeV n d = r)) (w : World) :
    Calls Tryd.prog 16 #[.int .i64 n, .int .i64 d] w (RatOut r w) := by
  by_cases hz : d = 0
  · have HR : Hid (r = (0, 0, 10)) := by show _ = _; rw [← hr.out]; unfold makeV; rw [if_pos hz]
    subst hz
    obtain rfl := HR.out
    clear HR hr
    go_enter Tryd.func16, Tryd.ntmps16
    go_wp2_with fail
    have HF : Hid ((w.alloc (ratObj 0 0)).heap[w.heap.size]? = some (ratObj 0 0) ∧ Below w.heap.size w (w.alloc (ratObj 0 0))) := ⟨by show (w.heap.push _)[w.heap.size]? = _; simp, (Below.refl _ _).alloc (Nat.le_refl _) _⟩
    generalize (w.alloc (ratObj 0 0)) = WE at HF ⊢
    obtain ⟨⟨c0, c1⟩, _⟩ := rat_at HF.out.1
    exact bodyPost_ret (v := .tuple #[ratVal 0 0, .int .i64 10]) (by simp [results, Tryd.results16, go_sem, c0, c1]) rfl ⟨rfl, HF.out.2⟩
  · obtain ⟨p, hp⟩ : ∃ p : Nat, n.natAbs = p := ⟨_, rfl⟩
    obtain ⟨q, hq⟩ : ∃ q : Nat, d.natAbs = q := ⟨_, rfl⟩
    have hr' := hr.out
    unfold makeV at hr'
    rw [if_neg hz, hp, hq] at hr'
    have hq0 : 0 < q := by omega
    have hg0 := gcd_pos p hq0
    obtain ⟨g, hg⟩ : ∃ g : Nat, Nat.gcd p q = g := ⟨_, rfl⟩
    rw [hg] at hr' hg0
    obtain ⟨x, hx⟩ : ∃ x : Nat, p / g = x := ⟨_, rfl⟩
    obtain ⟨y, hy⟩ : ∃ y : Nat, q / g = y := ⟨_, rfl⟩
    have HX : Hid ((p : Int) / (g : Int) = (x : Int)) := by show _ = _; rw [← hx]; rfl
    have HY : Hid ((q : Int) / (g : Int) = (y : Int)) := by show _ = _; rw [← hy]; rfl
    rw [hx, hy] at hr'
    have hxp : x ≤ p := by rw [← hx]; exact Nat.div_le_self _ _
    have hyq : y ≤ q := by rw [← hy]; exact Nat.div_le_self _ _
    have HP : Hid ((n.natAbs : Int) = (p : Int)) := by show _ = _; rw [hp]
    have HQ : Hid ((d.natAbs : Int) = (q : Int)) := by show _ = _; rw [hq]
    have HG : Hid ((Nat.gcd p q : Int) = (g : Int)) := by show _ = _; rw [hg]
    have hpl : (p : Int) ≤ 9223372036854775808 := by omega
    have hql : (q : Int) ≤ 9223372036854775808 := by omega
    have hgl : (g : Int) ≤ 9223372036854775808 := by
      have := Nat.le_of_dvd hq0 (Nat.gcd_dvd_right p q)
      omega
    have hgz : ((g : Int) == 0) = false := by simp; omega
    have HR := Lib.hid hr'
    clear hr hr' hx hy hp hq hg
    go_enter Tryd.func16, Tryd.ntmps16
    go_wp2_with fail
    with_reducible refine (size_c n hn0 hn1 p HP _).mono ?_
    rintro e w' ⟨rfl, rfl⟩
    go_wp2_with fail
    with_reducible refine (size_c d hd0 hd1 q HQ _).mono ?_
    rintro e w' ⟨rfl, rfl⟩
    go_wp2_with fail
    with_reducible refine (gcd_c p q _ _ g rfl rfl (by omega) (by omega) HG _).mono ?_
    rintro e w' ⟨rfl, k, rfl⟩
    go_wp2_with fail
    go_quiet (fail)
    have hwx : IntKind.u64.wrap ((p : Int) / (g : Int)) = (x : Int) := by rw [HX.out, IntKind.wrap_u64]; omega
    have hwy : IntKind.u64.wrap ((q : Int) / (g : Int)) = (y : Int) := by rw [HY.out, IntKind.wrap_u64]; omega
    rw [hwx, hwy, drewN_two]
    clear hwx hwy
    by_cases hbig : 1073741824 < (x : Int)
    · have HR' : Hid (r = (0, 0, 5)) := by show _ = _; rw [← HR.out, if_pos (.inl (by omega))]
      have HF : Hid _ := rat_fin w (k + nq) 0 0 _ rfl
      clear HR
      go_wp2_with fail
      generalize ((((w.alloc (ratObj 0 0)).drewN (k + nq)).setCell ⟨w.heap.size, 0, none⟩ (.int .i64 0)).setCell ⟨w.heap.size, 1, none⟩ (.int .i64 0)) = WE at HF ⊢
      obtain ⟨⟨c0, c1⟩, _⟩ := rat_at HF.out.1
      exact bodyPost_ret (v := .tuple #[ratVal 0 0, .int .i64 5]) (by simp [results, Tryd.results16, go_sem, c0, c1]) rfl ⟨by rw [HR'.out]; rfl, HF.out.2.1⟩
    · by_cases hbig2 : 1073741824 < (y : Int)
      · have HR' : Hid (r = (0, 0, 5)) := by show _ = _; rw [← HR.out, if_pos (.inr (by omega))]
        have HF : Hid _ := rat_fin w (k + nq) 0 0 _ rfl
        clear HR
        go_wp2_with fail
        generalize ((((w.alloc (ratObj 0 0)).drewN (k + nq)).setCell ⟨w.heap.size, 0, none⟩ (.int .i64 0)).setCell ⟨w.heap.size, 1, none⟩ (.int .i64 0)) = WE at HF ⊢
        obtain ⟨⟨c0, c1⟩, _⟩ := rat_at HF.out.1
        exact bodyPost_ret (v := .tuple #[ratVal 0 0, .int .i64 5]) (by simp [results, Tryd.results16, go_sem, c0, c1]) rfl ⟨by rw [HR'.out]; rfl, HF.out.2.1⟩
      · have HE : Hid (1073741824 < x ∨ 1073741824 < y → False) := by show _ → _; omega
        by_cases hs : n < 0
        · by_cases ht : d < 0
          · have HR' : Hid (r = ((x : Int), (y : Int), 0)) := by
              show _ = _
              rw [← HR.out, if_neg (fun h => HE.out h), if_neg (by simp [hs, ht])]
            have HF : Hid _ := rat_fin w (k + nq) (x : Int) (y : Int) _ rfl
            clear HR
            go_wp2_with fail
            generalize ((((w.alloc (ratObj 0 0)).drewN (k + nq)).setCell ⟨w.heap.size, 0, none⟩ (.int .i64 (x : Int))).setCell ⟨w.heap.size, 1, none⟩ (.int .i64 (y : Int))) = WE at HF ⊢
            have HF2 : Hid _ := rat_fin2 HF.out (ratObj (x : Int) (y : Int))
            generalize (WE.alloc (ratObj (x : Int) (y : Int))) = WF at HF2 ⊢
            obtain ⟨⟨c0, c1⟩, _⟩ := rat_at HF2.out.1
            exact bodyPost_ret (v := .tuple #[ratVal (x : Int) (y : Int), .int .i64 0]) (by simp [results, Tryd.results16, go_sem, c0, c1]) rfl ⟨by rw [HR'.out]; rfl, HF2.out.2⟩
          · have HR' : Hid (r = ((-(x : Int)), (y : Int), 0)) := by
              show _ = _
              rw [← HR.out, if_neg (fun h => HE.out h), if_pos (by simp [hs, ht])]
            have HF : Hid _ := rat_fin w (k + nq) (-(x : Int)) (y : Int) _ rfl
            clear HR
            go_wp2_with fail
            generalize ((((w.alloc (ratObj 0 0)).drewN (k + nq)).setCell ⟨w.heap.size, 0, none⟩ (.int .i64 (-(x : Int)))).setCell ⟨w.heap.size, 1, none⟩ (.int .i64 (y : Int))) = WE at HF ⊢
            have HF2 : Hid _ := rat_fin2 HF.out (ratObj (-(x : Int)) (y : Int))
            generalize (WE.alloc (ratObj (-(x : Int)) (y : Int))) = WF at HF2 ⊢
            obtain ⟨⟨c0, c1⟩, _⟩ := rat_at HF2.out.1
            exact bodyPost_ret (v := .tuple #[ratVal (-(x : Int)) (y : Int), .int .i64 0]) (by simp [results, Tryd.results16, go_sem, c0, c1]) rfl ⟨by rw [HR'.out]; rfl, HF2.out.2⟩
        · by_cases ht : d < 0
          · have HR' : Hid (r = ((-(x : Int)), (y : Int), 0)) := by
              show _ = _
              rw [← HR.out, if_neg (fun h => HE.out h), if_pos (by simp [hs, ht])]
            have HF : Hid _ := rat_fin w (k + nq) (-(x : Int)) (y : Int) _ rfl
            clear HR
            go_wp2_with fail
            generalize ((((w.alloc (ratObj 0 0)).drewN (k + nq)).setCell ⟨w.heap.size, 0, none⟩ (.int .i64 (-(x : Int)))).setCell ⟨w.heap.size, 1, none⟩ (.int .i64 (y : Int))) = WE at HF ⊢
            have HF2 : Hid _ := rat_fin2 HF.out (ratObj (-(x : Int)) (y : Int))
            generalize (WE.alloc (ratObj (-(x : Int)) (y : Int))) = WF at HF2 ⊢
            obtain ⟨⟨c0, c1⟩, _⟩ := rat_at HF2.out.1
            exact bodyPost_ret (v := .tuple #[ratVal (-(x : Int)) (y : Int), .int .i64 0]) (by simp [results, Tryd.results16, go_sem, c0, c1]) rfl ⟨by rw [HR'.out]; rfl, HF2.out.2⟩
          · have HR' : Hid (r = ((x : Int), (y : Int), 0)) := by
              show _ = _
              rw [← HR.out, if_neg (fun h => HE.out h), if_neg (by simp [hs, ht])]
            have HF : Hid _ := rat_fin w (k + nq) (x : Int) (y : Int) _ rfl
            clear HR
            go_wp2_with fail
            generalize ((((w.alloc (ratObj 0 0)).drewN (k + nq)).setCell ⟨w.heap.size, 0, none⟩ (.int .i64 (x : Int))).setCell ⟨w.heap.size, 1, none⟩ (.int .i64 (y : Int))) = WE at HF ⊢
            have HF2 : Hid _ := rat_fin2 HF.out (ratObj (x : Int) (y : Int))
            generalize (WE.alloc (ratObj (x : Int) (y : Int))) = WF at HF2 ⊢
            obtain ⟨⟨c0, c1⟩, _⟩ := rat_at HF2.out.1
            exact bodyPost_ret (v := .tuple #[ratVal (x : Int) (y : Int), .int .i64 0]) (by simp [results, Tryd.results16, go_sem, c0, c1]) rfl ⟨by rw [HR'.out]; rfl, HF2.out.2⟩
end Go.Proofs.YtkfjmcdfamhiaaaDoor.FrW
