/-
  The walks of the reference's fractions: Abs, gcd, Is, Make.
-/
import Derived.Test.YtkfjmcdfamhiaaaDoorFrW
namespace Go.Proofs.YtkfjmcdfamhiaaaDoor.FrW
open Go.RowKit Go.Proofs.YtkfjmcdfamhiaaaDoor.Base Go.Proofs.YtkfjmcdfamhiaaaDoor.Fr

theorem abs_c (v : Int) (h0 : -9223372036854775808 ≤ v) (h1 : v ≤ 9223372036854775807) (a : Int) (ha : Hid ((v.natAbs : Int) = a)) (w : World) :
    Calls Tryd.prog 31 #[.int .i64 v] w fun e w' => e = .returned (.int .u64 a) ∧ w' = w := by
  by_cases hn : v < 0
  · have HA : Hid (a = -v) := by show _ = _; have := ha.out; omega
    go_enter Tryd.func31, Tryd.ntmps31
    go_wp2_with fail
    go_ret
    exact ⟨ret_int (by rw [HA.out]; clear HA ha; first | omega | (simp only [IntKind.wrap_u64, IntKind.wrap_i64]; omega)), rfl⟩
  · have HA : Hid (a = v) := by show _ = _; have := ha.out; omega
    go_enter Tryd.func31, Tryd.ntmps31
    go_wp2_with fail
    go_ret
    exact ⟨ret_int (by rw [HA.out]), rfl⟩

set_option maxHeartbeats 400000 in
theorem rgcd_c (x y g : Int) (hx0 : -1073741824 ≤ x) (hx1 : x ≤ 1073741824) (hy0 : -1073741824 ≤ y) (hy1 : y ≤ 1073741824) (hg : Hid ((Nat.gcd x.natAbs y.natAbs : Int) = g)) (w : World) :
    Calls Tryd.prog 38 #[.int .i64 x, .int .i64 y] w fun e w' => e = .returned (.int .i64 g) ∧ ∃ k, w' = w.drewN k := by
  go_enter Tryd.func38, Tryd.ntmps38
  go_wp2_with fail
  go_loopw [0, 1] (fun a b wr => ∃ (p q : Int) (k : Nat), -1073741824 ≤ p ∧ p ≤ 1073741824 ∧ -1073741824 ≤ q ∧ q ≤ 1073741824 ∧ Hid ((Nat.gcd p.natAbs q.natAbs : Int) = g) ∧ a = .int .i64 p ∧ b = .int .i64 q ∧ wr = w.drewN k) (fun _ b _ => (intOf b).natAbs)
  case atStart => exact ⟨x, y, 0, hx0, hx1, hy0, hy1, hg, rfl, rfl, rfl⟩
  case round =>
    obtain ⟨p, q, k, hp0, hp1, hq0, hq1, HG, rfl, rfl, rfl⟩ := hrel
    by_cases hz : q = 0
    · have HP : Hid ((p.natAbs : Int) = g) := by
        show _ = _
        rw [← HG.out, hz]; simp
      by_cases hs : p < 0
      · go_wp2_with fail
        go_ret
        exact ⟨ret_int (by rw [← HP.out]; omega), k, rfl⟩
      · go_wp2_with fail
        go_ret
        exact ⟨ret_int (by rw [← HP.out]; omega), k, rfl⟩
    · have hne : (q == 0) = false := by simp [hz]
      obtain ⟨r, hr⟩ : ∃ r : Int, p.tmod q = r := ⟨_, rfl⟩
      have hra : r.natAbs = p.natAbs % q.natAbs := by rw [← hr]; exact Int.natAbs_tmod _ _
      have hlt : r.natAbs < q.natAbs := by rw [hra]; exact Nat.mod_lt _ (by omega)
      have HG2 : Hid ((Nat.gcd q.natAbs r.natAbs : Int) = g) := by
        show _ = _
        rw [← HG.out, hra, Nat.gcd_comm p.natAbs q.natAbs, Nat.gcd_rec q.natAbs p.natAbs, Nat.gcd_comm]
      clear hra
      go_wp2_with fail
      go_region
      all_goals (go_round <;> first | (exact ⟨_, _, _, _, _, _, _, _, ⟨q, r, k + 1, hq0, hq1, by omega, by omega, HG2, rfl, rfl, rfl⟩, rfl⟩) | (simp [intOf]; omega))

set_option maxRecDepth 100000 in
set_option maxHeartbeats 800000 in
theorem is_c (n d : Int) (b : Bool) (hb : Hid (good n d = b)) (w : World) :
    Calls Tryd.prog 28 #[ratVal n d] w (YesOut b w) := by
  have HBel : Hid (Below w.heap.size w (w.alloc (ratObj n d))) := (Below.refl _ _).alloc (Nat.le_refl _) _
  by_cases hin : In n d
  · obtain ⟨h1, h2, h3, h4⟩ := hin
    obtain ⟨g, hg⟩ : ∃ g : Int, (Nat.gcd n.natAbs d.natAbs : Int) = g := ⟨_, rfl⟩
    have HG : Hid ((Nat.gcd n.natAbs d.natAbs : Int) = g) := hg
    have HB : Hid ((g == 1) = b) := by
      show _ = _
      rw [← hb.out]
      unfold good
      rw [decide_eq_true (show In n d from ⟨h1, h2, h3, h4⟩), Bool.true_and, ← hg]
      by_cases h1 : Nat.gcd n.natAbs d.natAbs = 1
      · rw [decide_eq_true h1, h1]; rfl
      · rw [decide_eq_false h1]
        simp only [beq_eq_false_iff_ne]
        omega
    clear hg hb
    go_enter Tryd.func28, Tryd.ntmps28
    go_wp2_with fail
    with_reducible refine (rgcd_c n d g (by omega) (by omega) (by omega) (by omega) HG _).mono ?_
    rintro e w' ⟨rfl, k, rfl⟩
    go_wp2_with fail
    go_ret
    exact ⟨by show Ending.returned (.bool (g == 1)) = _; rw [HB.out], below_drewN HBel.out _⟩
  · have HB : Hid (b = false) := by
      show _ = _
      rw [← hb.out]; unfold good; rw [decide_eq_false hin, Bool.false_and]
    clear hb
    obtain rfl := HB.out
    by_cases h1 : 1 ≤ d
    · by_cases h2 : d ≤ 1073741824
      · by_cases h3 : n ≤ 1073741824
        · have h4 : ¬ -1073741824 ≤ n := by unfold In at hin; omega
          clear hin
          go_enter Tryd.func28, Tryd.ntmps28
          go_wp2_with fail
          go_ret
          exact ⟨rfl, HBel.out⟩
        · clear hin
          go_enter Tryd.func28, Tryd.ntmps28
          go_wp2_with fail
          go_ret
          exact ⟨rfl, HBel.out⟩
      · clear hin
        go_enter Tryd.func28, Tryd.ntmps28
        go_wp2_with fail
        go_ret
        exact ⟨rfl, HBel.out⟩
    · clear hin
      go_enter Tryd.func28, Tryd.ntmps28
      go_wp2_with fail
      go_ret
      exact ⟨rfl, HBel.out⟩
set_option maxRecDepth 100000 in
set_option maxHeartbeats 1600000 in
theorem rmake_c (n d : Int) (hn0 : -9223372036854775808 ≤ n) (hn1 : n ≤ 9223372036854775807) (hd0 : -9223372036854775808 ≤ d) (hd1 : d ≤ 9223372036854775807) (r : Int × Int × Nat) (hr : Hid (makeV n d = r)) (w : World) :
    Calls Tryd.prog 17 #[.int .i64 n, .int .i64 d] w (RatOut r w) := by
  by_cases hz : d = 0
  · have HR : Hid (r = (0, 0, 10)) := by show _ = _; rw [← hr.out]; unfold makeV; rw [if_pos hz]
    subst hz
    obtain rfl := HR.out
    clear HR hr
    go_enter Tryd.func17, Tryd.ntmps17
    go_wp2_with fail
    have HF : Hid ((w.alloc (ratObj 0 0)).heap[w.heap.size]? = some (ratObj 0 0) ∧ Below w.heap.size w (w.alloc (ratObj 0 0))) := ⟨by show (w.heap.push _)[w.heap.size]? = _; simp, (Below.refl _ _).alloc (Nat.le_refl _) _⟩
    generalize (w.alloc (ratObj 0 0)) = WE at HF ⊢
    obtain ⟨⟨c0, c1⟩, _⟩ := rat_at HF.out.1
    exact bodyPost_ret (v := .tuple #[ratVal 0 0, .int .i64 10]) (by simp [results, Tryd.results17, go_sem, c0, c1]) rfl ⟨rfl, HF.out.2⟩
  · obtain ⟨p, hp⟩ : ∃ p : Nat, n.natAbs = p := ⟨_, rfl⟩
    obtain ⟨q, hq⟩ : ∃ q : Nat, d.natAbs = q := ⟨_, rfl⟩
    have hr' := hr.out
    unfold makeV at hr'
    rw [if_neg hz, hp, hq] at hr'
    have hq0 : 0 < q := by omega
    have hg0 := gcd_pos p hq0
    obtain ⟨g, hg⟩ : ∃ g : Nat, Nat.gcd p q = g := ⟨_, rfl⟩
    rw [hg] at hr' hg0
    obtain ⟨x, hx⟩ : ∃ x : Nat, p / g = x := ⟨_, rfl⟩
    obtain ⟨y, hy⟩ : ∃ y : Nat, q / g = y := ⟨_, rfl⟩
    have HX : Hid ((p : Int) / (g : Int) = (x : Int)) := by show _ = _; rw [← hx]; rfl
    have HY : Hid ((q : Int) / (g : Int) = (y : Int)) := by show _ = _; rw [← hy]; rfl
    rw [hx, hy] at hr'
    have hxp : x ≤ p := by rw [← hx]; exact Nat.div_le_self _ _
    have hyq : y ≤ q := by rw [← hy]; exact Nat.div_le_self _ _
    have HP : Hid ((n.natAbs : Int) = (p : Int)) := by show _ = _; rw [hp]
    have HQ : Hid ((d.natAbs : Int) = (q : Int)) := by show _ = _; rw [hq]
    have HG : Hid ((Nat.gcd p q : Int) = (g : Int)) := by show _ = _; rw [hg]
    have hpl : (p : Int) ≤ 9223372036854775808 := by omega
    have hql : (q : Int) ≤ 9223372036854775808 := by omega
    have hgl : (g : Int) ≤ 9223372036854775808 := by
      have := Nat.le_of_dvd hq0 (Nat.gcd_dvd_right p q)
      omega
    have hgz : ((g : Int) == 0) = false := by simp; omega
    have HR := Lib.hid hr'
    clear hr hr' hx hy hp hq hg
    go_enter Tryd.func17, Tryd.ntmps17
    go_wp2_with fail
    with_reducible refine (abs_c n hn0 hn1 p HP _).mono ?_
    rintro e w' ⟨rfl, rfl⟩
    go_wp2_with fail
    with_reducible refine (abs_c d hd0 hd1 q HQ _).mono ?_
    rintro e w' ⟨rfl, rfl⟩
    go_wp2_with fail
    go_loopw [8, 9] (fun a b wr => ∃ (c e : Nat) (k : Nat), (c : Int) ≤ 9223372036854775808 ∧ (e : Int) ≤ 9223372036854775808 ∧ Hid ((Nat.gcd c e : Int) = (g : Int)) ∧ a = .int .u64 c ∧ b = .int .u64 e ∧ wr = (w.alloc (ratObj 0 0)).drewN k) (fun _ b _ => (intOf b).toNat)
    case atStart => exact ⟨p, q, 0, by omega, by omega, HG, rfl, rfl, rfl⟩
    case round =>
    obtain ⟨c, e, k, hc, he, HG', rfl, rfl, rfl⟩ := hrel
    by_cases hz' : 0 < (e : Int)
    · have hz : 0 < e := by omega
      have hne : ((e : Int) == 0) = false := by simp; omega
      have HG2 : Hid ((Nat.gcd e (c % e) : Int) = g) := by
        show _ = _
        rw [← HG'.out, Nat.gcd_comm c e, Nat.gcd_rec e c, Nat.gcd_comm]
      obtain ⟨r1, hr⟩ : ∃ r1 : Nat, c % e = r1 := ⟨_, rfl⟩
      have hlt : r1 < e := by rw [← hr]; exact Nat.mod_lt _ hz
      have hri : (c : Int) % (e : Int) = (r1 : Int) := by rw [← hr]; rfl
      rw [hr] at HG2
      clear hr
      go_wp2_with fail
      go_region
      all_goals (rw [hri]; go_round <;> first | (exact ⟨_, _, _, _, _, _, _, _, ⟨e, r1, k + 1, by omega, by omega, HG2, rfl, rfl, rfl⟩, rfl⟩) | (simp [intOf]; omega))
    · have hez : e = 0 := by omega
      have hcg : (c : Int) = (g : Int) := by rw [← HG'.out, hez, Nat.gcd_zero_right]
      have hcg2 : c = g := by omega
      subst hcg2
      have hne : ((e : Int) == 0) = true := by rw [hez]; rfl
      clear hez hcg
      go_wp2_with fail
      go_quiet (fail)
      have hwx : IntKind.u64.wrap ((p : Int) / (c : Int)) = (x : Int) := by rw [HX.out, IntKind.wrap_u64]; omega
      have hwy : IntKind.u64.wrap ((q : Int) / (c : Int)) = (y : Int) := by rw [HY.out, IntKind.wrap_u64]; omega
      rw [hwx, hwy, drewN_two]
      clear hwx hwy
      by_cases hbig : 1073741824 < (x : Int)
      · have HR' : Hid (r = (0, 0, 5)) := by show _ = _; rw [← HR.out, if_pos (.inl (by omega))]
        have HF : Hid _ := rat_fin w (k + nq) 0 0 _ rfl
        clear HR
        go_wp2_with fail
        generalize ((((w.alloc (ratObj 0 0)).drewN (k + nq)).setCell ⟨w.heap.size, 0, none⟩ (.int .i64 0)).setCell ⟨w.heap.size, 1, none⟩ (.int .i64 0)) = WE at HF ⊢
        obtain ⟨⟨c0, c1⟩, _⟩ := rat_at HF.out.1
        exact bodyPost_ret (v := .tuple #[ratVal 0 0, .int .i64 5]) (by simp [results, Tryd.results17, go_sem, c0, c1]) rfl ⟨by rw [HR'.out]; rfl, HF.out.2.1⟩
      · by_cases hbig2 : 1073741824 < (y : Int)
        · have HR' : Hid (r = (0, 0, 5)) := by show _ = _; rw [← HR.out, if_pos (.inr (by omega))]
          have HF : Hid _ := rat_fin w (k + nq) 0 0 _ rfl
          clear HR
          go_wp2_with fail
          generalize ((((w.alloc (ratObj 0 0)).drewN (k + nq)).setCell ⟨w.heap.size, 0, none⟩ (.int .i64 0)).setCell ⟨w.heap.size, 1, none⟩ (.int .i64 0)) = WE at HF ⊢
          obtain ⟨⟨c0, c1⟩, _⟩ := rat_at HF.out.1
          exact bodyPost_ret (v := .tuple #[ratVal 0 0, .int .i64 5]) (by simp [results, Tryd.results17, go_sem, c0, c1]) rfl ⟨by rw [HR'.out]; rfl, HF.out.2.1⟩
        · have HE : Hid (1073741824 < x ∨ 1073741824 < y → False) := by show _ → _; omega
          by_cases hs : n < 0
          · by_cases ht : d < 0
            · have HR' : Hid (r = ((x : Int), (y : Int), 0)) := by
                show _ = _
                rw [← HR.out, if_neg (fun h => HE.out h), if_neg (by simp [hs, ht])]
              have HF : Hid _ := rat_fin w (k + nq) (x : Int) (y : Int) _ rfl
              clear HR
              go_wp2_with fail
              generalize ((((w.alloc (ratObj 0 0)).drewN (k + nq)).setCell ⟨w.heap.size, 0, none⟩ (.int .i64 (x : Int))).setCell ⟨w.heap.size, 1, none⟩ (.int .i64 (y : Int))) = WE at HF ⊢
              have HF2 : Hid _ := rat_fin2 HF.out (ratObj (x : Int) (y : Int))
              generalize (WE.alloc (ratObj (x : Int) (y : Int))) = WF at HF2 ⊢
              obtain ⟨⟨c0, c1⟩, _⟩ := rat_at HF2.out.1
              exact bodyPost_ret (v := .tuple #[ratVal (x : Int) (y : Int), .int .i64 0]) (by simp [results, Tryd.results17, go_sem, c0, c1]) rfl ⟨by rw [HR'.out]; rfl, HF2.out.2⟩
            · have HR' : Hid (r = ((-(x : Int)), (y : Int), 0)) := by
                show _ = _
                rw [← HR.out, if_neg (fun h => HE.out h), if_pos (by simp [hs, ht])]
              have HF : Hid _ := rat_fin w (k + nq) (-(x : Int)) (y : Int) _ rfl
              clear HR
              go_wp2_with fail
              generalize ((((w.alloc (ratObj 0 0)).drewN (k + nq)).setCell ⟨w.heap.size, 0, none⟩ (.int .i64 (-(x : Int)))).setCell ⟨w.heap.size, 1, none⟩ (.int .i64 (y : Int))) = WE at HF ⊢
              have HF2 : Hid _ := rat_fin2 HF.out (ratObj (-(x : Int)) (y : Int))
              generalize (WE.alloc (ratObj (-(x : Int)) (y : Int))) = WF at HF2 ⊢
              obtain ⟨⟨c0, c1⟩, _⟩ := rat_at HF2.out.1
              exact bodyPost_ret (v := .tuple #[ratVal (-(x : Int)) (y : Int), .int .i64 0]) (by simp [results, Tryd.results17, go_sem, c0, c1]) rfl ⟨by rw [HR'.out]; rfl, HF2.out.2⟩
          · by_cases ht : d < 0
            · have HR' : Hid (r = ((-(x : Int)), (y : Int), 0)) := by
                show _ = _
                rw [← HR.out, if_neg (fun h => HE.out h), if_pos (by simp [hs, ht])]
              have HF : Hid _ := rat_fin w (k + nq) (-(x : Int)) (y : Int) _ rfl
              clear HR
              go_wp2_with fail
              generalize ((((w.alloc (ratObj 0 0)).drewN (k + nq)).setCell ⟨w.heap.size, 0, none⟩ (.int .i64 (-(x : Int)))).setCell ⟨w.heap.size, 1, none⟩ (.int .i64 (y : Int))) = WE at HF ⊢
              have HF2 : Hid _ := rat_fin2 HF.out (ratObj (-(x : Int)) (y : Int))
              generalize (WE.alloc (ratObj (-(x : Int)) (y : Int))) = WF at HF2 ⊢
              obtain ⟨⟨c0, c1⟩, _⟩ := rat_at HF2.out.1
              exact bodyPost_ret (v := .tuple #[ratVal (-(x : Int)) (y : Int), .int .i64 0]) (by simp [results, Tryd.results17, go_sem, c0, c1]) rfl ⟨by rw [HR'.out]; rfl, HF2.out.2⟩
            · have HR' : Hid (r = ((x : Int), (y : Int), 0)) := by
                show _ = _
                rw [← HR.out, if_neg (fun h => HE.out h), if_neg (by simp [hs, ht])]
              have HF : Hid _ := rat_fin w (k + nq) (x : Int) (y : Int) _ rfl
              clear HR
              go_wp2_with fail
              generalize ((((w.alloc (ratObj 0 0)).drewN (k + nq)).setCell ⟨w.heap.size, 0, none⟩ (.int .i64 (x : Int))).setCell ⟨w.heap.size, 1, none⟩ (.int .i64 (y : Int))) = WE at HF ⊢
              have HF2 : Hid _ := rat_fin2 HF.out (ratObj (x : Int) (y : Int))
              generalize (WE.alloc (ratObj (x : Int) (y : Int))) = WF at HF2 ⊢
              obtain ⟨⟨c0, c1⟩, _⟩ := rat_at HF2.out.1
              exact bodyPost_ret (v := .tuple #[ratVal (x : Int) (y : Int), .int .i64 0]) (by simp [results, Tryd.results17, go_sem, c0, c1]) rfl ⟨by rw [HR'.out]; rfl, HF2.out.2⟩
end Go.Proofs.YtkfjmcdfamhiaaaDoor.FrW
