/-
  Blocks in memory; the walk of macro's parseVar.
-/
import Derived.Test.YtglmofeeggjemaaGreatDoorGw
set_option linter.unusedVariables false
namespace Go.Proofs.YtglmofeeggjemaaGreatDoor.GW
open Go.RowKit Go.Proofs.YtglmofeeggjemaaGreatDoor.Base Go.Proofs.YtglmofeeggjemaaGreatDoor.Dp Go.Proofs.YtglmofeeggjemaaGreatDoor.DeciW Go.Proofs.YtglmofeeggjemaaGreatDoor.Mem Go.Proofs.YtglmofeeggjemaaGreatDoor.RdW Go.Proofs.YtglmofeeggjemaaGreatDoor.Gp

abbrev zBk : Obj := .cells #[.int .i64 0, .int .i64 0, .string ⟨#[]⟩, .slice none 0 0] 74
def bkCells (b : Blk) (av : Value) : Array Value := #[.int .i64 b.k, .int .i64 b.n, .string ⟨b.t.toArray⟩, av]
abbrev bkVal (b : Blk) (av : Value) : Value := .agg (bkCells b av)
abbrev bkObj (b : Blk) (av : Value) : Obj := .cells (bkCells b av) 74
theorem bk_at {x : World} {b : Nat} {v0 v1 v2 v3 : Value} {t : TypeId} (h : x.heap[b]? = some (.cells #[v0, v1, v2, v3] t)) :
    (x.cell? ⟨b, 0, none⟩ = some v0 ∧ x.cell? ⟨b, 1, none⟩ = some v1 ∧ x.cell? ⟨b, 2, none⟩ = some v2 ∧ x.cell? ⟨b, 3, none⟩ = some v3) ∧ (x.frozen? ⟨b, 0, none⟩ = false ∧ x.frozen? ⟨b, 1, none⟩ = false ∧ x.frozen? ⟨b, 2, none⟩ = false ∧ x.frozen? ⟨b, 3, none⟩ = false) := by
  refine ⟨⟨?_, ?_, ?_, ?_⟩, ?_, ?_, ?_, ?_⟩ <;> simp [World.cell?, World.frozen?, h]
def bkSet (w : World) (b : Nat) (x : Blk) (av : Value) : World :=
  (((w.setCell ⟨b, 0, none⟩ (.int .i64 x.k)).setCell ⟨b, 1, none⟩ (.int .i64 x.n)).setCell ⟨b, 2, none⟩ (.string ⟨x.t.toArray⟩)).setCell ⟨b, 3, none⟩ av
theorem bk0 {x : World} {b : Nat} {v0 v1 v2 v3 : Value} {t : TypeId} (h : x.heap[b]? = some (.cells #[v0, v1, v2, v3] t)) (u : Value) : (x.setCell ⟨b, 0, none⟩ u).heap[b]? = some (.cells #[u, v1, v2, v3] t) := heap_here h 0 u
theorem bk1 {x : World} {b : Nat} {v0 v1 v2 v3 : Value} {t : TypeId} (h : x.heap[b]? = some (.cells #[v0, v1, v2, v3] t)) (u : Value) : (x.setCell ⟨b, 1, none⟩ u).heap[b]? = some (.cells #[v0, u, v2, v3] t) := heap_here h 1 u
theorem bk2 {x : World} {b : Nat} {v0 v1 v2 v3 : Value} {t : TypeId} (h : x.heap[b]? = some (.cells #[v0, v1, v2, v3] t)) (u : Value) : (x.setCell ⟨b, 2, none⟩ u).heap[b]? = some (.cells #[v0, v1, u, v3] t) := heap_here h 2 u
theorem bk3 {x : World} {b : Nat} {v0 v1 v2 v3 : Value} {t : TypeId} (h : x.heap[b]? = some (.cells #[v0, v1, v2, v3] t)) (u : Value) : (x.setCell ⟨b, 3, none⟩ u).heap[b]? = some (.cells #[v0, v1, v2, u] t) := heap_here h 3 u
/-- The result's block, as it was made. -/
structure ZB (w W : World) : Prop where
  a : W.heap[w.heap.size]? = some zBk
  b : Below w.heap.size w W
theorem ZB.below {w W W' : World} (h : ZB w W) (hb : Below W.heap.size W W') : ZB w W' := ⟨one_below h.a hb, h.b.trans (hb.mono h.b.size)⟩
theorem zb_new (w : World) : ZB w (w.alloc zBk) := ⟨heap_alloc_new w _, (Below.refl _ _).alloc (Nat.le_refl _) _⟩
theorem bk_fin {w W : World} (h : ZB w W) (x : Blk) (av : Value) : (bkSet W w.heap.size x av).heap[w.heap.size]? = some (bkObj x av) ∧ Below w.heap.size w (bkSet W w.heap.size x av) :=
  ⟨bk3 (bk2 (bk1 (bk0 h.a _) _) _) _, (((h.b.setCell (Nat.le_refl _) _).setCell (Nat.le_refl _) _).setCell (Nat.le_refl _) _).setCell (Nat.le_refl _) _⟩
theorem bkSet_keep {W : World} {b : Nat} {cs : Array Value} (h : W.heap[b]? = some (.cells cs 74)) (x : Blk) (av : Value) : KeepT 74 W (bkSet W b x av) := by
  have step : ∀ {V : World} {cs : Array Value} (i : Nat) (u : Value), V.heap[b]? = some (.cells cs 74) → KeepT 74 V (V.setCell ⟨b, i, none⟩ u) ∧ ∃ ds, (V.setCell ⟨b, i, none⟩ u).heap[b]? = some (.cells ds 74) := fun i u hv => ⟨.set hv u, _, heap_here hv i u⟩
  obtain ⟨k0, _, h0⟩ := step 0 (.int .i64 x.k) h
  obtain ⟨k1, _, h1⟩ := step 1 (.int .i64 x.n) h0
  obtain ⟨k2, _, h2⟩ := step 2 (.string ⟨x.t.toArray⟩) h1
  obtain ⟨k3, _, h3⟩ := step 3 av h2
  exact ((k0.trans k1).trans k2).trans k3
/-- What a function that reads a block returns. -/
def BlkOut (res : Except Nat Blk) (w : World) (e : Ending) (w' : World) : Prop := Below w.heap.size w w' ∧ match res with
  | .ok b => ∃ q k, e = .returned (.tuple #[bkVal b (.slice q b.args.length k), .int .i64 0]) ∧ ArgsIn w.heap.size w' q b.args
  | .error n => e = .returned (.tuple #[bkVal Gp.b0 nils, .int .i64 (n : Int)])
theorem take1 (l : List UInt8) {c : UInt8} (hc : c ≠ 0) : decide (l.take 1 = [c]) = decide (l.headD 0 = c) := by
  cases l with
  | nil => rw [decide_eq_false (by simp), decide_eq_false (by simpa using hc.symm)]
  | cons a l => simp
theorem opVs_get (l : List (Int × Int)) (i : Nat) (hi : i < l.length) : (opVs l)[i * 2]? = some (.int .i64 l[i].1) ∧ (opVs l)[i * 2 + 1]? = some (.int .i64 l[i].2) := by
  induction l generalizing i with
  | nil => exact absurd hi (Nat.not_lt_zero _)
  | cons o l ih =>
    have e : opVs (o :: l) = [.int .i64 o.1, .int .i64 o.2] ++ opVs l := rfl
    cases i with
    | zero => rw [e]; exact ⟨rfl, rfl⟩
    | succ i =>
      have := ih i (Nat.lt_of_succ_lt_succ hi)
      rw [e, show (i + 1) * 2 = i * 2 + 1 + 1 by omega, show i * 2 + 1 + 1 + 1 = (i * 2 + 1) + 1 + 1 by omega]
      simpa using this
theorem ops_row {w : World} {B : Nat} {v : Value} {l : List (Int × Int)} (h : w.ownsRow B 92 2 v l.length (opVs l)) : ∃ p c, v = .slice p l.length c ∧ OpsIn B w p l := by
  rcases h.2 with ⟨h1, h2⟩ | ⟨g, c, cur, h1, h2, h3, h4, h5, h6, h7⟩
  · exact ⟨none, 0, by rw [h1, h2], fun hl => absurd hl (by omega)⟩
  · refine ⟨_, c, h1, fun hl => ⟨g, 0, cur, rfl, h2, h3, fun i hi => ?_⟩⟩
    have key : ∀ j, j < l.length * 2 → cur[j]? = (opVs l)[j]? := fun j hj => by
      rw [← h7, List.getElem?_take_of_lt hj, Array.getElem?_toList]
    obtain ⟨g1, g2⟩ := opVs_get l i hi
    rw [Nat.zero_add, key _ (by omega), key _ (by omega)]
    exact ⟨g1, g2⟩

set_option maxRecDepth 100000 in
set_option maxHeartbeats 6400000 in
theorem var_c (S : ByteArray) (hs : S.size ≤ 1000000000) (res : Except Nat Blk) (hr : Hid (bvarV S.data.toList = res)) (w : World) :
    Calls Tryz.prog 59 #[.string S] w (BlkOut res w) := by
  have HS := Lib.hid hs
  have hl := hr.out
  unfold bvarV at hl
  obtain ⟨o, ho⟩ := nb_ex S.data.toList
  rw [ho] at hl
  have HO := Lib.hid ho
  clear hr hs
  have HZ : Hid (ZB w (w.alloc (.cells #[.int .i64 0, .int .i64 0, .string ⟨#[]⟩, .slice none 0 0] 74))) := zb_new w
  go_enter Tryz.func59, Tryz.ntmps59
  go_upto_region 1 with fail
  generalize w.alloc (.cells #[.int .i64 0, .int .i64 0, .string ⟨#[]⟩, .slice none 0 0] 74) = W at HZ ⊢
  go_wp2_with fail
  with_reducible refine (number_c S HS.out o HO _).mono ?_
  rintro e W2 ⟨he, hd⟩
  have HZ2 := Lib.hid (HZ.out.below (drew_below hd))
  clear hd HZ
  have HZ := HZ2
  clear HZ2
  cases o with
  | none =>
    have HQ : Hid (Except.error 3 = res) := hl
    unfold NbOut at he
    simp only [] at he
    subst he
    clear hl ho HO
    obtain ⟨⟨c0, c1, c2, c3⟩, f0, f1, f2, f3⟩ := bk_at HZ.out.a
    have HF := Lib.hid (bk_fin HZ.out Gp.b0 nils)
    go_wp2_with fail
    refine bodyPost_ret (w := bkSet W2 w.heap.size Gp.b0 nils) (v := .tuple #[bkVal Gp.b0 nils, .int .i64 3]) ?_ rfl ?_
    · clear c0 c1 c2 c3 f0 f1 f2 f3
      generalize bkSet W2 w.heap.size Gp.b0 nils = WE at HF ⊢
      obtain ⟨⟨c0, c1, c2, c3⟩, _⟩ := bk_at HF.out.1
      simp [results, Tryz.results59, go_sem, c0, c1, c2, c3] <;> rfl
    · rw [← HQ.out]
      exact ⟨HF.out.2, rfl⟩
  | some x =>
    obtain ⟨D, R⟩ := x
    unfold NbOut at he
    simp only [] at he
    subst he
    obtain ⟨hd0, hd1, hd2, hd3⟩ := number_digs ho
    rw [len_list, len_list] at hd2 hd3
    have hd2 : D.size ≤ S.size := hd2
    have hd3 : R.size ≤ S.size := hd3
    simp only [Option.map_some] at hl
    rw [len_list] at hl
    clear ho HO
    by_cases h2 : 2 < D.size
    · rw [if_pos (.inl h2)] at hl
      have HQ : Hid (Except.error 3 = res) := hl
      have h2i : (2 : Int) < (D.size : Int) := by omega
      clear hl hd0 hd1 hd2 hd3 h2
      obtain ⟨⟨c0, c1, c2, c3⟩, f0, f1, f2, f3⟩ := bk_at HZ.out.a
      have HF := Lib.hid (bk_fin HZ.out Gp.b0 nils)
      go_wp2_with fail
      refine bodyPost_ret (w := bkSet W2 w.heap.size Gp.b0 nils) (v := .tuple #[bkVal Gp.b0 nils, .int .i64 3]) ?_ rfl ?_
      · clear c0 c1 c2 c3 f0 f1 f2 f3
        generalize bkSet W2 w.heap.size Gp.b0 nils = WE at HF ⊢
        obtain ⟨⟨c0, c1, c2, c3⟩, _⟩ := bk_at HF.out.1
        simp [results, Tryz.results59, go_sem, c0, c1, c2, c3] <;> rfl
      · rw [← HQ.out]
        exact ⟨HF.out.2, rfl⟩
    · have h2i : ¬ (2 : Int) < (D.size : Int) := by omega
      have HH : Hid (decide (R.data.toList.take (⟨#[61]⟩ : ByteArray).data.toList.length = (⟨#[61]⟩ : ByteArray).data.toList) = decide (R.data.toList.headD 0 = 61)) := take1 _ (by decide)
      by_cases h61 : R.data.toList.headD 0 = 61
      · rw [if_neg (by rintro (h | h); exact h2 h; exact h h61)] at hl
        have hrp : 0 < R.size := by
          rw [← len_list]
          cases hq : R.data.toList with
          | nil => rw [hq] at h61; exact absurd h61 (by decide)
          | cons a b => simp
        have hX : R.data.toList.drop 1 = (R.extract 1 R.size).data.toList := (ext_list R 1).symm
        rw [hX] at hl
        have hXs : Hid ((R.extract 1 R.size).size ≤ maxLen) := by
          show _ ≤ _
          rw [← len_list, ext_list, List.length_drop, len_list]
          have := HS.out
          unfold maxLen
          omega
        obtain ⟨⟨l, a, e⟩, hp⟩ : ∃ x, Ep.parseV (R.extract 1 R.size).data.toList = x := ⟨_, rfl⟩
        have HP := Lib.hid hp
        rw [hp] at hl
        simp only [] at hl
        obtain ⟨n, hn⟩ : ∃ n, (val D.data.toList : Int) = n := ⟨_, rfl⟩
        have HD := Lib.hid (And.intro hd0 (And.intro hd1 (And.intro (show D.size ≤ 18 by omega) hn)))
        have hr1 : (1 : Int) ≤ (R.size : Int) := by omega
        rw [hn] at hl
        have HL := Lib.hid hl
        rw [decide_eq_true h61] at HH
        clear hl hd0 hd1 hd2 hd3 h2 h61 hX hp hn hrp
        go_wp2_with fail
        with_reducible refine (has_c _ _ _ HH _).mono ?_
        rintro e w3 ⟨rfl, rfl⟩
        go_wp2_with fail
        with_reducible refine (atoi_c D HD.out.1 HD.out.2.1 HD.out.2.2.1 n HD.out.2.2.2 _).mono ?_
        rintro e w4 ⟨rfl, hb4⟩
        have HZ4 := Lib.hid (HZ.out.below hb4)
        clear hb4 HZ
        go_wp2_with fail
        with_reducible refine (parse_w (R.extract 1 R.size) hXs.out _ l a e HP).mono ?_
        rintro en w5 ⟨v, rfl, hv, hb5⟩
        obtain ⟨p, c, rfl, hops⟩ := ops_row hv
        have HZ := Lib.hid (HZ4.out.below hb5)
        have HOP := Lib.hid (hops.mono HZ4.out.b.size)
        clear hb5 hv hops HZ4
        by_cases he : e = 0
        · subst he
          have HQ : Hid (Except.ok ⟨2, n, [], [l]⟩ = res) := HL.out
          clear HL
          have HZA : Hid (ZB w (w5.alloc (.cells #[.slice p l.length c] 77))) := HZ.out.below ((Below.refl _ _).alloc (Nat.le_refl _) _)
          have HAA : Hid (ArgsIn w.heap.size (w5.alloc (.cells #[.slice p l.length c] 77)) (some ⟨w5.heap.size, 0, none⟩) [l]) := by
            intro _
            refine ⟨w5.heap.size, 0, _, rfl, HZ.out.b.size, heap_alloc_new w5 _, fun i hi => ?_⟩
            have h3 : i = 0 := by simp at hi; omega
            subst h3
            exact ⟨p, c, rfl, HOP.out.keep (T := 0) (.of_below ((Below.refl _ _).alloc (Nat.le_refl _) _)) (by decide)⟩
          have HKK := Lib.hid (bkSet_keep HZA.out.a ⟨2, n, [], [l]⟩ (.slice (some ⟨w5.heap.size, 0, none⟩) 1 1))
          have HF := Lib.hid (bk_fin HZA.out ⟨2, n, [], [l]⟩ (.slice (some ⟨w5.heap.size, 0, none⟩) 1 1))
          obtain ⟨⟨c0, c1, c2, c3⟩, f0, f1, f2, f3⟩ := bk_at HZA.out.a
          clear HZ
          go_wp2_with fail
          refine bodyPost_ret (w := bkSet (w5.alloc (.cells #[.slice p l.length c] 77)) w.heap.size ⟨2, n, [], [l]⟩ (.slice (some ⟨w5.heap.size, 0, none⟩) 1 1)) (v := .tuple #[bkVal ⟨2, n, [], [l]⟩ (.slice (some ⟨w5.heap.size, 0, none⟩) 1 1), .int .i64 0]) ?_ rfl ?_
          · clear c0 c1 c2 c3 f0 f1 f2 f3 HKK
            generalize bkSet (w5.alloc (.cells #[.slice p l.length c] 77)) w.heap.size ⟨2, n, [], [l]⟩ (.slice (some ⟨w5.heap.size, 0, none⟩) 1 1) = WE at HF ⊢
            obtain ⟨⟨c0, c1, c2, c3⟩, _⟩ := bk_at HF.out.1
            simp [results, Tryz.results59, go_sem, c0, c1, c2, c3] <;> rfl
          · rw [← HQ.out]
            exact ⟨HF.out.2, _, _, rfl, HAA.out.keep HKK.out (by decide) (by decide)⟩
        · have hei : ((e : Int) != 0) = true := by simp; omega
          have HQ : Hid (Except.error e = res) := by
            show _ = _
            rw [← HL.out, if_pos he]
          clear HL he
          obtain ⟨⟨c0, c1, c2, c3⟩, f0, f1, f2, f3⟩ := bk_at HZ.out.a
          have HF := Lib.hid (bk_fin HZ.out Gp.b0 nils)
          go_wp2_with fail
          refine bodyPost_ret (w := bkSet w5 w.heap.size Gp.b0 nils) (v := .tuple #[bkVal Gp.b0 nils, .int .i64 (e : Int)]) ?_ rfl ?_
          · clear c0 c1 c2 c3 f0 f1 f2 f3
            generalize bkSet w5 w.heap.size Gp.b0 nils = WE at HF ⊢
            obtain ⟨⟨c0, c1, c2, c3⟩, _⟩ := bk_at HF.out.1
            simp [results, Tryz.results59, go_sem, c0, c1, c2, c3] <;> rfl
          · rw [← HQ.out]
            exact ⟨HF.out.2, rfl⟩
      · rw [if_pos (.inr h61)] at hl
        have HQ : Hid (Except.error 3 = res) := hl
        rw [decide_eq_false h61] at HH
        clear hl hd0 hd1 hd2 hd3 h2 h61
        go_wp2_with fail
        with_reducible refine (has_c _ _ _ HH _).mono ?_
        rintro e w3 ⟨rfl, rfl⟩
        obtain ⟨⟨c0, c1, c2, c3⟩, f0, f1, f2, f3⟩ := bk_at HZ.out.a
        have HF := Lib.hid (bk_fin HZ.out Gp.b0 nils)
        go_wp2_with fail
        refine bodyPost_ret (w := bkSet W2 w.heap.size Gp.b0 nils) (v := .tuple #[bkVal Gp.b0 nils, .int .i64 3]) ?_ rfl ?_
        · clear c0 c1 c2 c3 f0 f1 f2 f3
          generalize bkSet W2 w.heap.size Gp.b0 nils = WE at HF ⊢
          obtain ⟨⟨c0, c1, c2, c3⟩, _⟩ := bk_at HF.out.1
          simp [results, Tryz.results59, go_sem, c0, c1, c2, c3] <;> rfl
        · rw [← HQ.out]
          exact ⟨HF.out.2, rfl⟩
end Go.Proofs.YtglmofeeggjemaaGreatDoor.GW
