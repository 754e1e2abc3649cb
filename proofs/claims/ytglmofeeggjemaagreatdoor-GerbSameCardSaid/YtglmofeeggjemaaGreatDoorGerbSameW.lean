/-
  Proved: for every two slices of integers and two integers, commands are the Same just if all that they tell is, wherever they stand (heliographlaw15.GerbSame returns true). Conditions: the row's own.
-/
import Derived.Test.YtglmofeeggjemaaGreatDoorIn
import Derived.Test.YtglmofeeggjemaaGreatDoorIv
import Derived.ProofKit
import Derived.Deep.DeepCutAuto
import Derived.BigRegion
import Derived.Deep.CutBlock
set_option linter.unusedVariables false
namespace Go.Proofs.YtglmofeeggjemaaGreatDoor.GerbSame
open Go.ChangeShapes Go.WideShapes Go.ChangeAt Go.WideMaps Go.WideElems Go.RowKit
open Go.Proofs.YtglmofeeggjemaaGreatDoor.Dp Go.Proofs.YtglmofeeggjemaaGreatDoor.Base Go.Proofs.YtglmofeeggjemaaGreatDoor.DeciW Go.Proofs.YtglmofeeggjemaaGreatDoor.Mem Go.Proofs.YtglmofeeggjemaaGreatDoor.RdW Go.Proofs.YtglmofeeggjemaaGreatDoor.Gp Go.Proofs.YtglmofeeggjemaaGreatDoor.GW

/-- What a turned copy is. -/
def Turned (w0 : World) (gx g : Nat) (a : List (Nat × C)) (x : Nat × C) (wx : World) : Prop := ∃ (d' : C) (np' bp' : Option Addr) (nc' bc' : Nat), d' ≠ x.2 ∧ d'.nums.length ≤ 1000000000 ∧ d'.blocks.length ≤ 1000000000 ∧ wx.heap[gx]? = some (.cells #[.int .i64 (x.1 : Int), .int .i64 d'.k, .int .i64 d'.n, .int .i64 d'.m, .bool d'.on, .string ⟨d'.t.toArray⟩, .string ⟨d'.x.toArray⟩, .string ⟨d'.y.toArray⟩, .string ⟨d'.i.toArray⟩, .string ⟨d'.j.toArray⟩, .slice np' d'.nums.length nc', .slice bp' d'.blocks.length bc'] 32) ∧ NumsIn 0 wx np' d'.nums ∧ BlksIn 0 wx bp' d'.blocks ∧ CIn wx g a ∧ Below w0.heap.size w0 wx
/-- One store into the copy. -/
theorem turned_one {w0 W : World} {gx g : Nat} {a : List (Nat × C)} {x : Nat × C} (d' : C) {np bp : Option Addr} {nc bc o : Nat} {u : Value} (hne : d' ≠ x.2) (hn : d'.nums.length ≤ 1000000000) (hb : d'.blocks.length ≤ 1000000000) {cs : Array Value} (hX : W.heap[gx]? = some (.cells cs 32))
    (hD : (W.setCell ⟨gx, o, none⟩ u).heap[gx]? = some (.cells (cmCells d' (x.1 : Int) (.slice np d'.nums.length nc) (.slice bp d'.blocks.length bc)) 32)) (hnn : NumsIn 0 W np d'.nums) (hbb : BlksIn 0 W bp d'.blocks) (hC : CIn W g a) (hg : g ≠ gx) (hB : Below w0.heap.size w0 W) (h0 : w0.heap.size ≤ gx) : Turned w0 gx g a x (W.setCell ⟨gx, o, none⟩ u) := by
  have hk : KeepT 32 W (W.setCell ⟨gx, o, none⟩ u) := .set hX u
  exact ⟨d', np, bp, nc, bc, hne, hn, hb, hD, hnn.keep hk (by decide), hbb.keep hk (by decide) (by decide) (by decide), hC.keep (Below.heap_setCell _ _ _ _ hg) (fun _ _ h => h.keep hk (by decide)) (fun _ _ h => h.keep hk (by decide) (by decide) (by decide)), hB.setCell h0 _⟩
theorem turned_two {w0 W : World} {gx g : Nat} {a : List (Nat × C)} {x : Nat × C} (d' : C) {np bp : Option Addr} {nc bc o p : Nat} {u v : Value} (hne : d' ≠ x.2) (hn : d'.nums.length ≤ 1000000000) (hb : d'.blocks.length ≤ 1000000000) {cs ds : Array Value} (hX : W.heap[gx]? = some (.cells cs 32)) (hX2 : (W.setCell ⟨gx, o, none⟩ u).heap[gx]? = some (.cells ds 32))
    (hD : ((W.setCell ⟨gx, o, none⟩ u).setCell ⟨gx, p, none⟩ v).heap[gx]? = some (.cells (cmCells d' (x.1 : Int) (.slice np d'.nums.length nc) (.slice bp d'.blocks.length bc)) 32)) (hnn : NumsIn 0 W np d'.nums) (hbb : BlksIn 0 W bp d'.blocks) (hC : CIn W g a) (hg : g ≠ gx) (hB : Below w0.heap.size w0 W) (h0 : w0.heap.size ≤ gx) : Turned w0 gx g a x ((W.setCell ⟨gx, o, none⟩ u).setCell ⟨gx, p, none⟩ v) := by
  have hk : KeepT 32 W (W.setCell ⟨gx, o, none⟩ u) := .set hX u
  exact turned_one d' hne hn hb hX2 hD (hnn.keep hk (by decide)) (hbb.keep hk (by decide) (by decide) (by decide)) (hC.keep (Below.heap_setCell _ _ _ _ hg) (fun _ _ h => h.keep hk (by decide)) (fun _ _ h => h.keep hk (by decide) (by decide) (by decide))) hg (hB.setCell h0 _) h0
theorem info_i64 : (Tryz.prog.info? 2).map (fun i => (i.zero, i.size, i.bytes)) = some (some (.int .i64 0), 1, 8) := by kernel_rfl
theorem nums_own {w : World} {B n : Nat} {v : Value} {zs : List Int} (h : w.ownsRow B 2 1 v n (zs.map (Value.int .i64))) (hl : 0 < zs.length) : ∃ (p : Option Addr) (c : Nat), v = .slice p zs.length c ∧ NumsIn 0 w p zs := by
  have hlen := h.1
  rw [List.length_map, Nat.mul_one] at hlen
  subst hlen
  rcases h.2 with ⟨h0, h1⟩ | ⟨g', cap', cur, hv, hb, hg, hnc, hcm, hcs, htake⟩
  · omega
  · refine ⟨_, _, hv, fun _ => ⟨g', 0, cur, rfl, Nat.zero_le _, hg, fun i hi => ?_⟩⟩
    have : (zs.map (Value.int .i64))[i]? = some (.int .i64 zs[i]) := by simp [hi]
    rw [← htake, Nat.mul_one, List.getElem?_take_of_lt hi] at this
    rw [Nat.zero_add]
    simpa using this
set_option maxRecDepth 100000 in
theorem wpList_append_nums {B : Nat} {w : World} {ops : Array Oper} {rest : List Oper} {o : Oper} {a : Act} {Q : Exit → Act → World → Prop} (hgd : o.guard = none) (s x : Operand)
    (ho : o.op = .call { callee := .builtin .append, args := #[s, x], argTypes := #[22, 22] })
    (base : Nat) (v : Value) (n : Nat) (zs m : List Int) (hs : a.eval s = v) (hn : n = zs.length) (hown : w.ownsRow base 2 1 v n (zs.map (Value.int .i64)))
    (p : Option Addr) (k c : Nat) (hx : a.eval x = .slice p k c) (hk : k = m.length) (hc : NumsIn B w p m) (hl : zs.length + m.length ≤ 1000000000) (hbase : base ≤ w.heap.size)
    (h : ∀ v' w', w'.ownsRow base 2 1 v' (zs ++ m).length ((zs ++ m).map (Value.int .i64)) → w.grownBy w' v.ownBlock → wpList Tryz.prog ops Q rest (a.put o.dst v') w') : wpList Tryz.prog ops Q (o :: rest) a w := by
  subst hn hk
  obtain ⟨i0, hi0, hz0, hz1, hz2⟩ := info_parts info_i64
  have e2 : (zs ++ m).length = zs.length + m.length := List.length_append
  have hnone : m = [] → ∀ c, (Builtin.append_ #[22, 22] o.type #[v, .slice none 0 c]).run Tryz.prog w = .ok v w := by
    intro _ c
    rcases hown.2 with ⟨rfl, h0⟩ | ⟨g, cap, cur, rfl, _, _, hnc, _⟩
    · simp [Builtin.append_, run_underlying Tryz.underlying22, sizeOf, typeInfo, hi0, Builtin.lenOf, Builtin.firstCells]
    · simp [Builtin.append_, run_underlying Tryz.underlying22, sizeOf, typeInfo, hi0, Builtin.lenOf, Builtin.firstCells, storeCells, hnc]
  cases p with
  | none =>
    have hm : m = [] := by
      cases m with
      | nil => rfl
      | cons z m =>
        obtain ⟨b, o', cs, e, _⟩ := hc (by simp)
        cases e
    subst hm
    refine wpList_plain hgd fun K hK => ?_
    have hrun := hnone rfl c
    unfold Oper.wp
    simp [execOp, ho, resolve, invoke, builtin, hs, hx, hrun, Result.andThen]
    refine hK _ _ (h v w ?_ (World.grownBy.refl w _))
    rw [List.append_nil]; exact hown
  | some ad =>
    refine wpList_append_own w hgd s x 22 ho base 2 i0 _ 1 8 Tryz.underlying22 hi0 hz0 hz1 hz2 rfl (by decide) v zs.length (zs.map (Value.int .i64)) hs hown ad m.length c (m.map (Value.int .i64)) hx (by simp) (fun j u hu => ?_) (fun u hu => ?_) (by unfold maxLen; omega) (by omega) hbase (fun v' w' h2 h3 _ => h v' w' (by rw [e2, List.map_append]; exact h2) h3)
    · have hj : j < m.length := by simpa using (List.getElem?_eq_some_iff.1 hu).1
      obtain ⟨b, o', cs, e, _, hh, hcc⟩ := hc (by omega)
      injection e with e
      subst e
      rw [Go.WideShapes.add_plain]
      have e3 : (m.map (Value.int .i64))[j]? = some (.int .i64 m[j]) := by simp [hj]
      rw [e3] at hu
      injection hu with hu
      subst hu
      simp [World.cell?, hh, hcc j hj]
    · obtain ⟨z, _, rfl⟩ := List.mem_map.1 hu
      rfl
theorem cmdsW_nums {w : Wd} {ws : List Wd} {l : List C} (hw : w.t.length ≤ 1000000) (h : cmdsW w ws = .ok l) : ∀ c ∈ l, c.nums.length ≤ 10000000 := by
  unfold cmdsW at h
  split at h
  · unfold groupV at h
    split at h
    · split at h
      · cases h
      · rename_i c hc
        split at h
        · cases h
          intro x hx
          rw [List.mem_singleton.1 hx]
          exact (extV_few hw hc).1
        · cases h
    · split at h
      · cases h
      · split at h
        split at h
        · cases h
        · cases h
          intro x hx
          rw [List.mem_singleton.1 hx]
          exact Nat.zero_le _
  · split at h
    · cases h
    · rename_i l2 hl
      cases h
      exact fun c hc => (plainV_few hl c hc).1
theorem parseG_few {s : List UInt8} {l : List (Nat × C)} {i e : Nat} (h : parseG s = (l, i, e)) : ∀ x ∈ l, x.2.nums.length ≤ 10000000 := fun x hx =>
  (parseG_all (fun c => c.nums.length ≤ 10000000) (fun _ => True) (fun _ _ _ => cmdsW_nums) h (fun _ _ _ _ _ _ => trivial) x hx).1
theorem row_slice {w : World} {B n : Nat} {v : Value} {xs : List Value} (h : w.ownsRow B 2 1 v n xs) : ∃ p c, v = .slice p n c := by
  rcases h.2 with ⟨h0, h1⟩ | ⟨g', cap', cur, hv, _⟩
  · exact ⟨none, 0, by rw [h0, h1]⟩
  · exact ⟨_, _, hv⟩
theorem nums_new (w : World) (z : Int) : NumsIn 0 (w.alloc (.cells #[.int .i64 z] 2)) (some ⟨w.heap.size, 0, none⟩) [z] := fun _ => ⟨w.heap.size, 0, _, rfl, Nat.zero_le _, heap_alloc_new w _, fun i hi => by
  obtain rfl : i = 0 := by simp at hi; omega
  rfl⟩

set_option maxRecDepth 100000 in
set_option maxHeartbeats 32000000 in
theorem walk (p0 : Option Addr) (c0 : Nat) (l0 : List Int) (g0 : l0.length ≤ c0) (k0 : c0 ≤ maxLen) (p1 : Option Addr) (c1 : Nat) (l1 : List Int) (g1 : l1.length ≤ c1) (k1 : c1 ≤ maxLen) (x1 : Int) (_h1 : -9223372036854775808 ≤ x1) (_h2 : x1 ≤ 9223372036854775807) (x2 : Int) (_h3 : -9223372036854775808 ≤ x2) (_h4 : x2 ≤ 9223372036854775807) (w : World) (z0 : Zs w p0 l0) (z1 : Zs w p1 l1) :
    Calls Tryz.prog 3 #[.slice p0 l0.length c0, .slice p1 l1.length c1, .int .i64 x1, .int .i64 x2] w fun e w' => e = .returned (.bool true) ∧ Below w.heap.size w w' := by
  clear _h1 _h2 _h3 _h4
  have Z0 := Lib.hid z0
  have Z1 := Lib.hid z1
  clear z0 z1
  go_enter Tryz.func3, Tryz.ntmps3
  go_wp2_with fail
  refine (file_c p0 l0 c0 g0 k0 true w Z0).mono ?_
  rintro en w1 ⟨⟨S, rfl, hS⟩, hb1⟩
  have HB1 := Lib.hid hb1
  have Z2 := Lib.hid (Z1.out.below hb1)
  have sS : S.size ≤ 200000 := hS.2.2
  clear hS hb1 g0 k0 Z0 Z1
  obtain ⟨a, i, e, ha⟩ : ∃ a i e, parseG S.data.toList = (a, i, e) := ⟨_, _, _, rfl⟩
  have HA := Lib.hid ha
  have FA := Lib.hid (parseG_fin ha)
  have OKA := Lib.hid (parseG_okc ha)
  have FEW : Hid (∀ x ∈ a, x.2.nums.length ≤ 10000000) := parseG_few ha
  have ATA : Hid (∀ x ∈ a, x.1 ≤ 200000) := by
    have h := parseG_all (fun _ => True) (fun n => n ≤ S.data.toList.length) (fun _ _ _ _ _ _ _ => trivial) ha (fun ws i e hw => (wordsV_at hw).1)
    intro x hx
    have := (h x hx).2
    rw [len_list] at this
    omega
  clear ha
  go_wp2_with fail
  refine (gparse_c S (by unfold maxLen; omega) w1 a i e HA).mono ?_
  rintro en w2 ⟨hb2, va, rfl, ho2⟩
  have HB2 := Lib.hid (HB1.out.trans (hb2.mono HB1.out.size))
  have OA2 : Hid (CmdsAt 0 w2 va a) := ho2.mono (Nat.zero_le _)
  have Z3 := Lib.hid (Z2.out.below hb2)
  clear hb2 ho2 HB1 Z2
  go_wp2_with fail
  refine (file_c p1 l1 c1 g1 k1 true w2 Z3).mono ?_
  rintro en w3 ⟨⟨T, rfl, hT⟩, hb3⟩
  have HB3 := Lib.hid (HB2.out.trans (hb3.mono HB2.out.size))
  have OA3 := Lib.hid (OA2.out.below hb3)
  have sT : T.size ≤ 200000 := hT.2.2
  clear hT hb3 g1 k1 Z3 HB2 OA2
  obtain ⟨b, j, f, hb⟩ : ∃ b j f, parseG T.data.toList = (b, j, f) := ⟨_, _, _, rfl⟩
  have HB := Lib.hid hb
  have FB := Lib.hid (parseG_fin hb)
  clear hb
  go_wp2_with fail
  refine (gparse_c T (by unfold maxLen; omega) w3 b j f HB).mono ?_
  rintro en w4 ⟨hb4, vb, rfl, ho4⟩
  have HB4 := Lib.hid (HB3.out.trans (hb4.mono HB3.out.size))
  have OB4 : Hid (CmdsAt 0 w4 vb b) := ho4.mono (Nat.zero_le _)
  have OA4 := Lib.hid (OA3.out.below hb4)
  clear hb4 ho4 HB3 OA3
  obtain ⟨pa, ca, rfl, hra⟩ := cmds_read OA4.out
  obtain ⟨pb, cb, rfl, hrb⟩ := cmds_read OB4.out
  have RA4 := Lib.hid hra
  have RB4 := Lib.hid hrb
  clear hra hrb OB4
  have hal : a.length ≤ 2000000 := FA.out.1
  obtain ⟨q, hq⟩ : ∃ q, decide (a.map Prod.snd = b.map Prod.snd) = q := ⟨_, rfl⟩
  have HQ := Lib.hid hq
  clear hq
  have HFA := Lib.hid FA.out.2
  go_wp2_with fail
  refine (gSame_c 0 0 pa pb a b ca cb (by omega) HFA w4 RA4 RB4 q HQ).mono ?_
  rintro en w5 ⟨rfl, hb5⟩
  have HB5 := Lib.hid (HB4.out.trans (hb5.mono HB4.out.size))
  have RA5 := Lib.hid (RA4.out.below hb5)
  have RB5 := Lib.hid (RB4.out.below hb5)
  have OA5 := Lib.hid (OA4.out.below hb5)
  clear hb5 HB4 RA4 RB4 OA4
  go_wp2_with fail
  refine (rSame_c 0 0 pa pb a b ca cb (by omega) HFA w5 RA5 RB5 q HQ).mono ?_
  rintro en w6 ⟨rfl, hb6⟩
  have HB6 := Lib.hid (HB5.out.trans (hb6.mono HB5.out.size))
  have RA6 := Lib.hid (RA5.out.below hb6)
  have OA6 := Lib.hid (OA5.out.below hb6)
  clear hb6 HB5 RA5 RB5 OA5
  have hqq : (q != q) = false := bne_self_eq_false _
  go_wp2_with fail
  refine (gSame_c 0 0 pa pa a a ca ca (by omega) HFA w6 RA6 RA6 true (Lib.hid (decide_eq_true rfl))).mono ?_
  rintro en w7 ⟨rfl, hb7⟩
  have HB7 := Lib.hid (HB6.out.trans (hb7.mono HB6.out.size))
  have RA7 := Lib.hid (RA6.out.below hb7)
  have OA7 := Lib.hid (OA6.out.below hb7)
  clear hb7 HB6 RA6 OA6 hqq HQ
  have FAB : ([] : List (Nat × C)).length + a.length ≤ 100000000 := by rw [List.length_nil]; omega
  have HOWN : Hid ((w7.alloc (.cells #[] 32)).ownsRow w7.heap.size 32 12 (.slice (some ⟨w7.heap.size, 0, none⟩) 0 0) 0 []) :=
    ⟨rfl, .inr ⟨_, 0, #[], rfl, Nat.le_refl _, heap_alloc_new w7 _, Nat.le_refl _, by unfold maxLen; decide, rfl, rfl⟩⟩
  go_upto_region 6 with (at_builtin; refine wpList_append_cmds (B := 0) (W := w7) (by rfl) _ _ rfl (.slice (some ⟨w7.heap.size, 0, none⟩) 0 0) [] a [] (by rfl) ((Below.refl _ _).alloc (Nat.le_refl _) _) HOWN.out RowsAt.nil (.slice pa a.length ca) (by rfl) OA7.out FAB ?_; intro vc W8 zs8 ho8 hr8 hb8; skip)
  rw [List.nil_append] at ho8 hr8
  have HB8 := Lib.hid (HB7.out.trans (hb8.mono HB7.out.size))
  have RA8 := Lib.hid (RA7.out.below hb8)
  have hr8b := Lib.hid (hr8.belw hb8)
  have HO8 := Lib.hid ho8
  have HB78 := Lib.hid hb8
  clear hb8 hr8 ho8 HOWN OA7
  by_cases ha0 : a.length = 0
  · have hcl : ∃ p c, vc = .slice p a.length c := by
      obtain ⟨p, c, e, _⟩ := cmds_read (B := 0) ⟨zs8, row_mono HO8.out (Nat.zero_le _), hr8b.out⟩
      exact ⟨p, c, e⟩
    obtain ⟨p, c, rfl⟩ := hcl
    have hai : ((a.length : Int) == 0) = true := by rw [ha0]; rfl
    go_wp2_with fail
    refine (gawake_c W8).mono ?_
    rintro en w10 ⟨rfl, hb10⟩
    have HB10 := Lib.hid (HB8.out.trans (hb10.mono HB8.out.size))
    clear hb10
    go_wp2_with fail
    go_ret
    exact ⟨rfl, HB10.out⟩
  · have hap : 0 < a.length := by omega
    have hai : ((a.length : Int) == 0) = false := by rw [beq_eq_false_iff_ne]; omega
    have hane : ¬ (a.length : Int) = 0 := by omega
    obtain ⟨g', cap', rfl, hg', hcin⟩ := cin_of HO8.out hr8b.out hap
    have HC8 := Lib.hid hcin
    clear hcin HO8 hr8b
    obtain ⟨kk, hkk, hkk2⟩ : ∃ kk : Nat, bits .and .i64 x1 65535 = (kk : Int) ∧ kk < 65536 := ⟨(x1 % 65536).toNat, by rw [Bits.and65535]; omega, by omega⟩
    obtain ⟨K, hK, hK2⟩ : ∃ K : Nat, (kk : Int) % (a.length : Int) = (K : Int) ∧ K < a.length := ⟨kk % a.length, by omega, Nat.mod_lt _ hap⟩
    have hKi : (K : Int) < (a.length : Int) := by omega
    obtain ⟨y, hy, hy2⟩ : ∃ y : Nat, bits .and .i64 x2 7 = (y : Int) ∧ y ≤ 7 := ⟨(x2 % 8).toNat, by rw [Bits.and7]; omega, by omega⟩
    obtain ⟨x, hx⟩ : ∃ x, a[K] = x := ⟨_, rfl⟩
    obtain ⟨np, bp, nc, bc, hten, hnn, hbb⟩ := HC8.out.at K hK2
    rw [hx] at hten hnn hbb
    have hmem : x ∈ a := by rw [← hx]; exact List.getElem_mem hK2
    have HXO : Hid (Okc x.2) := OKA.out x hmem
    have HXF : Hid (finC x.2) := FA.out.2 x hmem
    have HFW : Hid (x.2.nums.length ≤ 10000000) := FEW.out x hmem
    have hxa : x.1 ≤ 200000 := ATA.out x hmem
    have HXE := Lib.hid hx
    have HNX := Lib.hid hnn
    have HBX := Lib.hid hbb
    clear hx hnn hbb hmem
    obtain ⟨s0, s1, s2, s3, s4, s5, s6, s7, s8, s9, s10, s11⟩ := hten
    go_upto_region 9 with fail
    have HB9 : Hid (Below W8.heap.size W8 (W8.alloc (.cells #[.int .i64 (x.1 : Int), .int .i64 x.2.k, .int .i64 x.2.n, .int .i64 x.2.m, .bool x.2.on, .string ⟨x.2.t.toArray⟩, .string ⟨x.2.x.toArray⟩, .string ⟨x.2.y.toArray⟩, .string ⟨x.2.i.toArray⟩, .string ⟨x.2.j.toArray⟩, .slice np x.2.nums.length nc, .slice bp x.2.blocks.length bc] 32))) := (Below.refl _ _).alloc (Nat.le_refl _) _
    have HX9 := Lib.hid (heap_alloc_new W8 (.cells #[.int .i64 (x.1 : Int), .int .i64 x.2.k, .int .i64 x.2.n, .int .i64 x.2.m, .bool x.2.on, .string ⟨x.2.t.toArray⟩, .string ⟨x.2.x.toArray⟩, .string ⟨x.2.y.toArray⟩, .string ⟨x.2.i.toArray⟩, .string ⟨x.2.j.toArray⟩, .slice np x.2.nums.length nc, .slice bp x.2.blocks.length bc] 32))
    have HC9 := Lib.hid (HC8.out.below HB9.out)
    have HN9 := Lib.hid (HNX.out.below HB9.out)
    have HL9 := Lib.hid (HBX.out.below HB9.out)
    have RA9 := Lib.hid (RA8.out.below HB9.out)
    have hgx : g' < W8.heap.size := HC8.out.lt
    have HB79 := Lib.hid (HB78.out.trans (HB9.out.mono HB78.out.size))
    have h79 : w7.heap.size ≤ W8.heap.size := HB78.out.size
    obtain ⟨gx, hgxe⟩ : ∃ gx, W8.heap.size = gx := ⟨_, rfl⟩
    rw [hgxe] at HX9 hgx h79
    generalize hW9 : W8.alloc (.cells #[.int .i64 (x.1 : Int), .int .i64 x.2.k, .int .i64 x.2.n, .int .i64 x.2.m, .bool x.2.on, .string ⟨x.2.t.toArray⟩, .string ⟨x.2.x.toArray⟩, .string ⟨x.2.y.toArray⟩, .string ⟨x.2.i.toArray⟩, .string ⟨x.2.j.toArray⟩, .slice np x.2.nums.length nc, .slice bp x.2.blocks.length bc] 32) = W9 at HB9 HX9 HC9 HN9 HL9 RA9 HB79 ⊢
    clear hW9 s0 s1 s2 s3 s4 s5 s6 s7 s8 s9 s10 s11 HB9 HC8 HNX HBX HB78 RA8
    rw [hgxe]
    clear hgxe
    have hgg : g' ≠ gx := by omega
    obtain ⟨BT, hBT⟩ : ∃ B : ByteArray, (⟨x.2.t.toArray⟩ : ByteArray) = B := ⟨_, rfl⟩
    obtain ⟨BX, hBX⟩ : ∃ B : ByteArray, (⟨x.2.x.toArray⟩ : ByteArray) = B := ⟨_, rfl⟩
    obtain ⟨BY, hBY⟩ : ∃ B : ByteArray, (⟨x.2.y.toArray⟩ : ByteArray) = B := ⟨_, rfl⟩
    obtain ⟨BI, hBI⟩ : ∃ B : ByteArray, (⟨x.2.i.toArray⟩ : ByteArray) = B := ⟨_, rfl⟩
    obtain ⟨BJ, hBJ⟩ : ∃ B : ByteArray, (⟨x.2.j.toArray⟩ : ByteArray) = B := ⟨_, rfl⟩
    have zT : ¬ 9223372036854775807 < BT.size + 1 := by rw [← hBT]; show ¬ _ < x.2.t.length + 1; have := HXO.out.t; omega
    have zY : ¬ 9223372036854775807 < BY.size + 1 := by rw [← hBY]; show ¬ _ < x.2.y.length + 1; have := HXO.out.y; omega
    have zJ : ¬ 9223372036854775807 < BJ.size + 1 := by rw [← hBJ]; show ¬ _ < x.2.j.length + 1; have := HXO.out.j; omega
    have HBS := Lib.hid (And.intro hBT (And.intro hBX (And.intro hBY (And.intro hBI hBJ))))
    have HXS := HX9.out
    rw [hBT, hBX, hBY, hBI, hBJ] at HXS
    have HXB := Lib.hid HXS
    clear hBT hBX hBY hBI hBJ HXS
    have hn1 : IntKind.i64.wrap (x.2.n + 1) = x.2.n + 1 := by rw [IntKind.wrap_i64]; have := HXO.out.n0; have := HXO.out.n1; omega
    have hm1 : IntKind.i64.wrap (x.2.m + 1) = x.2.m + 1 := by rw [IntKind.wrap_i64]; have := HXO.out.m0; have := HXO.out.m1; omega
    have hk1 : IntKind.i64.wrap (x.2.k + 1) = x.2.k + 1 := by rw [IntKind.wrap_i64]; have := HXO.out.k0; have := HXO.out.k1; omega
    go_upto_block 0 with fail
    go_cut [] (fun wx => Turned w7 gx g' a x wx)
    case first =>
      obtain ⟨⟨d0, d1, d2, d3, d4, d5, d6, d7, d8, d9, d10, d11⟩, f0, f1, f2, f3, f4, f5, f6, f7, f8, f9, f10, f11⟩ := cm_at HXB.out
      have hy3 : y = 0 ∨ y = 1 ∨ y = 2 ∨ y = 3 ∨ y = 4 ∨ y = 5 ∨ y = 6 ∨ y = 7 := by omega
      rcases hy3 with rfl | rfl | rfl | rfl | rfl | rfl | rfl | rfl
      · go_wp2_with fail
        go_meet
        refine turned_one (np := np) (bp := bp) (nc := nc) (bc := bc) { x.2 with n := x.2.n + 1 } ?_ HXF.out.1 HXF.out.2.1 HX9.out ?_ HN9.out HL9.out HC9.out hgg HB79.out h79
        · intro e; have := congrArg C.n e; simp at this <;> omega
        · exact st2 HX9.out _
      · go_wp2_with fail
        go_meet
        refine turned_one (np := np) (bp := bp) (nc := nc) (bc := bc) { x.2 with m := x.2.m + 1 } ?_ HXF.out.1 HXF.out.2.1 HX9.out ?_ HN9.out HL9.out HC9.out hgg HB79.out h79
        · intro e; have := congrArg C.m e; simp at this <;> omega
        · exact st3 HX9.out _
      · go_wp2_with fail
        go_meet
        refine turned_one (np := np) (bp := bp) (nc := nc) (bc := bc) { x.2 with on := !x.2.on } ?_ HXF.out.1 HXF.out.2.1 HX9.out ?_ HN9.out HL9.out HC9.out hgg HB79.out h79
        · intro e; have := congrArg C.on e; simp at this
        · exact st4 HX9.out _
      · go_wp2_with fail
        go_meet
        refine turned_one (np := np) (bp := bp) (nc := nc) (bc := bc) { x.2 with t := x.2.t ++ [120] } ?_ HXF.out.1 HXF.out.2.1 HX9.out ?_ HN9.out HL9.out HC9.out hgg HB79.out h79
        · intro e; have := congrArg (fun d => (C.t d).length) e; simp at this
        · rw [← HBS.out.1, cat_eq]; exact st5 HX9.out _
      · go_wp2_with fail
        go_meet
        refine turned_two (np := np) (bp := bp) (nc := nc) (bc := bc) { x.2 with x := x.2.y ++ [49], y := x.2.x } ?_ HXF.out.1 HXF.out.2.1 HX9.out (st6 HX9.out _) ?_ HN9.out HL9.out HC9.out hgg HB79.out h79
        · intro e
          have e1 := congrArg (fun d => (C.x d).length) e
          have e2 := congrArg (fun d => (C.y d).length) e
          simp only [List.length_append, List.length_singleton] at e1 e2
          omega
        · rw [← HBS.out.2.1, ← HBS.out.2.2.1, cat_eq]; exact st7 (st6 HX9.out _) _
      · go_wp2_with fail
        go_meet
        refine turned_two (np := np) (bp := bp) (nc := nc) (bc := bc) { x.2 with i := x.2.j ++ [49], j := x.2.i } ?_ HXF.out.1 HXF.out.2.1 HX9.out (st8 HX9.out _) ?_ HN9.out HL9.out HC9.out hgg HB79.out h79
        · intro e
          have e1 := congrArg (fun d => (C.i d).length) e
          have e2 := congrArg (fun d => (C.j d).length) e
          simp only [List.length_append, List.length_singleton] at e1 e2
          omega
        · rw [← HBS.out.2.2.2.1, ← HBS.out.2.2.2.2, cat_eq]; exact st9 (st8 HX9.out _) _
      · have HOW : Hid ((W9.alloc (.cells #[] 2)).ownsRow W9.heap.size 2 1 (.slice (some ⟨W9.heap.size, 0, none⟩) 0 0) 0 (([] : List Int).map (Value.int .i64))) :=
          ⟨rfl, .inr ⟨_, 0, #[], rfl, Nat.le_refl _, heap_alloc_new W9 _, Nat.le_refl _, by unfold maxLen; decide, rfl, rfl⟩⟩
        have HBA : Hid (Below W9.heap.size W9 (W9.alloc (.cells #[] 2))) := (Below.refl _ _).alloc (Nat.le_refl _) _
        have HNA := Lib.hid (HN9.out.below HBA.out)
        have HXA := one_below HXB.out HBA.out
        obtain ⟨⟨_, _, _, _, _, _, _, _, _, _, a10, _⟩, _⟩ := cm_at HXA
        have HXL : x.2.nums.length ≤ 10000000 := HFW.out
        have hgx9 : gx < W9.heap.size := (Array.getElem?_eq_some_iff.1 HXB.out).1
        clear HXA
        have HXN : Hid (x.2.nums.length + 1 ≤ 1000000000) := by show _ ≤ _; omega
        go_wp2_with (first
          | (at_builtin; refine wpList_append_nums (B := 0) (by rfl) _ _ rfl W9.heap.size (.slice (some ⟨W9.heap.size, 0, none⟩) 0 0) 0 [] x.2.nums (by rfl) rfl HOW.out np x.2.nums.length nc (by rfl) rfl HNA.out (by rw [List.length_nil]; omega) (by simp) ?_; intro v1 w1 hown1 hgrow1; rw [List.nil_append] at hown1; obtain ⟨pz, cz, rfl⟩ := row_slice hown1; have HO1 := Lib.hid hown1; have HG1 := Lib.hid hgrow1; have hz1 := HBA.out.grown hgrow1 HBA.out.size (fun k hk => by injection hk with hk; rw [← hk]; exact Nat.le_refl _); have HZ1 := Lib.hid hz1; have b10 := (cm_at (one_below HXB.out hz1)).1.2.2.2.2.2.2.2.2.2.2.1; clear hz1 hown1 hgrow1 a10)
          | (at_builtin; refine wpList_append_nums (B := 0) (by rfl) _ _ rfl W9.heap.size (.slice pz x.2.nums.length cz) x.2.nums.length x.2.nums [1] (by rfl) rfl (row_below HO1.out ((Below.refl _ _).alloc (Nat.le_refl _) _)) (some ⟨w1.heap.size, 0, none⟩) 1 1 (by rfl) rfl (nums_new w1 1) HXN.out (Nat.le_trans HZ1.out.size (by simp)) ?_; intro v2 w2 hown2 hgrow2; obtain ⟨py, cy, rfl, hn2⟩ := nums_own hown2 (by simp); have hz2 := (HZ1.out.alloc HZ1.out.size (.cells #[.int .i64 1] 2)).grown hgrow2 (Nat.le_trans HZ1.out.size (by simp)) (fun k hk => (HO1.out.lt k hk).1); have HN2 := Lib.hid hn2; have HZ2 := Lib.hid hz2; have HX2 := one_below HX9.out hz2; have c10 := (cm_at HX2).1.2.2.2.2.2.2.2.2.2.2.1; have k10 := (cm_at HX2).2.2.2.2.2.2.2.2.2.2.2.1; have HX2h := Lib.hid HX2; clear hz2 hn2 hown2 hgrow2 HX2 b10))
        go_meet
        refine turned_one (np := py) (bp := bp) (nc := cy) (bc := bc) { x.2 with nums := x.2.nums ++ [1] } ?_ ?_ HXF.out.2.1 HX2h.out ?_ HN2.out (HL9.out.below HZ2.out) (HC9.out.below HZ2.out) hgg (HB79.out.trans (HZ2.out.mono HB79.out.size)) h79
        · intro e; have := congrArg (fun d => (C.nums d).length) e; simp at this
        · show (x.2.nums ++ [1]).length ≤ _
          rw [List.length_append]
          exact HXN.out
        · have e : (x.2.nums ++ [1]).length = x.2.nums.length + 1 := by simp
          show (w2.setCell ⟨gx, 10, none⟩ (.slice py (x.2.nums.length + 1) cy)).heap[gx]? = some (.cells (cmCells { x.2 with nums := x.2.nums ++ [1] } (x.1 : Int) (.slice py (x.2.nums ++ [1]).length cy) (.slice bp x.2.blocks.length bc)) 32)
          rw [e]
          exact st10 HX2h.out _
      · go_wp2_with fail
        go_meet
        refine turned_one (np := np) (bp := bp) (nc := nc) (bc := bc) { x.2 with k := x.2.k + 1 } ?_ HXF.out.1 HXF.out.2.1 HX9.out ?_ HN9.out HL9.out HC9.out hgg HB79.out h79
        · intro e; have := congrArg C.k e; simp at this <;> omega
        · exact st1 HX9.out _
    case rest =>
    obtain ⟨d', np', bp', nc', bc', HNE0, HDL0, HDB0, HX0, HN0, HBK0, HC0, HB0⟩ := hcut
    have HNE := Lib.hid HNE0
    have HX := Lib.hid HX0
    have HC := Lib.hid HC0
    have HBw := Lib.hid HB0
    have HN := Lib.hid HN0
    have HBK := Lib.hid HBK0
    clear HNE0 HX0 HC0 HB0 HN0 HBK0
    obtain ⟨⟨d0, d1, d2, d3, d4, d5, d6, d7, d8, d9, d10, d11⟩, _⟩ := cm_at HX.out
    obtain ⟨nq, bq, cq, mq, ⟨s0, s1, s2, s3, s4, s5, s6, s7, s8, s9, s10, s11⟩, _⟩ := HC.out.at K hK2
    have hfr := HC.out.frozen
    have f0 := hfr (K * 12)
    have f1 := hfr (K * 12 + 1)
    have f2 := hfr (K * 12 + 2)
    have f3 := hfr (K * 12 + 3)
    have f4 := hfr (K * 12 + 4)
    have f5 := hfr (K * 12 + 5)
    have f6 := hfr (K * 12 + 6)
    have f7 := hfr (K * 12 + 7)
    have f8 := hfr (K * 12 + 8)
    have f9 := hfr (K * 12 + 9)
    have f10 := hfr (K * 12 + 10)
    have f11 := hfr (K * 12 + 11)
    clear hfr HXB HBS hn1 hm1 hk1 zT zY zJ HC9 HN9 HL9 HX9 HB79 RA9
    have HC10 := Lib.hid (HC.out.put K hK2 (x.1, d') nc' bc' HN.out HBK.out)
    have HB10 := Lib.hid (put12_below HBw.out hg' (K * 12) d' (x.1 : Int) (.slice np' d'.nums.length nc') (.slice bp' d'.blocks.length bc'))
    go_upto_region 25 with fail
    go_region
    change Exit.then _ _ _ _ (World.drew (put12 wc g' (K * 12) d' (x.1 : Int) (.slice np' d'.nums.length nc') (.slice bp' d'.blocks.length bc')))
    have HC10d := Lib.hid (HC10.out.below (Below.refl _ _).drew)
    have HB10d := Lib.hid HB10.out.drew
    clear HC10 HB10 d0 d1 d2 d3 d4 d5 d6 d7 d8 d9 d10 d11 s0 s1 s2 s3 s4 s5 s6 s7 s8 s9 s10 s11 f0 f1 f2 f3 f4 f5 f6 f7 f8 f9 f10 f11 HX
    generalize World.drew (put12 wc g' (K * 12) d' (x.1 : Int) (.slice np' d'.nums.length nc') (.slice bp' d'.blocks.length bc')) = W10 at HC10d HB10d ⊢
    have RA10 := Lib.hid (RA7.out.below HB10d.out)
    have HSF : Hid (decide (a.map Prod.snd = (a.set K (x.1, d')).map Prod.snd) = false) := by
      refine decide_eq_false (fun e => ?_)
      have e1 : (a.map Prod.snd)[K]'(by simpa using hK2) = ((a.set K (x.1, d')).map Prod.snd)[K]'(by simpa using hK2) := by simp only [e]
      simp only [List.getElem_map, List.getElem_set_self] at e1
      rw [HXE.out] at e1
      exact HNE.out e1.symm
    go_wp2_with fail
    have hsame := gSame_c 0 0 pa (some ⟨g', 0, none⟩) a (a.set K (x.1, d')) ca cap' (by omega) HFA W10 RA10 (Lib.hid HC10d.out.reads) false HSF
    rw [List.length_set] at hsame
    refine hsame.mono ?_
    clear hsame
    rintro en W11 ⟨rfl, hb11⟩
    have RA11 := Lib.hid (RA10.out.below hb11)
    have HC11 := Lib.hid (HC10d.out.below hb11)
    have HB11 := Lib.hid (HB10d.out.trans (hb11.mono HB10d.out.size))
    clear hb11 RA10 HC10d HB10d HSF
    have hKs : K < (a.set K (x.1, d')).length := by rw [List.length_set]; exact hK2
    obtain ⟨nr, br, cr, mr, ⟨s0, s1, s2, s3, s4, s5, s6, s7, s8, s9, s10, s11⟩, _⟩ := HC11.out.at K hKs
    obtain ⟨b1, o1, u1, hpa, _, hh1, hc1⟩ := RA11.out hap
    subst hpa
    obtain ⟨qa, ra, k1, m1, f1, hn1, hk1⟩ := hc1 K hK2
    rw [HXE.out] at hn1 hk1
    simp only [HXE.out] at f1
    obtain ⟨t0, t1, t2, t3, t4, t5, t6, t7, t8, t9, t10, t11⟩ := cmAt_of (o := o1 + K * 12) hh1 f1
    have hfr := HC11.out.frozen
    have v0 := hfr (K * 12)
    have v1 := hfr (K * 12 + 1)
    have v2 := hfr (K * 12 + 2)
    have v3 := hfr (K * 12 + 3)
    have v4 := hfr (K * 12 + 4)
    have v5 := hfr (K * 12 + 5)
    have v6 := hfr (K * 12 + 6)
    have v7 := hfr (K * 12 + 7)
    have v8 := hfr (K * 12 + 8)
    have v9 := hfr (K * 12 + 9)
    have v10 := hfr (K * 12 + 10)
    have v11 := hfr (K * 12 + 11)
    have HC12 := Lib.hid ((HC11.out.put K hKs x k1 m1 hn1 hk1).below (Below.refl _ _).drew)
    have HB12 := Lib.hid (put12_below HB11.out hg' (K * 12) x.2 (x.1 : Int) (.slice qa x.2.nums.length k1) (.slice ra x.2.blocks.length m1)).drew
    clear hfr hc1 hh1 f1 hn1 hk1
    go_upto_region 28 with fail
    go_region
    change Exit.then _ _ _ _ (World.drew (put12 W11 g' (K * 12) x.2 (x.1 : Int) (.slice qa x.2.nums.length k1) (.slice ra x.2.blocks.length m1)))
    clear s0 s1 s2 s3 s4 s5 s6 s7 s8 s9 s10 s11 t0 t1 t2 t3 t4 t5 t6 t7 t8 t9 t10 t11 v0 v1 v2 v3 v4 v5 v6 v7 v8 v9 v10 v11 HC11 HB11
    generalize World.drew (put12 W11 g' (K * 12) x.2 (x.1 : Int) (.slice qa x.2.nums.length k1) (.slice ra x.2.blocks.length m1)) = W12 at HC12 HB12 ⊢
    have hKs2 : K < ((a.set K (x.1, d')).set K x).length := by rw [List.length_set]; exact hKs
    obtain ⟨nr2, br2, cr2, mr2, ⟨s0, _⟩, _⟩ := HC12.out.at K hKs2
    rw [List.getElem_set_self] at s0
    have f0 := HC12.out.frozen (K * 12)
    obtain ⟨X1, hX1⟩ : ∃ X1 : Nat, (x.1 : Int) + 1 = X1 := ⟨x.1 + 1, by omega⟩
    have hX1b : X1 ≤ 200001 := by omega
    have HC13 := Lib.hid (HC12.out.put0 K hKs2 X1)
    have HB13 := Lib.hid (HB12.out.setCell (p := ⟨g', K * 12, none⟩) hg' (.int .i64 (X1 : Int)))
    go_upto_region 30 with fail
    change Code.wp _ _ _ _ (W12.setCell ⟨g', K * 12, none⟩ (.int .i64 (X1 : Int)))
    clear s0 f0 HC12 HB12
    generalize W12.setCell ⟨g', K * 12, none⟩ (.int .i64 (X1 : Int)) = W13 at HC13 HB13 ⊢
    have RA13 := Lib.hid (RA7.out.below HB13.out)
    have HST : Hid (decide (a.map Prod.snd = ((((a.set K (x.1, d')).set K x).set K (X1, ((a.set K (x.1, d')).set K x)[K].2))).map Prod.snd) = true) := by
      refine decide_eq_true ?_
      rw [List.getElem_set_self, List.set_set, List.set_set, List.map_set]
      refine (List.ext_getElem (by simp) (fun i h1 h2 => ?_))
      rw [List.getElem_set]
      split
      · rename_i hik
        subst hik
        rw [List.getElem_map, HXE.out]
      · rfl
    go_wp2_with fail
    have hsame := gSame_c 0 0 (some ⟨b1, o1, none⟩) (some ⟨g', 0, none⟩) a _ ca cap' (by omega) HFA W13 RA13 (Lib.hid HC13.out.reads) true HST
    rw [List.length_set, List.length_set, List.length_set] at hsame
    refine hsame.mono ?_
    clear hsame
    rintro en W14 ⟨rfl, hb14⟩
    have HB14 := Lib.hid (HB7.out.trans ((HB13.out.trans (hb14.mono HB13.out.size)).mono HB7.out.size))
    go_wp2_with fail
    refine (gawake_c W14).mono ?_
    rintro en W15 ⟨rfl, hb15⟩
    go_wp2_with fail
    go_ret
    exact ⟨rfl, HB14.out.trans (hb15.mono HB14.out.size)⟩
end Go.Proofs.YtglmofeeggjemaaGreatDoor.GerbSame
