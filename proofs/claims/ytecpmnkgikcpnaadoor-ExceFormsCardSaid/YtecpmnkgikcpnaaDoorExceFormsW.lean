/-
  Proved: for every number, the line of the fixed list that it picks is read by exce.Parse as its command, or refused where it stands (heliographlaw19.ExceForms returns true). Conditions: the row's own (the package-level tables read as the program's text lays them, tied by the card).
-/
import Derived.Test.YtecpmnkgikcpnaaDoorXwP
import Derived.Test.YtecpmnkgikcpnaaDoorXf
import Derived.Test.YtecpmnkgikcpnaaDoorXwU
import Derived.Great.Walk
import Derived.Test.YtecpmnkgikcpnaaDoorBits
import Derived.ProofKit
set_option linter.unusedVariables false
namespace Go.Proofs.YtecpmnkgikcpnaaDoor.ExceForms
open Go.ChangeShapes Go.WideShapes Go.ChangeAt Go.WideMaps Go.WideElems Go.RowKit
open Go.Proofs.YtecpmnkgikcpnaaDoor.Dp Go.Proofs.YtecpmnkgikcpnaaDoor.Base Go.Proofs.YtecpmnkgikcpnaaDoor.Xp Go.Proofs.YtecpmnkgikcpnaaDoor.XW

/-- A row of the list in memory. -/
def row12 (f : List UInt8 × Option D) (nv : Value) : Array Value := #[.string ⟨f.1.toArray⟩, .bool f.2.isSome, .int .i64 0, .int .i64 (f.2.getD D0).k, .int .i64 (f.2.getD D0).n, .bool (f.2.getD D0).on, .string ⟨(f.2.getD D0).t.toArray⟩, .string ⟨(f.2.getD D0).x.toArray⟩, .string ⟨(f.2.getD D0).y.toArray⟩, .string ⟨(f.2.getD D0).u.toArray⟩, .string ⟨(f.2.getD D0).v.toArray⟩, nv]
def rows12 : List (List UInt8 × Option D) → List Value → List Value
  | f :: l, v :: ns => (row12 f v).toList ++ rows12 l ns
  | _, _ => []
theorem rows12_get : ∀ (l : List (List UInt8 × Option D)) (ns : List Value) (h : ns.length = l.length) (i : Nat) (hi : i < l.length) (j : Nat), j < 12 → (rows12 l ns)[i * 12 + j]? = ((row12 l[i] (ns[i]'(by omega))).toList)[j]?
  | [], _, _, i, hi, _, _ => by simp at hi
  | _ :: _, [], h, _, _, _, _ => by simp at h
  | y :: l, n :: ns, h, 0, hi, j, hj => by
    simp only [rows12, Nat.zero_mul, Nat.zero_add]
    rw [List.getElem?_append_left (by exact hj)]
    rfl
  | y :: l, n :: ns, h, i + 1, hi, j, hj => by
    simp only [rows12]
    have hl : (row12 y n).toList.length = 12 := rfl
    rw [List.getElem?_append_right (by rw [hl]; omega), hl, show (i + 1) * 12 + j - 12 = i * 12 + j by omega]
    exact rows12_get l ns (by simpa using h) i (by simpa using hi) j hj
def nv12 (N i : Nat) : Value := if i = 8 then .slice (some ⟨N, 0, none⟩) 1 1 else nils
def nvs12 (N : Nat) : List Value := (List.range 37).map (nv12 N)
/-- The list's cells, the numbers of its one tool in block N. -/
def FR (N : Nat) : Array Value := (rows12 forms (nvs12 N)).toArray
theorem fr_at (N k : Nat) (hk : k < 37) (j : Nat) (hj : j < 12) : (FR N)[k * 12 + j]? = ((row12 (forms.getD k ([], none)) (nv12 N k)).toList)[j]? := by
  have hl : forms.length = 37 := rfl
  unfold FR
  rw [List.getElem?_toArray, rows12_get forms (nvs12 N) (by simp [nvs12, hl]) k (by omega) j hj]
  have e : forms[k]'(by omega) = forms.getD k ([], none) := by simp [List.getD, hl, hk]
  rw [e]
  simp [nvs12]
theorem form_nums : ∀ i : Fin 37, ((forms.getD i.val ([], none)).2.getD D0).nums = if i.val = 8 then [1500000] else [] := by decide +kernel
theorem nv_slice (N k : Nat) (hk : k < 37) : ∃ p cap, nv12 N k = .slice p ((forms.getD k ([], none)).2.getD D0).nums.length cap ∧ (0 < ((forms.getD k ([], none)).2.getD D0).nums.length → p = some ⟨N, 0, none⟩ ∧ ((forms.getD k ([], none)).2.getD D0).nums = [1500000]) := by
  have h := form_nums ⟨k, hk⟩
  dsimp only at h
  unfold nv12
  by_cases h8 : k = 8
  · rw [if_pos h8] at h ⊢
    exact ⟨_, 1, by rw [h]; rfl, fun _ => ⟨rfl, h⟩⟩
  · rw [if_neg h8] at h ⊢
    exact ⟨none, 0, by rw [h]; rfl, fun h0 => by rw [h] at h0; simp at h0⟩
theorem form_len : ∀ i : Fin 37, (forms.getD i.val ([], none)).1.length ≤ 20 := by decide +kernel

theorem twelve_at {w : World} {b : Nat} {v0 v1 v2 v3 v4 v5 v6 v7 v8 v9 v10 v11 : Value} {t : TypeId} (h : w.heap[b]? = some (.cells #[v0, v1, v2, v3, v4, v5, v6, v7, v8, v9, v10, v11] t)) :
    w.cell? ⟨b, 0, none⟩ = some v0 ∧ w.cell? ⟨b, 1, none⟩ = some v1 ∧ w.cell? ⟨b, 2, none⟩ = some v2 ∧ w.cell? ⟨b, 3, none⟩ = some v3 ∧ w.cell? ⟨b, 4, none⟩ = some v4 ∧ w.cell? ⟨b, 5, none⟩ = some v5 ∧ w.cell? ⟨b, 6, none⟩ = some v6 ∧ w.cell? ⟨b, 7, none⟩ = some v7 ∧ w.cell? ⟨b, 8, none⟩ = some v8 ∧ w.cell? ⟨b, 9, none⟩ = some v9 ∧ w.cell? ⟨b, 10, none⟩ = some v10 ∧ w.cell? ⟨b, 11, none⟩ = some v11 := by
  refine ⟨?_, ?_, ?_, ?_, ?_, ?_, ?_, ?_, ?_, ?_, ?_, ?_⟩ <;> simp [World.cell?, h]
/-- What the walk leans on of the picked row. -/
theorem form_facts (k : Nat) (hk : k < 37) : ∃ (f : List UInt8) (o : Option D), forms.getD k ([], none) = (f, o) ∧ f.length ≤ 20 ∧ parseX (10 :: (f ++ [10])) = formOut o ∧ ∀ N, ∃ p c, nv12 N k = .slice p (o.getD D0).nums.length c ∧ (0 < (o.getD D0).nums.length → p = some ⟨N, 0, none⟩ ∧ (o.getD D0).nums = [1500000]) :=
  ⟨_, _, rfl, form_len ⟨k, hk⟩, forms_all ⟨k, hk⟩, fun N => nv_slice N k hk⟩

theorem nums_here {w : World} {N : Nat} {l : List Int} {p : Option Addr} (h : w.heap[N]? = some (.cells #[.int .i64 1500000] 2)) (hp : 0 < l.length → p = some ⟨N, 0, none⟩ ∧ l = [1500000]) : NumsIn 0 w p l := by
  intro hl
  obtain ⟨rfl, rfl⟩ := hp hl
  refine ⟨N, 0, _, rfl, Nat.zero_le _, h, fun i hi => ?_⟩
  obtain rfl : i = 0 := by simp at hi; omega
  rfl

set_option maxRecDepth 100000 in
set_option maxHeartbeats 32000000 in
theorem walk (x0 : Int) (_h0 : -9223372036854775808 ≤ x0) (_h1 : x0 ≤ 9223372036854775807) (w : World) (hT : Tab w) (hM : MaxIs w) :
    Calls Tryd.prog 4 #[.int .i64 x0] w fun e w' => e = .returned (.bool true) ∧ Below w.heap.size w w' := by
  clear _h0 _h1
  have HT := Lib.hid hT
  have HM := Lib.hid hM
  clear hT hM
  obtain ⟨m, hm, hm2⟩ : ∃ m : Nat, bits .and .i64 x0 255 = (m : Int) ∧ m ≤ 255 := ⟨(x0 % 256).toNat, by rw [Bits.and255]; omega, by omega⟩
  obtain ⟨k, hk, hk2⟩ : ∃ k : Nat, (m : Int) % 37 = (k : Int) ∧ k < 37 := ⟨m % 37, by omega, by omega⟩
  have hki : (k : Int) < 37 := by omega
  have hk0 : (0 : Int) ≤ (k : Int) := by omega
  obtain ⟨f, o, hfo, hfl, hpa, hnv⟩ := form_facts k hk2
  obtain ⟨p, c, hnv1, hnv2⟩ := hnv w.heap.size
  have HNV2 := Lib.hid hnv2
  have HPA := Lib.hid hpa
  clear hnv hpa hnv2
  obtain ⟨A, hA⟩ : ∃ A : ByteArray, (⟨f.toArray⟩ : ByteArray) = A := ⟨_, rfl⟩
  have hAl : A.data.toList = f := by rw [← hA]
  have hAz : A.size ≤ 20 := by rw [← len_list, hAl]; exact hfl
  have HAL := Lib.hid hAl
  clear hAl hfl
  go_enter Tryd.func4, Tryd.ntmps4
  go_upto_region 2 with (with_reducible refine Go.Great.wpList_buildSliceTo rfl 41 40 37 _ rfl _ rfl (some 83) rfl Tryd.underlying41 (FR w.heap.size) (by kernel_rfl) ?_)
  go_cut [4] (fun v wx => ∃ g : Nat, v = .pointer (some ⟨g, 0, none⟩) ∧ Hid (wx.heap[g]? = some (.cells #[.string A, .bool o.isSome, .int .i64 0, .int .i64 (o.getD D0).k, .int .i64 (o.getD D0).n, .bool (o.getD D0).on, .string ⟨(o.getD D0).t.toArray⟩, .string ⟨(o.getD D0).x.toArray⟩, .string ⟨(o.getD D0).y.toArray⟩, .string ⟨(o.getD D0).u.toArray⟩, .string ⟨(o.getD D0).v.toArray⟩, .slice p (o.getD D0).nums.length c] 40)) ∧ Hid (NumsIn 0 wx p (o.getD D0).nums) ∧ Hid (Below w.heap.size w wx))
  case first =>
    have hb0 := (Below.refl w.heap.size w).alloc (Nat.le_refl _) (.cells #[.int .i64 1500000] 2)
    have HB1 : Hid (Below w.heap.size w ((w.alloc (.cells #[.int .i64 1500000] 2)).alloc (.cells (FR w.heap.size) 40))) := hb0.alloc hb0.size _
    have HO1 : Hid (((w.alloc (.cells #[.int .i64 1500000] 2)).alloc (.cells (FR w.heap.size) 40)).heap[w.heap.size + 1]? = some (.cells (FR w.heap.size) 40)) := by
      have := heap_alloc_new (w.alloc (.cells #[.int .i64 1500000] 2)) (.cells (FR w.heap.size) 40)
      have e : (w.alloc (.cells #[.int .i64 1500000] 2)).heap.size = w.heap.size + 1 := by simp
      rw [e] at this
      exact this
    have HN1 : Hid (((w.alloc (.cells #[.int .i64 1500000] 2)).alloc (.cells (FR w.heap.size) 40)).heap[w.heap.size]? = some (.cells #[.int .i64 1500000] 2)) := one_below (heap_alloc_new w _) ((Below.refl _ _).alloc (Nat.le_refl _) _)
    generalize hW1 : (w.alloc (.cells #[.int .i64 1500000] 2)).alloc (.cells (FR w.heap.size) 40) = W1 at HB1 HO1 HN1 ⊢
    clear hW1 hb0
    have key : ∀ j, j < 12 → W1.cell? ⟨w.heap.size + 1, k * 12 + j, none⟩ = (row12 (f, o) (.slice p (o.getD D0).nums.length c)).toList[j]? := by
      intro j hj
      have := fr_at w.heap.size k hk2 j hj
      rw [hfo, hnv1] at this
      rw [← this]
      simp [World.cell?, HO1.out]
    have s0 : W1.cell? ⟨w.heap.size + 1, k * 12, none⟩ = some (.string A) := by rw [← hA]; exact key 0 (by decide)
    have s1 : W1.cell? ⟨w.heap.size + 1, k * 12 + 1, none⟩ = some (.bool o.isSome) := key 1 (by decide)
    have s2 : W1.cell? ⟨w.heap.size + 1, k * 12 + 2, none⟩ = some (.int .i64 0) := key 2 (by decide)
    have s3 : W1.cell? ⟨w.heap.size + 1, k * 12 + 3, none⟩ = some (.int .i64 (o.getD D0).k) := key 3 (by decide)
    have s4 : W1.cell? ⟨w.heap.size + 1, k * 12 + 4, none⟩ = some (.int .i64 (o.getD D0).n) := key 4 (by decide)
    have s5 : W1.cell? ⟨w.heap.size + 1, k * 12 + 5, none⟩ = some (.bool (o.getD D0).on) := key 5 (by decide)
    have s6 : W1.cell? ⟨w.heap.size + 1, k * 12 + 6, none⟩ = some (.string ⟨(o.getD D0).t.toArray⟩) := key 6 (by decide)
    have s7 : W1.cell? ⟨w.heap.size + 1, k * 12 + 7, none⟩ = some (.string ⟨(o.getD D0).x.toArray⟩) := key 7 (by decide)
    have s8 : W1.cell? ⟨w.heap.size + 1, k * 12 + 8, none⟩ = some (.string ⟨(o.getD D0).y.toArray⟩) := key 8 (by decide)
    have s9 : W1.cell? ⟨w.heap.size + 1, k * 12 + 9, none⟩ = some (.string ⟨(o.getD D0).u.toArray⟩) := key 9 (by decide)
    have s10 : W1.cell? ⟨w.heap.size + 1, k * 12 + 10, none⟩ = some (.string ⟨(o.getD D0).v.toArray⟩) := key 10 (by decide)
    have s11 : W1.cell? ⟨w.heap.size + 1, k * 12 + 11, none⟩ = some (.slice p (o.getD D0).nums.length c) := key 11 (by decide)
    clear key
    go_wp2_with fail
    go_meet
    exact ⟨W1.heap.size, rfl, heap_alloc_new W1 _, (nums_here HN1.out HNV2.out).below ((Below.refl _ _).alloc (Nat.le_refl _) _), HB1.out.alloc HB1.out.size _⟩
  case rest =>
  obtain ⟨g, rfl, HO, HNI, HB⟩ := hcut
  clear hk hm hfo hnv1 hA
  obtain ⟨d0, d1, d2, d3, d4, d5, d6, d7, d8, d9, d10, d11⟩ := twelve_at HO.out
  have z1 : ¬ 9223372036854775807 < 1 + A.size := by omega
  have z2 : ¬ 9223372036854775807 < 1 + A.size + 1 := by omega
  have HM1 := Lib.hid (HM.out.below HB.out)
  obtain ⟨S, hS⟩ : ∃ S : ByteArray, (⟨#[10]⟩ : ByteArray) ++ A ++ ⟨#[10]⟩ = S := ⟨_, rfl⟩
  have HPS : Hid (parseX S.data.toList = formOut o) := by
    show _ = _
    rw [← HPA.out, ← hS, app_list, app_list, HAL.out]; rfl
  have hSz : S.size ≤ maxLen := by rw [← hS, ByteArray.size_append, ByteArray.size_append]; unfold maxLen; show 1 + A.size + 1 ≤ _; omega
  cases o with
  | none =>
    clear d2 d3 d4 d5 d6 d7 d8 d9 d10 d11
    go_wp2_with fail
    refine (parse_c S hSz wc HM1 [] 1 3 HPS).mono ?_
    rintro en w1 ⟨v, rfl, hp⟩
    obtain ⟨p1, c1, rfl, hd⟩ := hp.reads
    have HB1 := Lib.hid (HB.out.trans (hp.bel.mono HB.out.size))
    have HO1 := Lib.hid (one_below HO.out hp.bel)
    clear hp hd d0 d1
    obtain ⟨d0, d1, d2, d3, d4, d5, d6, d7, d8, d9, d10, d11⟩ := twelve_at HO1.out
    go_wp2_with fail
    refine (awake_c w1 (Lib.hid (HT.out.below HB1.out)) (Lib.hid (HM.out.below HB1.out))).mono ?_
    rintro en w2 ⟨rfl, hb2⟩
    go_wp2_with fail
    go_ret
    exact ⟨rfl, HB1.out.trans (hb2.mono HB1.out.size)⟩
  | some d =>
    go_wp2_with fail
    refine (parse_c S hSz wc HM1 [(1, d)] 0 0 HPS).mono ?_
    rintro en w1 ⟨v, rfl, hp⟩
    obtain ⟨p1, c1, rfl, hd⟩ := hp.reads
    have HB1 := Lib.hid (HB.out.trans (hp.bel.mono HB.out.size))
    have HO1 := Lib.hid (one_below HO.out hp.bel)
    have HD1 := Lib.hid hd
    have HNI1 := Lib.hid (HNI.out.below hp.bel)
    have HOK : Hid (d.nums.length ≤ 1000000000) := Nat.le_trans ((parse_all HPS.out).1 (1, d) (by simp)).nums (by decide)
    clear hp hd d0 d1 d2 d3 d4 d5 d6 d7 d8 d9 d10 d11 HNI HO HPS
    obtain ⟨d0, d1, d2, d3, d4, d5, d6, d7, d8, d9, d10, d11⟩ := twelve_at HO1.out
    rw [show [(1, d)].length = 1 from rfl]
    go_wp2_with fail
    have HB2 : Hid (Below w1.heap.size w1 (w1.alloc (.cells #[.int .i64 0, .int .i64 d.k, .int .i64 d.n, .bool d.on, .string ⟨d.t.toArray⟩, .string ⟨d.x.toArray⟩, .string ⟨d.y.toArray⟩, .string ⟨d.u.toArray⟩, .string ⟨d.v.toArray⟩, .slice p d.nums.length c] 39))) := (Below.refl _ _).alloc (Nat.le_refl _) _
    have HO2 := Lib.hid (heap_alloc_new w1 (.cells #[.int .i64 0, .int .i64 d.k, .int .i64 d.n, .bool d.on, .string ⟨d.t.toArray⟩, .string ⟨d.x.toArray⟩, .string ⟨d.y.toArray⟩, .string ⟨d.u.toArray⟩, .string ⟨d.v.toArray⟩, .slice p d.nums.length c] 39))
    have HN2 : Hid (NumsIn 0 (w1.alloc (.cells #[.int .i64 0, .int .i64 d.k, .int .i64 d.n, .bool d.on, .string ⟨d.t.toArray⟩, .string ⟨d.x.toArray⟩, .string ⟨d.y.toArray⟩, .string ⟨d.u.toArray⟩, .string ⟨d.v.toArray⟩, .slice p d.nums.length c] 39)) p d.nums) := HNI1.out.below HB2.out
    have HD2 := Lib.hid (HD1.out.below HB2.out)
    generalize hW2 : w1.alloc (.cells #[.int .i64 0, .int .i64 d.k, .int .i64 d.n, .bool d.on, .string ⟨d.t.toArray⟩, .string ⟨d.x.toArray⟩, .string ⟨d.y.toArray⟩, .string ⟨d.u.toArray⟩, .string ⟨d.v.toArray⟩, .slice p d.nums.length c] 39) = W2 at HB2 HO2 HN2 HD2 ⊢
    clear hW2 d0 d1 d2 d3 d4 d5 d6 d7 d8 d9 d10 d11 HNI1 HO1 HD1
    refine (Same_c wc.heap.size 0 p1 (some ⟨w1.heap.size, 0, none⟩) [(1, d)] [(0, d)] c1 1 (by show 1 ≤ _; decide) (by show 1 ≤ _; decide) (fun x hx => by simp at hx; subst hx; exact HOK.out) W2 HD2 (Lib.hid (one_in HO2.out HN2.out)) true (Lib.hid (decide_eq_true rfl))).mono ?_
    rintro en w3 ⟨rfl, hb3⟩
    have HB3 := Lib.hid (HB1.out.trans ((HB2.out.trans (hb3.mono HB2.out.size)).mono HB1.out.size))
    have HD3 := Lib.hid (HD2.out.below hb3)
    clear hb3 HB2 HO2 HN2 HD2
    obtain ⟨b, o, rfl, hlt, hc⟩ := HD3.out (by show 0 < 1; decide)
    obtain ⟨np, nc, ⟨s0, _⟩, _⟩ := hc 0 (by show 0 < 1; decide)
    have s0' : w3.cell? ⟨b, o, none⟩ = some (.int .i64 1) := by simpa using s0
    clear s0 hc
    go_wp2_with fail
    refine (awake_c w3 (Lib.hid (HT.out.below HB3.out)) (Lib.hid (HM.out.below HB3.out))).mono ?_
    rintro en w4 ⟨rfl, hb4⟩
    go_wp2_with fail
    go_ret
    exact ⟨rfl, HB3.out.trans (hb4.mono HB3.out.size)⟩
end Go.Proofs.YtecpmnkgikcpnaaDoor.ExceForms
