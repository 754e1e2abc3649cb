/-
  Proved: for every slice of integers and two integers, commands are the Same just if all that they tell is, wherever they stand, and commands that no file tells are not told (heliographlaw19.ExceSame returns true). Conditions: the row's own (the package-level tables read as the program's text lays them, tied by the card).
-/
import Derived.Test.YtecpmnkgikcpnaaDoorXwP
import Derived.Test.YtecpmnkgikcpnaaDoorXwQ
import Derived.Test.YtecpmnkgikcpnaaDoorXwU
import Derived.Test.YtecpmnkgikcpnaaDoorBits
import Derived.ProofKit
import Derived.Great.Walk
set_option linter.unusedVariables false
namespace Go.Proofs.YtecpmnkgikcpnaaDoor.ExceSame
open Go.ChangeShapes Go.WideShapes Go.ChangeAt Go.WideMaps Go.WideElems Go.RowKit
open Go.Proofs.YtecpmnkgikcpnaaDoor.Dp Go.Proofs.YtecpmnkgikcpnaaDoor.Base Go.Proofs.YtecpmnkgikcpnaaDoor.Xp Go.Proofs.YtecpmnkgikcpnaaDoor.XW

/-- The commands that no file tells. -/
def nones : List D := [D0, kd 16, { kd 3 with n := 3 }, { kd 4 with n := 1 }, { kd 4 with n := 100, nums := [1] }, { kd 6 with n := 100 }, kd 7, { kd 7 with x := [97] }, { kd 8 with x := [49] }, { kd 12 with x := [49] }, { kd 12 with n := 10000, x := [49] }, { kd 1 with t := [10] }, { kd 15 with n := 1 }, { kd 9 with x := [49, 46, 50, 46, 51] }, { kd 11 with y := [49, 50, 51, 52, 53, 54, 55, 56, 57, 48, 49, 50, 51] }, { kd 4 with n := 1, nums := [1000000000000] }]
theorem nones_no : ∀ i : Fin 16, textX [nones.getD i.val D0] = none := by decide +kernel
def fitsB (d : D) : Bool := decide (-9223372036854775808 ≤ d.n) && (decide (d.n ≤ 9223372036854775807) && (decide (d.t.length ≤ 1000000000) && (decide (d.x.length ≤ 1000000000) && (decide (d.y.length ≤ 1000000000) && (decide (d.u.length ≤ 1000000000) && (decide (d.v.length ≤ 1000000000) && (d.nums.all fun z => decide (-9223372036854775808 ≤ z) && decide (z ≤ 9223372036854775807))))))))
theorem fits_of {d : D} (h : fitsB d = true) : Fits d := by
  simp only [fitsB, Bool.and_eq_true, decide_eq_true_eq, List.all_eq_true] at h
  obtain ⟨h1, h2, h3, h4, h5, h6, h7, h8⟩ := h
  exact ⟨h1, h2, h3, h4, h5, h6, h7, h8⟩
theorem nones_fit : ∀ i : Fin 16, fitsB (nones.getD i.val D0) = true := by decide +kernel
theorem nones_nums : ∀ i : Fin 16, (nones.getD i.val D0).nums = if i.val = 4 then [1] else if i.val = 15 then [1000000000000] else [] := by decide +kernel
def nv16 (N M i : Nat) : Value := if i = 4 then .slice (some ⟨N, 0, none⟩) 1 1 else if i = 15 then .slice (some ⟨M, 0, none⟩) 1 1 else nils
def nvs16 (N M : Nat) : List Value := (List.range 16).map (nv16 N M)
/-- Their cells. -/
def FS (N M : Nat) : Array Value := (rowsV (nones.map fun d => (0, d)) (nvs16 N M)).toArray
theorem fs_at (N M k : Nat) (hk : k < 16) (j : Nat) (hj : j < 10) : (FS N M)[k * 10 + j]? = (rowV (0, nones.getD k D0) (nv16 N M k))[j]? := by
  have hl : (nones.map fun d => ((0 : Nat), d)).length = 16 := rfl
  unfold FS
  rw [List.getElem?_toArray, rowsV_get _ (nvs16 N M) (by simp [nvs16, hl]) k (by omega) j hj]
  have h2 : nones.length = 16 := rfl
  have e : nones[k]'(by omega) = nones.getD k D0 := by simp [List.getD, h2, hk]
  simp only [List.getElem_map, e]
  simp [nvs16]
/-- What the walk leans on of the picked command. -/
theorem none_facts (k : Nat) (hk : k < 16) (N M : Nat) : ∃ (d : D) (p : Option Addr) (c : Nat), nones.getD k D0 = d ∧ textX [d] = none ∧ Fits d ∧ nv16 N M k = .slice p d.nums.length c ∧ (0 < d.nums.length → (p = some ⟨N, 0, none⟩ ∧ d.nums = [1]) ∨ (p = some ⟨M, 0, none⟩ ∧ d.nums = [1000000000000])) := by
  have h := nones_nums ⟨k, hk⟩
  dsimp only at h
  unfold nv16
  by_cases h4 : k = 4
  · rw [if_pos h4] at h ⊢
    exact ⟨_, _, 1, rfl, nones_no ⟨k, hk⟩, fits_of (nones_fit ⟨k, hk⟩), by rw [h]; rfl, fun _ => .inl ⟨rfl, h⟩⟩
  · rw [if_neg h4] at h ⊢
    by_cases h15 : k = 15
    · rw [if_pos h15] at h ⊢
      exact ⟨_, _, 1, rfl, nones_no ⟨k, hk⟩, fits_of (nones_fit ⟨k, hk⟩), by rw [h]; rfl, fun _ => .inr ⟨rfl, h⟩⟩
    · rw [if_neg h15] at h ⊢
      exact ⟨_, none, 0, rfl, nones_no ⟨k, hk⟩, fits_of (nones_fit ⟨k, hk⟩), by rw [h]; rfl, fun h0 => by rw [h] at h0; simp at h0⟩
theorem nums_here {w : World} {N M : Nat} {l : List Int} {p : Option Addr} (h : w.heap[N]? = some (.cells #[.int .i64 1] 2)) (h2 : w.heap[M]? = some (.cells #[.int .i64 1000000000000] 2)) (hp : 0 < l.length → (p = some ⟨N, 0, none⟩ ∧ l = [1]) ∨ (p = some ⟨M, 0, none⟩ ∧ l = [1000000000000])) : NumsIn 0 w p l := by
  intro hl
  rcases hp hl with ⟨rfl, rfl⟩ | ⟨rfl, rfl⟩
  · refine ⟨N, 0, _, rfl, Nat.zero_le _, h, fun i hi => ?_⟩
    obtain rfl : i = 0 := by simp at hi; omega
    rfl
  · refine ⟨M, 0, _, rfl, Nat.zero_le _, h2, fun i hi => ?_⟩
    obtain rfl : i = 0 := by simp at hi; omega
    rfl

theorem rowsV_one : ∀ (l : List (Nat × D)) (ns : List Value), (∀ v ∈ ns, v.oneCell' = true) → ∀ u ∈ rowsV l ns, u.oneCell' = true
  | [], _, _, u, hu => by simp [rowsV] at hu
  | _ :: _, [], _, u, hu => by simp [rowsV] at hu
  | x :: l, n :: ns, h, u, hu => by
    simp only [rowsV, List.mem_append] at hu
    rcases hu with hu | hu
    · simp only [rowV, drCells, List.mem_cons, List.not_mem_nil, or_false] at hu
      rcases hu with rfl | rfl | rfl | rfl | rfl | rfl | rfl | rfl | rfl | rfl
      · rfl
      · rfl
      · rfl
      · rfl
      · rfl
      · rfl
      · rfl
      · rfl
      · rfl
      · exact h _ (by simp)
    · exact rowsV_one l ns (fun v hv => h v (by simp [hv])) u hu
theorem add_cell {w : World} {g j : Nat} {cur : Array Value} {t : TypeId} {u : Value} (h : w.heap[g]? = some (.cells cur t)) (hu : cur[j]? = some u) : w.cell? ((⟨g, 0, none⟩ : Addr).add j) = some u := by
  by_cases hj : j = 0
  · subst hj; simp [Addr.add, World.cell?, h, hu]
  · simp [Addr.add, hj, World.cell?, h, hu]
theorem nums_grown {w w' : World} {o : Obj} {B : Nat} {p : Option Addr} {l : List Int} (hg : (w.alloc o).grownBy w' (some w.heap.size)) (h : NumsIn B w p l) : NumsIn B w' p l := by
  intro hl
  obtain ⟨b, o', cs, rfl, hB, hh, hc⟩ := h hl
  have hlt := (Array.getElem?_eq_some_iff.1 hh).1
  refine ⟨b, o', cs, rfl, hB, ?_, hc⟩
  rw [hg.block b (by simp <;> omega) (by intro e; injection e with e; omega), Below.heap_alloc _ _ _ hlt]
  exact hh
theorem cat_eq (l : List UInt8) (c : UInt8) : (⟨l.toArray⟩ : ByteArray) ++ ⟨#[c]⟩ = ⟨(l ++ [c]).toArray⟩ := str_eq (by rw [app_list])
theorem info_i64 : (Tryd.prog.info? 2).map (fun i => (i.zero, i.size, i.bytes)) = some (some (.int .i64 0), 1, 8) := by kernel_rfl
theorem nums_own {w : World} {B g n cap : Nat} {zs : List Int} {xs : List Value} (h : w.ownsRow B 2 1 (.slice (some ⟨g, 0, none⟩) n cap) n xs) (hx : xs = zs.map (Value.int .i64)) : NumsIn 0 w (some ⟨g, 0, none⟩) zs := by
  intro hl
  have hlen := h.1
  rcases h.2 with ⟨h0, _⟩ | ⟨g', cap', cur, hv, hb, hg, hnc, hcm, hcs, htake⟩
  · cases h0
  · injection hv with e1 _ _
    injection e1 with e1
    injection e1 with e1 _ _
    subst e1
    refine ⟨g, 0, cur, rfl, Nat.zero_le _, hg, fun i hi => ?_⟩
    rw [hx, List.length_map] at hlen
    have : xs[i]? = some (.int .i64 zs[i]) := by rw [hx]; simp [hi]
    rw [← htake, List.getElem?_take_of_lt (by omega)] at this
    rw [Nat.zero_add]
    simpa using this
/-- The parsed row as append wants it. -/
theorem src_facts {w1 w : World} {p : Option Addr} {c : Nat} {a : List (Nat × D)} (h : PsAt w1 (.slice p a.length c) a w) (hp : 0 < a.length) : ∃ (g0 : Nat) (xs : List Value), p = some ⟨g0, 0, none⟩ ∧ xs.length = a.length * 10 ∧ (∀ u ∈ xs, u.oneCell' = true) ∧ RowsAt w1.heap.size w a xs ∧ (∀ o : Obj, ∀ j u, xs[j]? = some u → (w.alloc o).cell? ((⟨g0, 0, none⟩ : Addr).add j) = some u) := by
  obtain ⟨xs, ho, hr⟩ := h.own
  have hr' := hr
  obtain ⟨ns, hn1, hxs, hn3⟩ := hr
  have hlen := ho.1
  rcases ho.2 with ⟨_, h0⟩ | ⟨g, cap, cur, hv, hb, hg, hnc, hcm, hcs, htake⟩
  · omega
  · injection hv with e1 _ _
    subst e1
    refine ⟨g, xs, rfl, hlen, ?_, hr', fun o j u hu => ?_⟩
    · rw [hxs]
      refine rowsV_one a ns (fun v hv => ?_)
      obtain ⟨i, hi, rfl⟩ := List.mem_iff_getElem.1 hv
      obtain ⟨p, c, e, _⟩ := hn3 i (by omega) hi
      rw [e]; rfl
    · have hh : (w.alloc o).heap[g]? = some (.cells cur 39) := one_below hg ((Below.refl _ _).alloc (Nat.le_refl _) _)
      refine add_cell hh ?_
      rw [← htake] at hu
      have hj : j < a.length * 10 := by
        rcases Nat.lt_or_ge j (a.length * 10) with h' | h'
        · exact h'
        · rw [List.getElem?_eq_none (by rw [List.length_take]; omega)] at hu
          cases hu
      rw [List.getElem?_take_of_lt hj] at hu
      simpa using hu

set_option maxRecDepth 100000 in
set_option maxHeartbeats 32000000 in
theorem walk (lp : Option Addr) (lc : Nat) (l : List Int) (hl : l.length ≤ lc) (hlc : lc ≤ maxLen) (x1 : Int) (_h1 : -9223372036854775808 ≤ x1) (_h2 : x1 ≤ 9223372036854775807) (x2 : Int) (_h3 : -9223372036854775808 ≤ x2) (_h4 : x2 ≤ 9223372036854775807) (w : World) (hL : Zs .i64 w lp l) (hT : Tab w) (hM : MaxIs w) :
    Calls Tryd.prog 6 #[.slice lp l.length lc, .int .i64 x1, .int .i64 x2] w fun e w' => e = .returned (.bool true) ∧ Below w.heap.size w w' := by
  clear _h1 _h2 _h3 _h4
  have HT := Lib.hid hT
  have HM := Lib.hid hM
  have HL := Lib.hid hL
  clear hT hM hL
  obtain ⟨m, hm, hm2⟩ : ∃ m : Nat, bits .and .i64 (x2 / 256) 255 = (m : Int) ∧ m ≤ 255 := ⟨(x2 / 256 % 256).toNat, by rw [Bits.and255]; omega, by omega⟩
  obtain ⟨k, hk, hk2⟩ : ∃ k : Nat, (m : Int) % 16 = (k : Int) ∧ k < 16 := ⟨m % 16, by omega, by omega⟩
  have hki : (k : Int) < 16 := by omega
  go_enter Tryd.func6, Tryd.ntmps6
  go_wp2_with fail
  refine (file19_c lp l lc hl hlc true w HL).mono ?_
  rintro en w1 ⟨⟨F, rfl, hFz⟩, hb1⟩
  have HB1 := Lib.hid hb1
  have HM1 := Lib.hid (HM.out.below hb1)
  clear hb1 hl hlc HL
  obtain ⟨a, ka, ea, hpa⟩ : ∃ a ka ea, parseX F.data.toList = (a, ka, ea) := ⟨_, _, _, rfl⟩
  have hall := parse_all hpa
  have hFl : F.data.toList.length ≤ 2800 := by rw [len_list]; exact hFz
  have han : a.length ≤ 2800 := by omega
  have HOK : Hid (∀ x ∈ a, Okd x.2 F.data.toList.length) := hall.1
  have HNM : Hid (∀ x ∈ a, x.2.nums.length ≤ 1000000000) := fun x hx => Nat.le_trans (hall.1 x hx).nums (by decide)
  have HPA := Lib.hid hpa
  clear hall hpa hFl
  go_wp2_with fail
  refine (parse_c F (by unfold maxLen; omega) w1 HM1 a ka ea HPA).mono ?_
  rintro en w2 ⟨v, rfl, hps⟩
  obtain ⟨p, c, rfl, hd⟩ := hps.reads
  have HPS := Lib.hid hps
  have HD2 := Lib.hid hd
  have HB2 := Lib.hid (HB1.out.trans (hps.bel.mono HB1.out.size))
  clear hps hd HM1
  go_wp2_with fail
  refine (Same_c w1.heap.size w1.heap.size p p a a c c (by omega) (by omega) HNM w2 HD2 HD2 true (Lib.hid (decide_eq_true rfl))).mono ?_
  rintro en w3 ⟨rfl, hb3⟩
  have HPS3 := Lib.hid (HPS.out.below hb3)
  have HB3 := Lib.hid (HB2.out.trans (hb3.mono HB2.out.size))
  have HD3 := Lib.hid (HD2.out.below hb3)
  clear hb3 HPS HD2
  go_upto_region 4 with fail
  go_cut [10] (fun v wx => ∃ g N M : Nat, v = .slice (some ⟨g, 0, none⟩) 16 16 ∧ Hid (wx.heap[g]? = some (.cells (FS N M) 39)) ∧ Hid (wx.heap[N]? = some (.cells #[.int .i64 1] 2)) ∧ Hid (wx.heap[M]? = some (.cells #[.int .i64 1000000000000] 2)) ∧ Hid (Below w3.heap.size w3 wx))
  case first =>
    go_wp2_with (with_reducible refine Go.Great.wpList_buildSliceTo rfl 42 39 16 _ rfl _ rfl (some 45) rfl Tryd.underlying42 (FS w3.heap.size (w3.heap.size + 1)) (by kernel_rfl) ?_)
    go_meet
    have b1 := (Below.refl w3.heap.size w3).alloc (Nat.le_refl _) (.cells #[.int .i64 1] 2)
    have b2 := b1.alloc b1.size (.cells #[.int .i64 1000000000000] 2)
    have b3 := b2.alloc b2.size (.cells (FS w3.heap.size (w3.heap.size + 1)) 39)
    have n1 := heap_alloc_new w3 (.cells #[.int .i64 1] 2)
    have n2 := heap_alloc_new (w3.alloc (.cells #[.int .i64 1] 2)) (.cells #[.int .i64 1000000000000] 2)
    have e2 : (w3.alloc (.cells #[.int .i64 1] 2)).heap.size = w3.heap.size + 1 := by simp
    rw [e2] at n2
    have n3 := heap_alloc_new ((w3.alloc (.cells #[.int .i64 1] 2)).alloc (.cells #[.int .i64 1000000000000] 2)) (.cells (FS w3.heap.size (w3.heap.size + 1)) 39)
    have e3 : ((w3.alloc (.cells #[.int .i64 1] 2)).alloc (.cells #[.int .i64 1000000000000] 2)).heap.size = w3.heap.size + 1 + 1 := by simp
    rw [e3] at n3
    exact ⟨_, w3.heap.size, _, rfl, n3, one_below (one_below n1 ((Below.refl _ _).alloc (Nat.le_refl _) _)) ((Below.refl _ _).alloc (Nat.le_refl _) _), one_below n2 ((Below.refl _ _).alloc (Nat.le_refl _) _), b3⟩
  case rest =>
  obtain ⟨g, N, M, rfl, HG, HN, HM4, HB4⟩ := hcut
  obtain ⟨d, q, cq, hd1, hd2, hd3, hd4, hd5⟩ := none_facts k hk2 N M
  have HND : Hid (NumsIn 0 wc q d.nums) := nums_here HN.out HM4.out hd5
  have hten : Ten wc g (k * 10) (0, d) (.slice q d.nums.length cq) := by
    refine ten_row (l := []) (fun j hj => ?_) HG.out
    rw [fs_at N M k hk2 j hj, hd1, hd4]
  have HTX : Hid ((textX ([((0 : Nat), d)].map Prod.snd)).getD [] = (⟨#[]⟩ : ByteArray).data.toList ∧ (textX ([((0 : Nat), d)].map Prod.snd)).isSome = false) := by
    show (textX [d]).getD [] = _ ∧ (textX [d]).isSome = _
    rw [hd2]; exact ⟨rfl, rfl⟩
  have HFI : Hid (∀ x ∈ [((0 : Nat), d)], Fits x.2) := fun x hx => by simp at hx; subst hx; exact hd3
  clear hd1 hd2 hd3 hd4 hd5 HN HM4 HG
  obtain ⟨s0, s1, s2, s3, s4, s5, s6, s7, s8, s9⟩ := hten
  have HB5 := Lib.hid (HB3.out.trans (HB4.out.mono HB3.out.size))
  go_wp2_with fail
  have HB6 : Hid (Below wc.heap.size wc (wc.alloc (.cells #[.int .i64 0, .int .i64 d.k, .int .i64 d.n, .bool d.on, .string ⟨d.t.toArray⟩, .string ⟨d.x.toArray⟩, .string ⟨d.y.toArray⟩, .string ⟨d.u.toArray⟩, .string ⟨d.v.toArray⟩, .slice q d.nums.length cq] 39))) := (Below.refl _ _).alloc (Nat.le_refl _) _
  have HO6 := Lib.hid (heap_alloc_new wc (.cells #[.int .i64 0, .int .i64 d.k, .int .i64 d.n, .bool d.on, .string ⟨d.t.toArray⟩, .string ⟨d.x.toArray⟩, .string ⟨d.y.toArray⟩, .string ⟨d.u.toArray⟩, .string ⟨d.v.toArray⟩, .slice q d.nums.length cq] 39))
  have HND6 := Lib.hid (HND.out.below HB6.out)
  generalize hW6 : wc.alloc (.cells #[.int .i64 0, .int .i64 d.k, .int .i64 d.n, .bool d.on, .string ⟨d.t.toArray⟩, .string ⟨d.x.toArray⟩, .string ⟨d.y.toArray⟩, .string ⟨d.u.toArray⟩, .string ⟨d.v.toArray⟩, .slice q d.nums.length cq] 39) = W6 at HB6 HO6 HND6 ⊢
  clear hW6 s0 s1 s2 s3 s4 s5 s6 s7 s8 s9 HND
  have HBT := Lib.hid (HB5.out.trans (HB6.out.mono HB5.out.size))
  refine (text_c 0 (some ⟨wc.heap.size, 0, none⟩) [(0, d)] 1 (by show 1 ≤ _; decide) HFI W6 (Lib.hid (HT.out.below HBT.out)) (Lib.hid (one_in HO6.out HND6.out)) ⟨#[]⟩ false HTX).mono ?_
  rintro en W7 ⟨rfl, hb7⟩
  have HB7 := Lib.hid (HBT.out.trans (hb7.mono HBT.out.size))
  have HB37 : Hid (Below w3.heap.size w3 W7) := (HB4.out.trans (HB6.out.mono HB4.out.size)).trans (hb7.mono (Nat.le_trans HB4.out.size HB6.out.size))
  clear hb7 HO6 HND6 HB6 HB5 HTX HFI HBT
  have HPS7 := Lib.hid (HPS3.out.below HB37.out)
  have HD7 := Lib.hid (HD3.out.below HB37.out)
  clear HPS3 HD3
  go_upto_region 8 with fail
  by_cases ha0 : a.length = 0
  · have hai : ((a.length : Int) == 0) = true := by rw [ha0]; rfl
    go_wp2_with fail
    refine (awake_c W7 (Lib.hid (HT.out.below HB7.out)) (Lib.hid (HM.out.below HB7.out))).mono ?_
    rintro en w8 ⟨rfl, hb8⟩
    go_wp2_with fail
    go_ret
    exact ⟨rfl, HB7.out.trans (hb8.mono HB7.out.size)⟩
  · have hai : ((a.length : Int) == 0) = false := by rw [beq_eq_false_iff_ne]; omega
    have hap : 0 < a.length := by omega
    have hane : ¬ (a.length : Int) = 0 := by omega
    go_upto_region 10 with fail
    obtain ⟨g0, xs, rfl, hxl, hx1, hxr, hxn⟩ := src_facts HPS7.out hap
    have HXN := Lib.hid (hxn (.cells #[] 39))
    have HXR := Lib.hid hxr
    have HX1 := Lib.hid hx1
    clear hxn hxr hx1
    obtain ⟨i0, hi, hz0, hz1, hz2⟩ := info_parts info_dr
    have HI := Lib.hid (And.intro hi (And.intro hz0 (And.intro hz1 hz2)))
    clear hi hz0 hz1 hz2
    have HOWN : Hid ((W7.alloc (.cells #[] 39)).ownsRow W7.heap.size 39 10 (.slice (some ⟨W7.heap.size, 0, none⟩) 0 0) 0 []) :=
      ⟨rfl, .inr ⟨_, 0, #[], rfl, Nat.le_refl _, heap_alloc_new W7 _, Nat.le_refl _, by unfold maxLen; decide, rfl, rfl⟩⟩
    have hbz : W7.heap.size ≤ (W7.alloc (.cells #[] 39)).heap.size := by simp
    go_upto_region 11 with (at_builtin; refine wpList_append_own _ rfl _ _ _ rfl W7.heap.size 39 i0 (.agg #[.int .i64 0, .int .i64 0, .int .i64 0, .bool false, .string ⟨#[]⟩, .string ⟨#[]⟩, .string ⟨#[]⟩, .string ⟨#[]⟩, .string ⟨#[]⟩, .slice none 0 0]) 10 136 Tryd.underlying42 HI.out.1 HI.out.2.1 HI.out.2.2.1 HI.out.2.2.2 rfl (by omega) (.slice (some ⟨W7.heap.size, 0, none⟩) 0 0) 0 [] (by rfl) HOWN.out ⟨g0, 0, none⟩ a.length c xs (by rfl) hxl HXN.out HX1.out (by unfold maxLen; omega) (by omega) hbz ?_; intro v' w' hown' hgrow' hnn'; skip)
    obtain ⟨g', cap', rfl, hg', hcin⟩ := CIn.of_own (l := a) (xs := xs) hap (by have := hown'; rw [Nat.zero_add, List.nil_append] at this; exact this) (HXR.out.imp fun p n hq => nums_grown hgrow' hq)
    have HB78 : Hid (Below W7.heap.size W7 w') := ((Below.refl _ _).alloc (Nat.le_refl _) _).grown hgrow' hbz (fun k hk => by injection hk with hk; rw [← hk]; exact Nat.le_refl _)
    have HC8 := Lib.hid hcin
    clear hown' hgrow' hnn' hcin HOWN HXN HXR HX1 HI HPS7
    obtain ⟨kk, hkk, hkk2⟩ : ∃ kk : Nat, bits .and .i64 x1 65535 = (kk : Int) ∧ kk < 65536 := ⟨(x1 % 65536).toNat, by rw [Bits.and65535]; omega, by omega⟩
    obtain ⟨K, hK, hK2⟩ : ∃ K : Nat, (kk : Int) % (a.length : Int) = (K : Int) ∧ K < a.length := ⟨kk % a.length, by omega, Nat.mod_lt _ hap⟩
    have hKi : (K : Int) < (a.length : Int) := by omega
    obtain ⟨y, hy, hy2⟩ : ∃ y : Nat, bits .and .i64 x2 7 = (y : Int) ∧ y ≤ 7 := ⟨(x2 % 8).toNat, by rw [Bits.and7]; omega, by omega⟩
    obtain ⟨x, hx⟩ : ∃ x, a[K] = x := ⟨_, rfl⟩
    obtain ⟨np, nc, hten, hnn⟩ := HC8.out.at K hK2
    rw [hx] at hten hnn
    have HXO : Hid (Okd x.2 F.data.toList.length) := HOK.out x (by rw [← hx]; exact List.getElem_mem hK2)
    have HXE := Lib.hid hx
    have HNX := Lib.hid hnn
    clear hx hnn
    obtain ⟨s0, s1, s2, s3, s4, s5, s6, s7, s8, s9⟩ := hten
    go_upto_region 12 with fail
    rw [hK]
    clear hK
    go_upto_region 13 with fail
    have HB9 : Hid (Below w'.heap.size w' (w'.alloc (.cells #[.int .i64 (x.1 : Int), .int .i64 x.2.k, .int .i64 x.2.n, .bool x.2.on, .string ⟨x.2.t.toArray⟩, .string ⟨x.2.x.toArray⟩, .string ⟨x.2.y.toArray⟩, .string ⟨x.2.u.toArray⟩, .string ⟨x.2.v.toArray⟩, .slice np x.2.nums.length nc] 39))) := (Below.refl _ _).alloc (Nat.le_refl _) _
    have HX9 := Lib.hid (heap_alloc_new w' (.cells #[.int .i64 (x.1 : Int), .int .i64 x.2.k, .int .i64 x.2.n, .bool x.2.on, .string ⟨x.2.t.toArray⟩, .string ⟨x.2.x.toArray⟩, .string ⟨x.2.y.toArray⟩, .string ⟨x.2.u.toArray⟩, .string ⟨x.2.v.toArray⟩, .slice np x.2.nums.length nc] 39))
    have HC9 := Lib.hid (HC8.out.below HB9.out)
    have HN9 := Lib.hid (HNX.out.below HB9.out)
    have hgx : g' < w'.heap.size := HC8.out.lt
    have HB79 := Lib.hid (HB78.out.trans (HB9.out.mono HB78.out.size))
    have h79 : W7.heap.size ≤ w'.heap.size := HB78.out.size
    obtain ⟨gx, hgxe⟩ : ∃ gx, w'.heap.size = gx := ⟨_, rfl⟩
    rw [hgxe] at HX9 hgx h79
    generalize hW9 : w'.alloc (.cells #[.int .i64 (x.1 : Int), .int .i64 x.2.k, .int .i64 x.2.n, .bool x.2.on, .string ⟨x.2.t.toArray⟩, .string ⟨x.2.x.toArray⟩, .string ⟨x.2.y.toArray⟩, .string ⟨x.2.u.toArray⟩, .string ⟨x.2.v.toArray⟩, .slice np x.2.nums.length nc] 39) = W9 at HB9 HX9 HC9 HN9 HB79 ⊢
    clear hW9 s0 s1 s2 s3 s4 s5 s6 s7 s8 s9 HB9 HC8 HNX HB78
    rw [hgxe]
    clear hgxe
    have HCZ := Lib.hid (HC9.out.mono (Nat.zero_le _))
    have HNZ := Lib.hid (HN9.out.mono (Nat.zero_le _))
    have hgg : g' ≠ gx := by omega
    clear HC9 HN9
    obtain ⟨BT, hBT⟩ : ∃ B : ByteArray, (⟨x.2.t.toArray⟩ : ByteArray) = B := ⟨_, rfl⟩
    obtain ⟨BX, hBX⟩ : ∃ B : ByteArray, (⟨x.2.x.toArray⟩ : ByteArray) = B := ⟨_, rfl⟩
    obtain ⟨BY, hBY⟩ : ∃ B : ByteArray, (⟨x.2.y.toArray⟩ : ByteArray) = B := ⟨_, rfl⟩
    obtain ⟨BU, hBU⟩ : ∃ B : ByteArray, (⟨x.2.u.toArray⟩ : ByteArray) = B := ⟨_, rfl⟩
    obtain ⟨BV, hBV⟩ : ∃ B : ByteArray, (⟨x.2.v.toArray⟩ : ByteArray) = B := ⟨_, rfl⟩
    have hFl : F.data.toList.length ≤ 2800 := by rw [len_list]; exact hFz
    have fl := HXO.out.fields
    have zT : ¬ 9223372036854775807 < BT.size + 1 := by rw [← hBT]; show ¬ _ < x.2.t.length + 1; have := fl.1; omega
    have zX : ¬ 9223372036854775807 < BX.size + 1 := by rw [← hBX]; show ¬ _ < x.2.x.length + 1; have := fl.2.1; omega
    have zY : ¬ 9223372036854775807 < BY.size + 1 := by rw [← hBY]; show ¬ _ < x.2.y.length + 1; have := fl.2.2.1; omega
    have zU : ¬ 9223372036854775807 < BU.size + 1 := by rw [← hBU]; show ¬ _ < x.2.u.length + 1; have := fl.2.2.2.1; omega
    have zV : ¬ 9223372036854775807 < BV.size + 1 := by rw [← hBV]; show ¬ _ < x.2.v.length + 1; have := fl.2.2.2.2; omega
    have HBS := Lib.hid (And.intro hBT (And.intro hBX (And.intro hBY (And.intro hBU hBV))))
    have HXS := HX9.out
    rw [hBT, hBX, hBY, hBU, hBV] at HXS
    have HXB := Lib.hid HXS
    clear hBT hBX hBY hBU hBV HXS fl
    have hn1 : IntKind.i64.wrap (x.2.n + 1) = x.2.n + 1 := by rw [IntKind.wrap_i64]; have := HXO.out.n0; have := HXO.out.n1; omega
    go_upto_block 0 with fail
    go_cut [] (fun wx => ∃ (d' : D) (np' : Option Addr) (nc' : Nat), Hid (d' ≠ x.2) ∧ Hid (d'.nums.length ≤ 1000000000) ∧ Hid (wx.heap[gx]? = some (.cells #[.int .i64 (x.1 : Int), .int .i64 d'.k, .int .i64 d'.n, .bool d'.on, .string ⟨d'.t.toArray⟩, .string ⟨d'.x.toArray⟩, .string ⟨d'.y.toArray⟩, .string ⟨d'.u.toArray⟩, .string ⟨d'.v.toArray⟩, .slice np' d'.nums.length nc'] 39)) ∧ Hid (NumsIn 0 wx np' d'.nums) ∧ Hid (CIn 0 wx g' a) ∧ Hid (Below W7.heap.size W7 wx))
    case first =>
      obtain ⟨⟨d0, d1, d2, d3, d4, d5, d6, d7, d8, d9⟩, f0, f1, f2, f3, f4, f5, f6, f7, f8, f9⟩ := dr_at HXB.out
      have hy3 : y = 0 ∨ y = 1 ∨ y = 2 ∨ y = 3 ∨ y = 4 ∨ y = 5 ∨ y = 6 ∨ y = 7 := by omega
      have FAR : ∀ (o : Nat) (u : Value) (c : Nat), c ≠ gx → (W9.setCell ⟨gx, o, none⟩ u).heap[c]? = W9.heap[c]? := fun o u c hc => Below.heap_setCell _ _ _ _ hc
      have HFAR := Lib.hid FAR
      clear FAR
      rcases hy3 with rfl | rfl | rfl | rfl | rfl | rfl | rfl | rfl
      · go_wp2_with fail
        go_meet
        refine ⟨{ x.2 with n := x.2.n + 1 }, np, nc, ?_, HNM.out x (by rw [← HXE.out]; exact List.getElem_mem hK2), ?_, nums_apart HX9.out (HFAR.out _ _) HNZ.out, HCZ.out.far hgg HX9.out (HFAR.out _ _), HB79.out.setCell h79 _⟩
        · intro e; have := congrArg D.n e; simp at this <;> omega
        · exact st2 HX9.out _
      · go_wp2_with fail
        go_meet
        refine ⟨{ x.2 with on := !x.2.on }, np, nc, ?_, HNM.out x (by rw [← HXE.out]; exact List.getElem_mem hK2), ?_, nums_apart HX9.out (HFAR.out _ _) HNZ.out, HCZ.out.far hgg HX9.out (HFAR.out _ _), HB79.out.setCell h79 _⟩
        · intro e; have := congrArg D.on e; simp at this
        · exact st3 HX9.out _
      · go_wp2_with fail
        go_meet
        refine ⟨{ x.2 with t := x.2.t ++ [120] }, np, nc, ?_, HNM.out x (by rw [← HXE.out]; exact List.getElem_mem hK2), ?_, nums_apart HX9.out (HFAR.out _ _) HNZ.out, HCZ.out.far hgg HX9.out (HFAR.out _ _), HB79.out.setCell h79 _⟩
        · intro e; have := congrArg (fun d => (D.t d).length) e; simp at this
        · rw [← HBS.out.1, cat_eq]; exact st4 HX9.out _
      · go_wp2_with fail
        go_meet
        refine ⟨{ x.2 with x := x.2.x ++ [49] }, np, nc, ?_, HNM.out x (by rw [← HXE.out]; exact List.getElem_mem hK2), ?_, nums_apart HX9.out (HFAR.out _ _) HNZ.out, HCZ.out.far hgg HX9.out (HFAR.out _ _), HB79.out.setCell h79 _⟩
        · intro e; have := congrArg (fun d => (D.x d).length) e; simp at this
        · rw [← HBS.out.2.1, cat_eq]; exact st5 HX9.out _
      · go_wp2_with fail
        go_meet
        refine ⟨{ x.2 with y := x.2.y ++ [49] }, np, nc, ?_, HNM.out x (by rw [← HXE.out]; exact List.getElem_mem hK2), ?_, nums_apart HX9.out (HFAR.out _ _) HNZ.out, HCZ.out.far hgg HX9.out (HFAR.out _ _), HB79.out.setCell h79 _⟩
        · intro e; have := congrArg (fun d => (D.y d).length) e; simp at this
        · rw [← HBS.out.2.2.1, cat_eq]; exact st6 HX9.out _
      · go_wp2_with fail
        go_meet
        refine ⟨{ x.2 with u := x.2.u ++ [49] }, np, nc, ?_, HNM.out x (by rw [← HXE.out]; exact List.getElem_mem hK2), ?_, nums_apart HX9.out (HFAR.out _ _) HNZ.out, HCZ.out.far hgg HX9.out (HFAR.out _ _), HB79.out.setCell h79 _⟩
        · intro e; have := congrArg (fun d => (D.u d).length) e; simp at this
        · rw [← HBS.out.2.2.2.1, cat_eq]; exact st7 HX9.out _
      · go_wp2_with fail
        go_meet
        refine ⟨{ x.2 with v := x.2.v ++ [49] }, np, nc, ?_, HNM.out x (by rw [← HXE.out]; exact List.getElem_mem hK2), ?_, nums_apart HX9.out (HFAR.out _ _) HNZ.out, HCZ.out.far hgg HX9.out (HFAR.out _ _), HB79.out.setCell h79 _⟩
        · intro e; have := congrArg (fun d => (D.v d).length) e; simp at this
        · rw [← HBS.out.2.2.2.2, cat_eq]; exact st8 HX9.out _
      · have HA9 : Hid (Below W9.heap.size W9 (W9.alloc (.cells #[] 2))) := (Below.refl _ _).alloc (Nat.le_refl _) _
        have HXA := one_below HXB.out HA9.out
        obtain ⟨⟨_, _, _, _, _, _, _, _, _, a9⟩, _⟩ := dr_at HXA
        have HNA := Lib.hid (HNZ.out.below HA9.out)
        have hgx9 : gx < W9.heap.size := (Array.getElem?_eq_some_iff.1 HXB.out).1
        obtain ⟨j0, hi, hz0, hz1, hz2⟩ := info_parts info_i64
        have HI := Lib.hid (And.intro hi (And.intro hz0 (And.intro hz1 hz2)))
        clear hi hz0 hz1 hz2 HXA
        have HOW : Hid ((W9.alloc (.cells #[] 2)).ownsRow W9.heap.size 2 1 (.slice (some ⟨W9.heap.size, 0, none⟩) 0 0) 0 []) :=
          ⟨rfl, .inr ⟨_, 0, #[], rfl, Nat.le_refl _, heap_alloc_new W9 _, Nat.le_refl _, by unfold maxLen; decide, rfl, rfl⟩⟩
        obtain ⟨zs, hzs⟩ : ∃ zs, x.2.nums = zs := ⟨_, rfl⟩
        have hzl : zs.length ≤ 1 := by rw [← hzs]; exact HXO.out.nums
        rw [hzs] at a9 d9
        have HZS := Lib.hid hzs
        match zs, hzl with
        | [], _ =>
          cases np with
          | none =>
            have HN87 : Hid (((W9.alloc (.cells #[] 2)).alloc (.cells #[.int .i64 1] 2)).heap[W9.heap.size + 1]? = some (.cells #[.int .i64 1] 2)) := by
              have := heap_alloc_new (W9.alloc (.cells #[] 2)) (.cells #[.int .i64 1] 2)
              have e : (W9.alloc (.cells #[] 2)).heap.size = W9.heap.size + 1 := by simp
              rw [e] at this
              exact this
            go_wp2_with (at_builtin; refine wpList_append_lies _ rfl _ _ _ rfl W9.heap.size 2 j0 (.int .i64 0) 1 8 Tryd.underlying37 HI.out.1 HI.out.2.1 HI.out.2.2.1 HI.out.2.2.2 rfl (by decide) (.slice (some ⟨W9.heap.size, 0, none⟩) 0 0) 0 [] (by rfl) (HOW.out.alloc _) ⟨W9.heap.size + 1, 0, none⟩ 1 1 [.int .i64 1] (by rfl) rfl (World.news_of_block HN87.out) (by simp [Value.oneCell']) (by decide) (by unfold maxLen; decide) (by decide) (by simp <;> omega) _ rfl ?_; intro g2 cap2 w2' hown2 hgrow2 hat2 hlt2; have hb2 : Below W9.heap.size W9 w2' := (HA9.out.alloc HA9.out.size _).grown hgrow2 (by simp <;> omega) (fun k hk => by injection hk with hk; rw [← hk]; exact Nat.le_refl _); have hX2 := one_below HXB.out hb2; obtain ⟨⟨e0, e1, e2, e3, e4, e5, e6, e7, e8, e9⟩, q0, q1, q2, q3, q4, q5, q6, q7, q8, q9⟩ := dr_at hX2; skip)
            go_meet
            refine ⟨{ x.2 with nums := [1] }, some ⟨g2, 0, none⟩, cap2, ?_, by show 1 ≤ 1000000000; decide, ?_, nums_apart hX2 (fun c hc => Below.heap_setCell _ _ _ _ hc) (nums_own hown2 rfl), (HCZ.out.below hb2).far hgg hX2 (fun c hc => Below.heap_setCell _ _ _ _ hc), (HB79.out.trans (hb2.mono HB79.out.size)).setCell h79 _⟩
            · intro e; have := congrArg (fun d => (D.nums d).length) e; rw [HZS.out] at this; simp at this
            · rw [HBS.out.1, HBS.out.2.1, HBS.out.2.2.1, HBS.out.2.2.2.1, HBS.out.2.2.2.2]; exact st9 hX2 _
          | some ad =>
            go_wp2_with (first | (at_builtin; refine wpList_append_own _ rfl _ _ _ rfl W9.heap.size 2 j0 (.int .i64 0) 1 8 Tryd.underlying37 HI.out.1 HI.out.2.1 HI.out.2.2.1 HI.out.2.2.2 rfl (by decide) (.slice (some ⟨W9.heap.size, 0, none⟩) 0 0) 0 [] (by rfl) HOW.out ad 0 nc [] (by rfl) rfl (fun j u h => by simp at h) (by simp [Value.oneCell']) (by unfold maxLen; decide) (by decide) HA9.out.size ?_; intro v1 w1' hown1 hgrow1 hnn1; have hb1 : Below W9.heap.size W9 w1' := HA9.out.grown hgrow1 HA9.out.size (fun k hk => by injection hk with hk; rw [← hk]; exact Nat.le_refl _); skip) | (at_builtin; refine wpList_append_lies _ rfl _ _ _ rfl W9.heap.size 2 j0 (.int .i64 0) 1 8 Tryd.underlying37 HI.out.1 HI.out.2.1 HI.out.2.2.1 HI.out.2.2.2 rfl (by decide) v1 (0 + 0) ([] ++ []) (by rfl) (hown1.alloc _) ⟨_, 0, none⟩ 1 1 [.int .i64 1] (by rfl) rfl (World.news_of_block (heap_alloc_new _ _)) (by simp [Value.oneCell']) (by decide) (by unfold maxLen; decide) (by decide) (by have := hb1.size; simp <;> omega) _ rfl ?_; intro g2 cap2 w2' hown2 hgrow2 hat2 hlt2; have hb2 : Below W9.heap.size W9 w2' := (hb1.alloc hb1.size _).grown hgrow2 (by have := hb1.size; simp <;> omega) (fun k hk => (hown1.lt k hk).1); have hX2 := one_below HXB.out hb2; obtain ⟨⟨e0, e1, e2, e3, e4, e5, e6, e7, e8, e9⟩, q0, q1, q2, q3, q4, q5, q6, q7, q8, q9⟩ := dr_at hX2; skip))
            go_meet
            refine ⟨{ x.2 with nums := [1] }, some ⟨g2, 0, none⟩, cap2, ?_, by show 1 ≤ 1000000000; decide, ?_, nums_apart hX2 (fun c hc => Below.heap_setCell _ _ _ _ hc) (nums_own hown2 rfl), (HCZ.out.below hb2).far hgg hX2 (fun c hc => Below.heap_setCell _ _ _ _ hc), (HB79.out.trans (hb2.mono HB79.out.size)).setCell h79 _⟩
            · intro e; have := congrArg (fun d => (D.nums d).length) e; rw [HZS.out] at this; simp at this
            · rw [HBS.out.1, HBS.out.2.1, HBS.out.2.2.1, HBS.out.2.2.2.1, HBS.out.2.2.2.2]; exact st9 hX2 _
        | [z], _ =>
          rw [hzs] at HNA
          obtain ⟨b2, o2, cs2, rfl, _, hh2, hc2⟩ := HNA.out (by show 0 < 1; decide)
          have HNW : Hid (∀ j u, ([.int .i64 z] : List Value)[j]? = some u → (W9.alloc (.cells #[] 2)).cell? ((⟨b2, o2, none⟩ : Addr).add j) = some u) := by
            intro j u hu
            match j, hu with
            | 0, hu =>
              simp at hu
              subst hu
              have := hc2 0 (by show 0 < 1; decide)
              rw [Nat.add_zero] at this
              simp [Addr.add, World.cell?, hh2, this]
          clear hh2 hc2
          go_wp2_with (first | (at_builtin; refine wpList_append_own _ rfl _ _ _ rfl W9.heap.size 2 j0 (.int .i64 0) 1 8 Tryd.underlying37 HI.out.1 HI.out.2.1 HI.out.2.2.1 HI.out.2.2.2 rfl (by decide) (.slice (some ⟨W9.heap.size, 0, none⟩) 0 0) 0 [] (by rfl) HOW.out ⟨b2, o2, none⟩ 1 nc [.int .i64 z] (by rfl) rfl HNW.out (by simp [Value.oneCell']) (by unfold maxLen; decide) (by decide) HA9.out.size ?_; intro v1 w1' hown1 hgrow1 hnn1; have hb1 : Below W9.heap.size W9 w1' := HA9.out.grown hgrow1 HA9.out.size (fun k hk => by injection hk with hk; rw [← hk]; exact Nat.le_refl _); skip) | (at_builtin; refine wpList_append_lies _ rfl _ _ _ rfl W9.heap.size 2 j0 (.int .i64 0) 1 8 Tryd.underlying37 HI.out.1 HI.out.2.1 HI.out.2.2.1 HI.out.2.2.2 rfl (by decide) v1 (0 + 1) ([] ++ [.int .i64 z]) (by rfl) (hown1.alloc _) ⟨_, 0, none⟩ 1 1 [.int .i64 1] (by rfl) rfl (World.news_of_block (heap_alloc_new _ _)) (by simp [Value.oneCell']) (by decide) (by unfold maxLen; decide) (by decide) (by have := hb1.size; simp <;> omega) _ rfl ?_; intro g2 cap2 w2' hown2 hgrow2 hat2 hlt2; have hb2 : Below W9.heap.size W9 w2' := (hb1.alloc hb1.size _).grown hgrow2 (by have := hb1.size; simp <;> omega) (fun k hk => (hown1.lt k hk).1); have hX2 := one_below HXB.out hb2; obtain ⟨⟨e0, e1, e2, e3, e4, e5, e6, e7, e8, e9⟩, q0, q1, q2, q3, q4, q5, q6, q7, q8, q9⟩ := dr_at hX2; skip))
          go_meet
          refine ⟨{ x.2 with nums := [z, 1] }, some ⟨g2, 0, none⟩, cap2, ?_, by show 2 ≤ 1000000000; decide, ?_, nums_apart hX2 (fun c hc => Below.heap_setCell _ _ _ _ hc) (nums_own hown2 rfl), (HCZ.out.below hb2).far hgg hX2 (fun c hc => Below.heap_setCell _ _ _ _ hc), (HB79.out.trans (hb2.mono HB79.out.size)).setCell h79 _⟩
          · intro e; have := congrArg (fun d => (D.nums d).length) e; rw [HZS.out] at this; simp at this
          · rw [HBS.out.1, HBS.out.2.1, HBS.out.2.2.1, HBS.out.2.2.2.1, HBS.out.2.2.2.2]; exact st9 hX2 _
    case rest =>
    obtain ⟨d', np', nc', HNE, HDL, HX, HN, HC, HB⟩ := hcut
    obtain ⟨⟨d0, d1, d2, d3, d4, d5, d6, d7, d8, d9⟩, _⟩ := dr_at HX.out
    obtain ⟨nq, cq', ⟨s0, s1, s2, s3, s4, s5, s6, s7, s8, s9⟩, _⟩ := HC.out.at K hK2
    have f0 := HC.out.frozen (K * 10)
    have f1 := HC.out.frozen (K * 10 + 1)
    have f2 := HC.out.frozen (K * 10 + 2)
    have f3 := HC.out.frozen (K * 10 + 3)
    have f4 := HC.out.frozen (K * 10 + 4)
    have f5 := HC.out.frozen (K * 10 + 5)
    have f6 := HC.out.frozen (K * 10 + 6)
    have f7 := HC.out.frozen (K * 10 + 7)
    have f8 := HC.out.frozen (K * 10 + 8)
    have f9 := HC.out.frozen (K * 10 + 9)
    clear HXB HBS hn1 zT zX zY zU zV HCZ HNZ HX9 HB79
    have HC10 := Lib.hid (HC.out.put K hK2 (x.1, d') np' nc' HN.out)
    have HB10 := Lib.hid (put10_below HB.out hg' (K * 10) (x.1, d') (.slice np' d'.nums.length nc'))
    go_upto_region 30 with fail
    change Code.wp _ _ _ _ (put10 wc g' (K * 10) (x.1, d') (.slice np' d'.nums.length nc'))
    clear d0 d1 d2 d3 d4 d5 d6 d7 d8 d9 s0 s1 s2 s3 s4 s5 s6 s7 s8 s9 f0 f1 f2 f3 f4 f5 f6 f7 f8 f9 HX
    generalize put10 wc g' (K * 10) (x.1, d') (.slice np' d'.nums.length nc') = W10 at HC10 HB10 ⊢
    have HD10 := Lib.hid (HD7.out.below HB10.out)
    have HSF : Hid (decide (a.map Prod.snd = (a.set K (x.1, d')).map Prod.snd) = false) := by
      refine decide_eq_false (fun e => ?_)
      have e1 : (a.map Prod.snd)[K]'(by simpa using hK2) = ((a.set K (x.1, d')).map Prod.snd)[K]'(by simpa using hK2) := by simp only [e]
      simp only [List.getElem_map, List.getElem_set_self] at e1
      rw [HXE.out] at e1
      exact HNE.out e1.symm
    go_wp2_with fail
    have hsame := Same_c w1.heap.size 0 (some ⟨g0, 0, none⟩) (some ⟨g', 0, none⟩) a (a.set K (x.1, d')) c cap' (by omega) (by rw [List.length_set]; omega) HNM W10 HD10 (Lib.hid HC10.out.reads) false HSF
    rw [List.length_set] at hsame
    refine hsame.mono ?_
    clear hsame
    rintro en W11 ⟨rfl, hb11⟩
    have HD11 := Lib.hid (HD10.out.below hb11)
    have HC11 := Lib.hid (HC10.out.below hb11)
    have HB11 := Lib.hid (HB10.out.trans (hb11.mono HB10.out.size))
    clear hb11 HD10 HC10 HB10 HSF
    have hKs : K < (a.set K (x.1, d')).length := by rw [List.length_set]; exact hK2
    obtain ⟨nr, cr, ⟨s0, s1, s2, s3, s4, s5, s6, s7, s8, s9⟩, _⟩ := HC11.out.at K hKs
    obtain ⟨b, o, hbo, hblt, hcc⟩ := HD11.out hap
    injection hbo with hbo
    injection hbo with e1 e2 _
    subst e1 e2
    obtain ⟨mp, mc, hten, hmn⟩ := hcc K hK2
    rw [HXE.out, Nat.zero_add] at hten
    rw [HXE.out] at hmn
    obtain ⟨t0, t1, t2, t3, t4, t5, t6, t7, t8, t9⟩ := hten
    have k0 := HC11.out.frozen (K * 10)
    have k1 := HC11.out.frozen (K * 10 + 1)
    have k2 := HC11.out.frozen (K * 10 + 2)
    have k3 := HC11.out.frozen (K * 10 + 3)
    have k4 := HC11.out.frozen (K * 10 + 4)
    have k5 := HC11.out.frozen (K * 10 + 5)
    have k6 := HC11.out.frozen (K * 10 + 6)
    have k7 := HC11.out.frozen (K * 10 + 7)
    have k8 := HC11.out.frozen (K * 10 + 8)
    have k9 := HC11.out.frozen (K * 10 + 9)
    have HC12 := Lib.hid (HC11.out.put K hKs x mp mc (hmn.mono (Nat.zero_le _)))
    have HB12 := Lib.hid (put10_below HB11.out hg' (K * 10) x (.slice mp x.2.nums.length mc))
    clear hcc hmn
    go_upto_region 33 with fail
    change Code.wp _ _ _ _ (put10 W11 g' (K * 10) x (.slice mp x.2.nums.length mc))
    clear s0 s1 s2 s3 s4 s5 s6 s7 s8 s9 t0 t1 t2 t3 t4 t5 t6 t7 t8 t9 k0 k1 k2 k3 k4 k5 k6 k7 k8 k9 HC11 HB11
    generalize put10 W11 g' (K * 10) x (.slice mp x.2.nums.length mc) = W12 at HC12 HB12 ⊢
    have hKs2 : K < ((a.set K (x.1, d')).set K x).length := by rw [List.length_set]; exact hKs
    obtain ⟨nr2, cr2, ⟨s0, _⟩, _⟩ := HC12.out.at K hKs2
    rw [List.getElem_set_self] at s0
    have f0 := HC12.out.frozen (K * 10)
    obtain ⟨X1, hX1⟩ : ∃ X1 : Nat, (x.1 : Int) + 1 = X1 := ⟨x.1 + 1, by omega⟩
    have hx1 : x.1 ≤ 2800 := by
      have := parse_ats HPA.out x (by rw [← HXE.out]; exact List.getElem_mem hK2)
      rw [len_list] at this
      omega
    have hX1b : X1 ≤ 2801 := by omega
    have HC13 := Lib.hid (HC12.out.put0 K hKs2 X1)
    have HB13 := Lib.hid (HB12.out.setCell (p := ⟨g', K * 10, none⟩) hg' (.int .i64 (X1 : Int)))
    go_upto_region 34 with fail
    change Code.wp _ _ _ _ (W12.setCell ⟨g', K * 10, none⟩ (.int .i64 (X1 : Int)))
    clear s0 f0 HC12 HB12
    generalize W12.setCell ⟨g', K * 10, none⟩ (.int .i64 (X1 : Int)) = W13 at HC13 HB13 ⊢
    have HD13 := Lib.hid (HD7.out.below HB13.out)
    have HST : Hid (decide (a.map Prod.snd = ((((a.set K (x.1, d')).set K x).set K (X1, ((a.set K (x.1, d')).set K x)[K].2))).map Prod.snd) = true) := by
      refine decide_eq_true ?_
      rw [List.getElem_set_self, List.set_set, List.set_set, List.map_set]
      refine (List.ext_getElem (by simp) (fun i h1 h2 => ?_))
      rw [List.getElem_set]
      split
      · rename_i hik
        subst hik
        rw [List.getElem_map, HXE.out]
      · rfl
    go_wp2_with fail
    have hsame := Same_c w1.heap.size 0 (some ⟨g0, 0, none⟩) (some ⟨g', 0, none⟩) a _ c cap' (by omega) (by rw [List.length_set, List.length_set, List.length_set]; omega) HNM W13 HD13 (Lib.hid HC13.out.reads) true HST
    rw [List.length_set, List.length_set, List.length_set] at hsame
    refine hsame.mono ?_
    clear hsame
    rintro en W14 ⟨rfl, hb14⟩
    have HB14 := Lib.hid (HB7.out.trans ((HB13.out.trans (hb14.mono HB13.out.size)).mono HB7.out.size))
    go_wp2_with fail
    refine (awake_c W14 (Lib.hid (HT.out.below HB14.out)) (Lib.hid (HM.out.below HB14.out))).mono ?_
    rintro en W15 ⟨rfl, hb15⟩
    go_wp2_with fail
    go_ret
    exact ⟨rfl, HB14.out.trans (hb15.mono HB14.out.size)⟩
end Go.Proofs.YtecpmnkgikcpnaaDoor.ExceSame
