/-
  The walk of exce's toolLine at any list, and of line's kinds that use it, and of RAgain.
-/
import Derived.Test.YtecpmnkgikcpnaaDoorXwK
import Derived.Deep.RegionHeld3
namespace Go.Proofs.YtecpmnkgikcpnaaDoor.XW
open Go.RowKit Go.Proofs.YtecpmnkgikcpnaaDoor.Base Go.Proofs.YtecpmnkgikcpnaaDoor.Dp Go.Proofs.YtecpmnkgikcpnaaDoor.DeciW Go.Proofs.YtecpmnkgikcpnaaDoor.Xp

theorem toolL_no (n : Int) (l : List Int) (h : l.length ≠ 1) : toolL n l = [] := by
  match l, h with
  | [], _ => rfl
  | [_], h => exact absurd rfl h
  | _ :: _ :: _, _ => rfl

set_option maxRecDepth 100000 in
set_option maxHeartbeats 1600000 in
theorem toolNo_c (k n : Int) (on : Bool) (t x y u v : ByteArray) (a : Int) (p : Option Addr) (m c : Nat) (h1 : ((m : Int) == 1) = false) (w : World) :
    Calls Tryd.prog 47 #[.agg #[.int .i64 a, .int .i64 k, .int .i64 n, .bool on, .string t, .string x, .string y, .string u, .string v, .slice p m c]] w fun e w' => e = .returned (.string ⟨#[]⟩) ∧ Below w.heap.size w w' := by
  have h2 : ((m : Int) != 1) = true := by rw [bne, h1]; rfl
  have HB : Hid (Below w.heap.size w (w.alloc (.cells #[.int .i64 a, .int .i64 k, .int .i64 n, .bool on, .string t, .string x, .string y, .string u, .string v, .slice p m c] 39))) := (Below.refl _ _).alloc (Nat.le_refl _) _
  have HO := Lib.hid (heap_alloc_new w (.cells #[.int .i64 a, .int .i64 k, .int .i64 n, .bool on, .string t, .string x, .string y, .string u, .string v, .slice p m c] 39))
  go_enter Tryd.func47, Tryd.ntmps47
  go_upto_region 1 with fail
  generalize w.alloc (.cells #[.int .i64 a, .int .i64 k, .int .i64 n, .bool on, .string t, .string x, .string y, .string u, .string v, .slice p m c] 39) = W1 at HB HO ⊢
  obtain ⟨⟨d0, d1, d2, d3, d4, d5, d6, d7, d8, d9⟩, _⟩ := dr_at HO.out
  go_wp2_with fail
  go_ret
  exact ⟨rfl, HB.out⟩

theorem toolLine_c (B : Nat) (k n : Int) (hn0 : -9223372036854775808 ≤ n) (hn1 : n ≤ 9223372036854775807) (on : Bool) (t x y u v : ByteArray) (a : Int) (p : Option Addr) (l : List Int) (c : Nat) (hl : Hid (∀ z ∈ l, -9223372036854775808 ≤ z ∧ z ≤ 9223372036854775807)) (S : ByteArray) (hS : Hid (S.data.toList = toolL n l)) (w : World) (hT : Tab w) (H : Hid (NumsIn B w p l)) :
    Calls Tryd.prog 47 #[.agg #[.int .i64 a, .int .i64 k, .int .i64 n, .bool on, .string t, .string x, .string y, .string u, .string v, .slice p l.length c]] w fun e w' => e = .returned (.string S) ∧ Below w.heap.size w w' := by
  by_cases h1 : l.length = 1
  · obtain ⟨z, rfl⟩ := List.length_eq_one_iff.1 h1
    obtain ⟨b, o, cs, rfl, _, hh, hc⟩ := H.out (by rw [h1]; exact Nat.one_pos)
    have hz := hl.out z (List.mem_singleton.2 rfl)
    have hcell : w.cell? ⟨b, o, none⟩ = some (.int .i64 z) := by
      have := hc 0 (by rw [h1]; exact Nat.one_pos)
      rw [Nat.add_zero] at this
      simp [World.cell?, hh, this]
    exact tool1_c k n z on t x y u v a b o c hn0 hn1 hz.1 hz.2 S hS w hT hcell (Array.getElem?_eq_some_iff.1 hh).1
  · have hE : S = ⟨#[]⟩ := str_eq (by rw [hS.out, toolL_no n l h1])
    subst hE
    exact toolNo_c k n on t x y u v a p l.length c (by rw [beq_eq_false_iff_ne]; omega) w

set_option maxRecDepth 100000 in
set_option maxHeartbeats 1600000 in
theorem ln4 (B : Nat) (n : Int) (hn0 : -9223372036854775808 ≤ n) (hn1 : n ≤ 9223372036854775807) (on : Bool) (t x y u v : ByteArray) (a : Int) (p : Option Addr) (l : List Int) (c : Nat) (hl : Hid (∀ z ∈ l, -9223372036854775808 ≤ z ∧ z ≤ 9223372036854775807)) (S : ByteArray) (hS : Hid (S.data.toList = toolL n l)) (w : World) (hT : Tab w) (H : Hid (NumsIn B w p l)) :
    Calls Tryd.prog 30 #[.agg #[.int .i64 a, .int .i64 4, .int .i64 n, .bool on, .string t, .string x, .string y, .string u, .string v, .slice p l.length c]] w fun e w' => e = .returned (.string S) ∧ Below w.heap.size w w' := by
  obtain ⟨nv, hnv⟩ : ∃ nv, Value.slice p l.length c = nv := ⟨_, rfl⟩
  have HV := Lib.hid hnv
  rw [hnv]
  clear hnv
  have HB : Hid (Below w.heap.size w (w.alloc (.cells #[.int .i64 a, .int .i64 4, .int .i64 n, .bool on, .string t, .string x, .string y, .string u, .string v, nv] 39))) := (Below.refl _ _).alloc (Nat.le_refl _) _
  have HO := Lib.hid (heap_alloc_new w (.cells #[.int .i64 a, .int .i64 4, .int .i64 n, .bool on, .string t, .string x, .string y, .string u, .string v, nv] 39))
  have HT := Lib.hid (hT.below HB.out)
  have HN := Lib.hid (H.out.below HB.out)
  clear hT H
  go_enter Tryd.func30, Tryd.ntmps30
  go_upto_region 1 with fail
  generalize w.alloc (.cells #[.int .i64 a, .int .i64 4, .int .i64 n, .bool on, .string t, .string x, .string y, .string u, .string v, nv] 39) = W1 at HB HO HT HN ⊢
  obtain ⟨⟨d0, d1, d2, d3, d4, d5, d6, d7, d8, d9⟩, _⟩ := dr_at HO.out
  go_wp2_with fail
  rw [← HV.out]
  refine (toolLine_c B 4 n hn0 hn1 on t x y u v a p l c hl S hS _ HT.out HN).mono ?_
  rintro e w2 ⟨rfl, hb2⟩
  have HC := Lib.hid (HB.out.trans (hb2.mono HB.out.size))
  clear hb2
  go_wp2_with fail
  go_ret
  exact ⟨rfl, HC.out⟩

theorem place_bb (l : UInt8) (C : ByteArray) (hC : C.size ≤ 1000000000) (S : ByteArray) (hS : Hid (S.data.toList = plc l C.data.toList)) (w : World) :
    Calls Tryd.prog 49 #[.string ⟨#[l]⟩, .string C] w fun e w' => e = .returned (.string S) ∧ Below w.heap.size w w' :=
  (place_b l C hC S hS w).mono fun _ _ h => ⟨h.1, h.2 ▸ Below.refl _ _⟩
/-- What is held while RAgain's line is made. -/
abbrev AgP (w : World) (g : Nat) (n : Int) (x y : ByteArray) (X : World) : Prop :=
  X.cell? ⟨g, 2, none⟩ = some (.int .i64 n) ∧ X.cell? ⟨g, 5, none⟩ = some (.string x) ∧ X.cell? ⟨g, 6, none⟩ = some (.string y) ∧ Tab X ∧ Below w.heap.size w X ∧ g < X.heap.size ∧ w.heap.size ≤ X.heap.size
theorem ag_keep {w v X : World} {g : Nat} {n : Int} {x y : ByteArray} (hx : Below v.heap.size v X) (h : AgP w g n x y v) : AgP w g n x y X := by
  obtain ⟨h1, h2, h3, h4, h5, h6, h8⟩ := h
  exact ⟨(hx.cell h6).trans h1, (hx.cell h6).trans h2, (hx.cell h6).trans h3, h4.below hx, h5.trans (hx.mono h8), Nat.lt_of_lt_of_le h6 hx.size, Nat.le_trans h8 hx.size⟩
theorem ag_drew {w X : World} {g : Nat} {n : Int} {x y : ByteArray} (h : AgP w g n x y X) : AgP w g n x y X.drew := ag_keep (Below.refl _ _).drew h
theorem ag_tab {w X : World} {g : Nat} {n : Int} {x y : ByteArray} (h : AgP w g n x y X) : Tab X := h.2.2.2.1

set_option maxRecDepth 100000 in
set_option maxHeartbeats 3200000 in
theorem ln12 (n : Int) (hn0 : -9223372036854775808 ≤ n) (hn1 : n ≤ 9223372036854775807) (on : Bool) (t x y u v : ByteArray) (a : Int) (nv : Value) (hx : x.size ≤ 1000000000) (hy : y.size ≤ 1000000000) (S : ByteArray) (hS : Hid (S.data.toList = 82 :: (intL n ++ plc 88 x.data.toList ++ plc 89 y.data.toList))) (w : World) (hT : Tab w) :
    Calls Tryd.prog 30 #[.agg #[.int .i64 a, .int .i64 12, .int .i64 n, .bool on, .string t, .string x, .string y, .string u, .string v, nv]] w fun e w' => e = .returned (.string S) ∧ Below w.heap.size w w' := by
  obtain ⟨A, hA⟩ : ∃ A : ByteArray, A.data.toList = Lib.itoa n := ⟨⟨(Lib.itoa n).toArray⟩, rfl⟩
  have hzA : A.size ≤ 21 := by rw [← len_list, hA]; exact Lib.itoa_length_le _ hn0 hn1
  obtain ⟨X, HX, zx⟩ := plc_some 88 x hx
  obtain ⟨Y, HY, zy⟩ := plc_some 89 y hy
  have hE : S = (⟨#[82]⟩ : ByteArray) ++ A ++ X ++ Y := str_eq (by rw [hS.out, ← HX.out, ← HY.out]; simp [intL, hA])
  subst hE
  have HA := Lib.hid hA
  have s1 : ¬ 9223372036854775807 < 1 + A.size := by omega
  have s2 : ¬ 9223372036854775807 < 1 + A.size + X.size := by omega
  have s3 : ¬ 9223372036854775807 < 1 + A.size + X.size + Y.size := by omega
  have HT : Hid (AgP w w.heap.size n x y (w.alloc (.cells #[.int .i64 a, .int .i64 12, .int .i64 n, .bool on, .string t, .string x, .string y, .string u, .string v, nv] 39))) := by
    have hB := (Below.refl w.heap.size w).alloc (Nat.le_refl _) (.cells #[.int .i64 a, .int .i64 12, .int .i64 n, .bool on, .string t, .string x, .string y, .string u, .string v, nv] 39)
    have hO := heap_alloc_new w (.cells #[.int .i64 a, .int .i64 12, .int .i64 n, .bool on, .string t, .string x, .string y, .string u, .string v, nv] 39)
    obtain ⟨⟨d0, d1, d2, d3, d4, d5, d6, d7, d8, d9⟩, _⟩ := dr_at hO
    exact ⟨d2, d5, d6, hT.below hB, hB, (Array.getElem?_eq_some_iff.1 hO).1, hB.size⟩
  have HO := Lib.hid (heap_alloc_new w (.cells #[.int .i64 a, .int .i64 12, .int .i64 n, .bool on, .string t, .string x, .string y, .string u, .string v, nv] 39))
  clear hA hS hT
  go_enter Tryd.func30, Tryd.ntmps30
  go_upto_region 1 with fail
  generalize w.alloc (.cells #[.int .i64 a, .int .i64 12, .int .i64 n, .bool on, .string t, .string x, .string y, .string u, .string v, nv] 39) = W1 at HT HO ⊢
  obtain ⟨⟨d0, d1, d2, d3, d4, d5, d6, d7, d8, d9⟩, _⟩ := dr_at HO.out
  go_wp2_with fail
  clear d0 d1 d2 d3 d4 d5 d6 d7 d8 d9
  go_region_held3 (fun Z => AgP w w.heap.size n x y Z) (first | exact HT.out | exact ag_drew HT.out | exact ag_keep (by assumption) (by assumption) | exact ag_drew (by assumption)) (first | (go_at_call 48; refine (itoa_b n hn0 hn1 A HA _ (ag_tab (by assumption))).mono ?_; rintro e w' ⟨rfl, hbw⟩) | (go_at_call 49; with_reducible refine (place_bb 88 x hx X HX _).mono ?_; rintro e w' ⟨rfl, hbw⟩) | (go_at_call 49; with_reducible refine (place_bb 89 y hy Y HY _).mono ?_; rintro e w' ⟨rfl, hbw⟩))
  rename_i hHeld
  have HH := Lib.hid hHeld
  clear hHeld
  go_wp2_with fail
  go_ret
  exact ⟨rfl, HH.out.2.2.2.2.1⟩
end Go.Proofs.YtecpmnkgikcpnaaDoor.XW
