/-
  The walk of exce's line: the kinds that call unitLine, Itoa; no kind.
-/
import Derived.Test.YtecpmnkgikcpnaaDoorXwJ
namespace Go.Proofs.YtecpmnkgikcpnaaDoor.XW
open Go.RowKit Go.Proofs.YtecpmnkgikcpnaaDoor.Base Go.Proofs.YtecpmnkgikcpnaaDoor.Dp Go.Proofs.YtecpmnkgikcpnaaDoor.DeciW Go.Proofs.YtecpmnkgikcpnaaDoor.Xp

set_option maxRecDepth 100000 in
set_option maxHeartbeats 1600000 in
theorem ln3 (n : Int) (on : Bool) (t x y u v : ByteArray) (a : Int) (nv : Value) (S : ByteArray) (hS : Hid (S.data.toList = unitL n on)) (w : World) :
    Calls Tryd.prog 30 #[.agg #[.int .i64 a, .int .i64 3, .int .i64 n, .bool on, .string t, .string x, .string y, .string u, .string v, nv]] w fun e w' => e = .returned (.string S) ∧ Below w.heap.size w w' := by
  have HB : Hid (Below w.heap.size w (w.alloc (.cells #[.int .i64 a, .int .i64 3, .int .i64 n, .bool on, .string t, .string x, .string y, .string u, .string v, nv] 39))) := (Below.refl _ _).alloc (Nat.le_refl _) _
  have HO := Lib.hid (heap_alloc_new w (.cells #[.int .i64 a, .int .i64 3, .int .i64 n, .bool on, .string t, .string x, .string y, .string u, .string v, nv] 39))
  go_enter Tryd.func30, Tryd.ntmps30
  go_upto_region 1 with fail
  generalize w.alloc (.cells #[.int .i64 a, .int .i64 3, .int .i64 n, .bool on, .string t, .string x, .string y, .string u, .string v, nv] 39) = W1 at HB HO ⊢
  obtain ⟨⟨d0, d1, d2, d3, d4, d5, d6, d7, d8, d9⟩, _⟩ := dr_at HO.out
  go_wp2_with fail
  refine (unit_c 3 n on t x y u v a nv S hS _).mono ?_
  rintro e w2 ⟨rfl, hb2⟩
  have HC := Lib.hid (HB.out.trans (hb2.mono HB.out.size))
  clear hb2
  go_wp2_with fail
  go_ret
  exact ⟨rfl, HC.out⟩

set_option maxRecDepth 100000 in
set_option maxHeartbeats 1600000 in
theorem ln6 (n : Int) (hn0 : -9223372036854775808 ≤ n) (hn1 : n ≤ 9223372036854775807) (on : Bool) (t x y u v : ByteArray) (a : Int) (nv : Value) (S : ByteArray) (hS : Hid (S.data.toList = 84 :: intL n)) (w : World) (hT : Tab w) :
    Calls Tryd.prog 30 #[.agg #[.int .i64 a, .int .i64 6, .int .i64 n, .bool on, .string t, .string x, .string y, .string u, .string v, nv]] w fun e w' => e = .returned (.string S) ∧ Below w.heap.size w w' := by
  obtain ⟨A, hA⟩ : ∃ A : ByteArray, A.data.toList = Lib.itoa n := ⟨⟨(Lib.itoa n).toArray⟩, rfl⟩
  have hzA : A.size ≤ 21 := by rw [← len_list, hA]; exact Lib.itoa_length_le _ hn0 hn1
  have hE : S = (⟨#[84]⟩ : ByteArray) ++ A := str_eq (by rw [hS.out]; simp [intL, hA])
  subst hE
  have HA := Lib.hid hA
  have s1 : ¬ 9223372036854775807 < 1 + A.size := by omega
  have HB : Hid (Below w.heap.size w (w.alloc (.cells #[.int .i64 a, .int .i64 6, .int .i64 n, .bool on, .string t, .string x, .string y, .string u, .string v, nv] 39))) := (Below.refl _ _).alloc (Nat.le_refl _) _
  have HO := Lib.hid (heap_alloc_new w (.cells #[.int .i64 a, .int .i64 6, .int .i64 n, .bool on, .string t, .string x, .string y, .string u, .string v, nv] 39))
  have HT := Lib.hid (hT.below HB.out)
  clear hA hS hT
  go_enter Tryd.func30, Tryd.ntmps30
  go_upto_region 1 with fail
  generalize w.alloc (.cells #[.int .i64 a, .int .i64 6, .int .i64 n, .bool on, .string t, .string x, .string y, .string u, .string v, nv] 39) = W1 at HB HO HT ⊢
  obtain ⟨⟨d0, d1, d2, d3, d4, d5, d6, d7, d8, d9⟩, _⟩ := dr_at HO.out
  go_wp2_with fail
  refine (itoa_b n hn0 hn1 A HA _ HT.out).mono ?_
  rintro e w2 ⟨rfl, hb2⟩
  have HC := Lib.hid (HB.out.trans (hb2.mono HB.out.size))
  clear hb2
  go_wp2_with fail
  go_ret
  exact ⟨rfl, HC.out⟩

set_option maxRecDepth 100000 in
set_option maxHeartbeats 1600000 in
theorem lnNo (k n : Int) (h1 : (k == 1) = false) (h2 : (k == 2) = false) (h3 : (k == 3) = false) (h4 : (k == 4) = false) (h5 : (k == 5) = false) (h6 : (k == 6) = false) (h7 : (k == 7) = false) (h8 : (k == 8) = false) (h9 : (k == 9) = false) (h10 : (k == 10) = false) (h11 : (k == 11) = false) (h12 : (k == 12) = false) (h13 : (k == 13) = false) (h14 : (k == 14) = false) (h15 : (k == 15) = false) (on : Bool) (t x y u v : ByteArray) (a : Int) (nv : Value) (S : ByteArray) (hS : Hid (S.data.toList = [])) (w : World) :
    Calls Tryd.prog 30 #[.agg #[.int .i64 a, .int .i64 k, .int .i64 n, .bool on, .string t, .string x, .string y, .string u, .string v, nv]] w fun e w' => e = .returned (.string S) ∧ Below w.heap.size w w' := by
  have hE : S = ⟨#[]⟩ := str_eq (by rw [hS.out])
  subst hE
  clear hS
  have HB : Hid (Below w.heap.size w (w.alloc (.cells #[.int .i64 a, .int .i64 k, .int .i64 n, .bool on, .string t, .string x, .string y, .string u, .string v, nv] 39))) := (Below.refl _ _).alloc (Nat.le_refl _) _
  have HO := Lib.hid (heap_alloc_new w (.cells #[.int .i64 a, .int .i64 k, .int .i64 n, .bool on, .string t, .string x, .string y, .string u, .string v, nv] 39))
  go_enter Tryd.func30, Tryd.ntmps30
  go_upto_region 1 with fail
  generalize w.alloc (.cells #[.int .i64 a, .int .i64 k, .int .i64 n, .bool on, .string t, .string x, .string y, .string u, .string v, nv] 39) = W1 at HB HO ⊢
  obtain ⟨⟨d0, d1, d2, d3, d4, d5, d6, d7, d8, d9⟩, _⟩ := dr_at HO.out
  go_wp2_with fail
  go_ret
  exact ⟨rfl, HB.out⟩
end Go.Proofs.YtecpmnkgikcpnaaDoor.XW
