/-
  The walk of exce's line, kind by kind (printed by line_gen.py).
-/
import Derived.Test.YtecpmnkgikcpnaaDoorXwI
import Derived.Deep.QuietTactic
import Derived.BigQuiet
namespace Go.Proofs.YtecpmnkgikcpnaaDoor.XW
open Go.RowKit Go.Proofs.YtecpmnkgikcpnaaDoor.Base Go.Proofs.YtecpmnkgikcpnaaDoor.Dp Go.Proofs.YtecpmnkgikcpnaaDoor.DeciW Go.Proofs.YtecpmnkgikcpnaaDoor.Xp

theorem place_b (l : UInt8) (C : ByteArray) (hC : C.size ≤ 1000000000) (S : ByteArray) (hS : Hid (S.data.toList = plc l C.data.toList)) (w : World) :
    Calls Tryd.prog 49 #[.string ⟨#[l]⟩, .string C] w fun e w' => e = .returned (.string S) ∧ w' = w :=
  place_c l C.data.toList (by rw [len_list]; exact hC) S hS w
theorem plc_some (l : UInt8) (C : ByteArray) (hC : C.size ≤ 1000000000) : ∃ X : ByteArray, Hid (X.data.toList = plc l C.data.toList) ∧ X.size ≤ 1000000001 := by
  refine ⟨⟨(plc l C.data.toList).toArray⟩, rfl, ?_⟩
  show (plc l C.data.toList).toArray.size ≤ _
  rw [List.size_toArray]
  have := len_list C
  unfold plc
  split
  · exact Nat.zero_le _
  · rw [List.length_cons]
    omega

set_option maxRecDepth 100000 in
set_option maxHeartbeats 1600000 in
theorem ln2 (n : Int) (on : Bool) (t x y u v : ByteArray) (a : Int) (nv : Value)  (S : ByteArray) (hS : Hid (S.data.toList = [77, 52, 56])) (w : World) :
    Calls Tryd.prog 30 #[.agg #[.int .i64 a, .int .i64 2, .int .i64 n, .bool on, .string t, .string x, .string y, .string u, .string v, nv]] w fun e w' => e = .returned (.string S) ∧ Below w.heap.size w w' := by
  have hE : S = ⟨#[77, 52, 56]⟩ := str_eq (by rw [hS.out])
  subst hE
  have HB : Hid (Below w.heap.size w (w.alloc (.cells #[.int .i64 a, .int .i64 2, .int .i64 n, .bool on, .string t, .string x, .string y, .string u, .string v, nv] 39))) := (Below.refl _ _).alloc (Nat.le_refl _) _
  have HO := Lib.hid (heap_alloc_new w (.cells #[.int .i64 a, .int .i64 2, .int .i64 n, .bool on, .string t, .string x, .string y, .string u, .string v, nv] 39))
  clear hS
  go_enter Tryd.func30, Tryd.ntmps30
  go_upto_region 1 with fail
  generalize w.alloc (.cells #[.int .i64 a, .int .i64 2, .int .i64 n, .bool on, .string t, .string x, .string y, .string u, .string v, nv] 39) = W1 at HB HO ⊢
  obtain ⟨⟨d0, d1, d2, d3, d4, d5, d6, d7, d8, d9⟩, _⟩ := dr_at HO.out
  go_wp2_with fail
  go_ret
  exact ⟨rfl, HB.out⟩

set_option maxRecDepth 100000 in
set_option maxHeartbeats 1600000 in
theorem ln5 (n : Int) (on : Bool) (t x y u v : ByteArray) (a : Int) (nv : Value)  (S : ByteArray) (hS : Hid (S.data.toList = [37])) (w : World) :
    Calls Tryd.prog 30 #[.agg #[.int .i64 a, .int .i64 5, .int .i64 n, .bool on, .string t, .string x, .string y, .string u, .string v, nv]] w fun e w' => e = .returned (.string S) ∧ Below w.heap.size w w' := by
  have hE : S = ⟨#[37]⟩ := str_eq (by rw [hS.out])
  subst hE
  have HB : Hid (Below w.heap.size w (w.alloc (.cells #[.int .i64 a, .int .i64 5, .int .i64 n, .bool on, .string t, .string x, .string y, .string u, .string v, nv] 39))) := (Below.refl _ _).alloc (Nat.le_refl _) _
  have HO := Lib.hid (heap_alloc_new w (.cells #[.int .i64 a, .int .i64 5, .int .i64 n, .bool on, .string t, .string x, .string y, .string u, .string v, nv] 39))
  clear hS
  go_enter Tryd.func30, Tryd.ntmps30
  go_upto_region 1 with fail
  generalize w.alloc (.cells #[.int .i64 a, .int .i64 5, .int .i64 n, .bool on, .string t, .string x, .string y, .string u, .string v, nv] 39) = W1 at HB HO ⊢
  obtain ⟨⟨d0, d1, d2, d3, d4, d5, d6, d7, d8, d9⟩, _⟩ := dr_at HO.out
  go_wp2_with fail
  go_ret
  exact ⟨rfl, HB.out⟩

set_option maxRecDepth 100000 in
set_option maxHeartbeats 1600000 in
theorem ln13 (n : Int) (on : Bool) (t x y u v : ByteArray) (a : Int) (nv : Value)  (S : ByteArray) (hS : Hid (S.data.toList = [71, 48, 53])) (w : World) :
    Calls Tryd.prog 30 #[.agg #[.int .i64 a, .int .i64 13, .int .i64 n, .bool on, .string t, .string x, .string y, .string u, .string v, nv]] w fun e w' => e = .returned (.string S) ∧ Below w.heap.size w w' := by
  have hE : S = ⟨#[71, 48, 53]⟩ := str_eq (by rw [hS.out])
  subst hE
  have HB : Hid (Below w.heap.size w (w.alloc (.cells #[.int .i64 a, .int .i64 13, .int .i64 n, .bool on, .string t, .string x, .string y, .string u, .string v, nv] 39))) := (Below.refl _ _).alloc (Nat.le_refl _) _
  have HO := Lib.hid (heap_alloc_new w (.cells #[.int .i64 a, .int .i64 13, .int .i64 n, .bool on, .string t, .string x, .string y, .string u, .string v, nv] 39))
  clear hS
  go_enter Tryd.func30, Tryd.ntmps30
  go_upto_region 1 with fail
  generalize w.alloc (.cells #[.int .i64 a, .int .i64 13, .int .i64 n, .bool on, .string t, .string x, .string y, .string u, .string v, nv] 39) = W1 at HB HO ⊢
  obtain ⟨⟨d0, d1, d2, d3, d4, d5, d6, d7, d8, d9⟩, _⟩ := dr_at HO.out
  go_wp2_with fail
  go_ret
  exact ⟨rfl, HB.out⟩

set_option maxRecDepth 100000 in
set_option maxHeartbeats 1600000 in
theorem ln14 (n : Int) (on : Bool) (t x y u v : ByteArray) (a : Int) (nv : Value)  (S : ByteArray) (hS : Hid (S.data.toList = [71, 57, 48])) (w : World) :
    Calls Tryd.prog 30 #[.agg #[.int .i64 a, .int .i64 14, .int .i64 n, .bool on, .string t, .string x, .string y, .string u, .string v, nv]] w fun e w' => e = .returned (.string S) ∧ Below w.heap.size w w' := by
  have hE : S = ⟨#[71, 57, 48]⟩ := str_eq (by rw [hS.out])
  subst hE
  have HB : Hid (Below w.heap.size w (w.alloc (.cells #[.int .i64 a, .int .i64 14, .int .i64 n, .bool on, .string t, .string x, .string y, .string u, .string v, nv] 39))) := (Below.refl _ _).alloc (Nat.le_refl _) _
  have HO := Lib.hid (heap_alloc_new w (.cells #[.int .i64 a, .int .i64 14, .int .i64 n, .bool on, .string t, .string x, .string y, .string u, .string v, nv] 39))
  clear hS
  go_enter Tryd.func30, Tryd.ntmps30
  go_upto_region 1 with fail
  generalize w.alloc (.cells #[.int .i64 a, .int .i64 14, .int .i64 n, .bool on, .string t, .string x, .string y, .string u, .string v, nv] 39) = W1 at HB HO ⊢
  obtain ⟨⟨d0, d1, d2, d3, d4, d5, d6, d7, d8, d9⟩, _⟩ := dr_at HO.out
  go_wp2_with fail
  go_ret
  exact ⟨rfl, HB.out⟩

set_option maxRecDepth 100000 in
set_option maxHeartbeats 1600000 in
theorem ln15 (n : Int) (on : Bool) (t x y u v : ByteArray) (a : Int) (nv : Value)  (S : ByteArray) (hS : Hid (S.data.toList = [77, 51, 48])) (w : World) :
    Calls Tryd.prog 30 #[.agg #[.int .i64 a, .int .i64 15, .int .i64 n, .bool on, .string t, .string x, .string y, .string u, .string v, nv]] w fun e w' => e = .returned (.string S) ∧ Below w.heap.size w w' := by
  have hE : S = ⟨#[77, 51, 48]⟩ := str_eq (by rw [hS.out])
  subst hE
  have HB : Hid (Below w.heap.size w (w.alloc (.cells #[.int .i64 a, .int .i64 15, .int .i64 n, .bool on, .string t, .string x, .string y, .string u, .string v, nv] 39))) := (Below.refl _ _).alloc (Nat.le_refl _) _
  have HO := Lib.hid (heap_alloc_new w (.cells #[.int .i64 a, .int .i64 15, .int .i64 n, .bool on, .string t, .string x, .string y, .string u, .string v, nv] 39))
  clear hS
  go_enter Tryd.func30, Tryd.ntmps30
  go_upto_region 1 with fail
  generalize w.alloc (.cells #[.int .i64 a, .int .i64 15, .int .i64 n, .bool on, .string t, .string x, .string y, .string u, .string v, nv] 39) = W1 at HB HO ⊢
  obtain ⟨⟨d0, d1, d2, d3, d4, d5, d6, d7, d8, d9⟩, _⟩ := dr_at HO.out
  go_wp2_with fail
  go_ret
  exact ⟨rfl, HB.out⟩

set_option maxRecDepth 100000 in
set_option maxHeartbeats 1600000 in
theorem ln1 (n : Int) (on : Bool) (t x y u v : ByteArray) (a : Int) (nv : Value) (ht : t.size ≤ 1000000000) (S : ByteArray) (hS : Hid (S.data.toList = 59 :: t.data.toList)) (w : World) :
    Calls Tryd.prog 30 #[.agg #[.int .i64 a, .int .i64 1, .int .i64 n, .bool on, .string t, .string x, .string y, .string u, .string v, nv]] w fun e w' => e = .returned (.string S) ∧ Below w.heap.size w w' := by
  have hE : S = (⟨#[59]⟩ : ByteArray) ++ t := str_eq (by rw [hS.out]; simp)
  subst hE
  have s1 : ¬ 9223372036854775807 < 1 + t.size := by omega
  have HB : Hid (Below w.heap.size w (w.alloc (.cells #[.int .i64 a, .int .i64 1, .int .i64 n, .bool on, .string t, .string x, .string y, .string u, .string v, nv] 39))) := (Below.refl _ _).alloc (Nat.le_refl _) _
  have HO := Lib.hid (heap_alloc_new w (.cells #[.int .i64 a, .int .i64 1, .int .i64 n, .bool on, .string t, .string x, .string y, .string u, .string v, nv] 39))
  clear hS
  go_enter Tryd.func30, Tryd.ntmps30
  go_upto_region 1 with fail
  generalize w.alloc (.cells #[.int .i64 a, .int .i64 1, .int .i64 n, .bool on, .string t, .string x, .string y, .string u, .string v, nv] 39) = W1 at HB HO ⊢
  obtain ⟨⟨d0, d1, d2, d3, d4, d5, d6, d7, d8, d9⟩, _⟩ := dr_at HO.out
  go_wp2_with fail
  go_ret
  exact ⟨rfl, HB.out⟩

set_option maxRecDepth 100000 in
set_option maxHeartbeats 1600000 in
theorem ln10t (n : Int) (t x y u v : ByteArray) (a : Int) (nv : Value)  (S : ByteArray) (hS : Hid (S.data.toList = [77, 49, 53])) (w : World) :
    Calls Tryd.prog 30 #[.agg #[.int .i64 a, .int .i64 10, .int .i64 n, .bool true, .string t, .string x, .string y, .string u, .string v, nv]] w fun e w' => e = .returned (.string S) ∧ Below w.heap.size w w' := by
  have hE : S = ⟨#[77, 49, 53]⟩ := str_eq (by rw [hS.out])
  subst hE
  have HB : Hid (Below w.heap.size w (w.alloc (.cells #[.int .i64 a, .int .i64 10, .int .i64 n, .bool true, .string t, .string x, .string y, .string u, .string v, nv] 39))) := (Below.refl _ _).alloc (Nat.le_refl _) _
  have HO := Lib.hid (heap_alloc_new w (.cells #[.int .i64 a, .int .i64 10, .int .i64 n, .bool true, .string t, .string x, .string y, .string u, .string v, nv] 39))
  clear hS
  go_enter Tryd.func30, Tryd.ntmps30
  go_upto_region 1 with fail
  generalize w.alloc (.cells #[.int .i64 a, .int .i64 10, .int .i64 n, .bool true, .string t, .string x, .string y, .string u, .string v, nv] 39) = W1 at HB HO ⊢
  obtain ⟨⟨d0, d1, d2, d3, d4, d5, d6, d7, d8, d9⟩, _⟩ := dr_at HO.out
  go_wp2_with fail
  go_ret
  exact ⟨rfl, HB.out⟩

set_option maxRecDepth 100000 in
set_option maxHeartbeats 1600000 in
theorem ln10f (n : Int) (t x y u v : ByteArray) (a : Int) (nv : Value)  (S : ByteArray) (hS : Hid (S.data.toList = [77, 49, 54])) (w : World) :
    Calls Tryd.prog 30 #[.agg #[.int .i64 a, .int .i64 10, .int .i64 n, .bool false, .string t, .string x, .string y, .string u, .string v, nv]] w fun e w' => e = .returned (.string S) ∧ Below w.heap.size w w' := by
  have hE : S = ⟨#[77, 49, 54]⟩ := str_eq (by rw [hS.out])
  subst hE
  have HB : Hid (Below w.heap.size w (w.alloc (.cells #[.int .i64 a, .int .i64 10, .int .i64 n, .bool false, .string t, .string x, .string y, .string u, .string v, nv] 39))) := (Below.refl _ _).alloc (Nat.le_refl _) _
  have HO := Lib.hid (heap_alloc_new w (.cells #[.int .i64 a, .int .i64 10, .int .i64 n, .bool false, .string t, .string x, .string y, .string u, .string v, nv] 39))
  clear hS
  go_enter Tryd.func30, Tryd.ntmps30
  go_upto_region 1 with fail
  generalize w.alloc (.cells #[.int .i64 a, .int .i64 10, .int .i64 n, .bool false, .string t, .string x, .string y, .string u, .string v, nv] 39) = W1 at HB HO ⊢
  obtain ⟨⟨d0, d1, d2, d3, d4, d5, d6, d7, d8, d9⟩, _⟩ := dr_at HO.out
  go_wp2_with fail
  go_ret
  exact ⟨rfl, HB.out⟩

set_option maxRecDepth 100000 in
set_option maxHeartbeats 1600000 in
theorem ln7 (n : Int) (on : Bool) (t x y u v : ByteArray) (a : Int) (nv : Value) (hx : x.size ≤ 1000000000) (hy : y.size ≤ 1000000000) (S : ByteArray) (hS : Hid (S.data.toList = plc 88 x.data.toList ++ plc 89 y.data.toList)) (w : World) :
    Calls Tryd.prog 30 #[.agg #[.int .i64 a, .int .i64 7, .int .i64 n, .bool on, .string t, .string x, .string y, .string u, .string v, nv]] w fun e w' => e = .returned (.string S) ∧ Below w.heap.size w w' := by
  obtain ⟨X, HX, zx⟩ := plc_some 88 x hx
  obtain ⟨Y, HY, zy⟩ := plc_some 89 y hy
  have hE : S = X ++ Y := str_eq (by rw [hS.out, ← HX.out, ← HY.out]; simp)
  subst hE
  have s1 : ¬ 9223372036854775807 < X.size + Y.size := by omega
  have HB : Hid (Below w.heap.size w (w.alloc (.cells #[.int .i64 a, .int .i64 7, .int .i64 n, .bool on, .string t, .string x, .string y, .string u, .string v, nv] 39))) := (Below.refl _ _).alloc (Nat.le_refl _) _
  have HO := Lib.hid (heap_alloc_new w (.cells #[.int .i64 a, .int .i64 7, .int .i64 n, .bool on, .string t, .string x, .string y, .string u, .string v, nv] 39))
  clear hS
  go_enter Tryd.func30, Tryd.ntmps30
  go_upto_region 1 with fail
  generalize w.alloc (.cells #[.int .i64 a, .int .i64 7, .int .i64 n, .bool on, .string t, .string x, .string y, .string u, .string v, nv] 39) = W1 at HB HO ⊢
  obtain ⟨⟨d0, d1, d2, d3, d4, d5, d6, d7, d8, d9⟩, _⟩ := dr_at HO.out
  go_wp2_with fail
  go_quiet ((first | (go_at_call 49; with_reducible exact Calls.quiet_of_same (place_b 88 x hx X HX _)) | (go_at_call 49; with_reducible exact Calls.quiet_of_same (place_b 89 y hy Y HY _))))
  go_wp2_with fail
  go_ret
  exact ⟨rfl, below_drewN HB.out _⟩

set_option maxRecDepth 100000 in
set_option maxHeartbeats 1600000 in
theorem ln8 (n : Int) (on : Bool) (t x y u v : ByteArray) (a : Int) (nv : Value) (hx : x.size ≤ 1000000000) (hy : y.size ≤ 1000000000) (hu : u.size ≤ 1000000000) (hv : v.size ≤ 1000000000) (S : ByteArray) (hS : Hid (S.data.toList = plc 88 x.data.toList ++ plc 89 y.data.toList ++ [71, 56, 53] ++ plc 88 u.data.toList ++ plc 89 v.data.toList)) (w : World) :
    Calls Tryd.prog 30 #[.agg #[.int .i64 a, .int .i64 8, .int .i64 n, .bool on, .string t, .string x, .string y, .string u, .string v, nv]] w fun e w' => e = .returned (.string S) ∧ Below w.heap.size w w' := by
  obtain ⟨X, HX, zx⟩ := plc_some 88 x hx
  obtain ⟨Y, HY, zy⟩ := plc_some 89 y hy
  obtain ⟨U, HU, zu⟩ := plc_some 88 u hu
  obtain ⟨V, HV, zv⟩ := plc_some 89 v hv
  have hE : S = X ++ Y ++ ⟨#[71, 56, 53]⟩ ++ U ++ V := str_eq (by rw [hS.out, ← HX.out, ← HY.out, ← HU.out, ← HV.out]; simp)
  subst hE
  have s1 : ¬ 9223372036854775807 < X.size + Y.size := by omega
  have s2 : ¬ 9223372036854775807 < X.size + Y.size + 3 := by omega
  have s3 : ¬ 9223372036854775807 < X.size + Y.size + 3 + U.size := by omega
  have s4 : ¬ 9223372036854775807 < X.size + Y.size + 3 + U.size + V.size := by omega
  have HB : Hid (Below w.heap.size w (w.alloc (.cells #[.int .i64 a, .int .i64 8, .int .i64 n, .bool on, .string t, .string x, .string y, .string u, .string v, nv] 39))) := (Below.refl _ _).alloc (Nat.le_refl _) _
  have HO := Lib.hid (heap_alloc_new w (.cells #[.int .i64 a, .int .i64 8, .int .i64 n, .bool on, .string t, .string x, .string y, .string u, .string v, nv] 39))
  clear hS
  go_enter Tryd.func30, Tryd.ntmps30
  go_upto_region 1 with fail
  generalize w.alloc (.cells #[.int .i64 a, .int .i64 8, .int .i64 n, .bool on, .string t, .string x, .string y, .string u, .string v, nv] 39) = W1 at HB HO ⊢
  obtain ⟨⟨d0, d1, d2, d3, d4, d5, d6, d7, d8, d9⟩, _⟩ := dr_at HO.out
  go_wp2_with fail
  go_quiet ((first | (go_at_call 49; with_reducible exact Calls.quiet_of_same (place_b 88 x hx X HX _)) | (go_at_call 49; with_reducible exact Calls.quiet_of_same (place_b 89 y hy Y HY _)) | (go_at_call 49; with_reducible exact Calls.quiet_of_same (place_b 88 u hu U HU _)) | (go_at_call 49; with_reducible exact Calls.quiet_of_same (place_b 89 v hv V HV _))))
  go_wp2_with fail
  go_ret
  exact ⟨rfl, below_drewN HB.out _⟩

set_option maxRecDepth 100000 in
set_option maxHeartbeats 1600000 in
theorem ln9 (n : Int) (on : Bool) (t x y u v : ByteArray) (a : Int) (nv : Value) (hx : x.size ≤ 1000000000) (hy : y.size ≤ 1000000000) (S : ByteArray) (hS : Hid (S.data.toList = [71, 48, 48] ++ plc 88 x.data.toList ++ plc 89 y.data.toList)) (w : World) :
    Calls Tryd.prog 30 #[.agg #[.int .i64 a, .int .i64 9, .int .i64 n, .bool on, .string t, .string x, .string y, .string u, .string v, nv]] w fun e w' => e = .returned (.string S) ∧ Below w.heap.size w w' := by
  obtain ⟨X, HX, zx⟩ := plc_some 88 x hx
  obtain ⟨Y, HY, zy⟩ := plc_some 89 y hy
  have hE : S = (⟨#[71, 48, 48]⟩ : ByteArray) ++ X ++ Y := str_eq (by rw [hS.out, ← HX.out, ← HY.out]; simp)
  subst hE
  have s1 : ¬ 9223372036854775807 < 3 + X.size := by omega
  have s2 : ¬ 9223372036854775807 < 3 + X.size + Y.size := by omega
  have HB : Hid (Below w.heap.size w (w.alloc (.cells #[.int .i64 a, .int .i64 9, .int .i64 n, .bool on, .string t, .string x, .string y, .string u, .string v, nv] 39))) := (Below.refl _ _).alloc (Nat.le_refl _) _
  have HO := Lib.hid (heap_alloc_new w (.cells #[.int .i64 a, .int .i64 9, .int .i64 n, .bool on, .string t, .string x, .string y, .string u, .string v, nv] 39))
  clear hS
  go_enter Tryd.func30, Tryd.ntmps30
  go_upto_region 1 with fail
  generalize w.alloc (.cells #[.int .i64 a, .int .i64 9, .int .i64 n, .bool on, .string t, .string x, .string y, .string u, .string v, nv] 39) = W1 at HB HO ⊢
  obtain ⟨⟨d0, d1, d2, d3, d4, d5, d6, d7, d8, d9⟩, _⟩ := dr_at HO.out
  go_wp2_with fail
  go_quiet ((first | (go_at_call 49; with_reducible exact Calls.quiet_of_same (place_b 88 x hx X HX _)) | (go_at_call 49; with_reducible exact Calls.quiet_of_same (place_b 89 y hy Y HY _))))
  go_wp2_with fail
  go_ret
  exact ⟨rfl, below_drewN HB.out _⟩

set_option maxRecDepth 100000 in
set_option maxHeartbeats 1600000 in
theorem ln11 (n : Int) (on : Bool) (t x y u v : ByteArray) (a : Int) (nv : Value) (hx : x.size ≤ 1000000000) (hy : y.size ≤ 1000000000) (S : ByteArray) (hS : Hid (S.data.toList = [71, 48, 49] ++ plc 88 x.data.toList ++ plc 89 y.data.toList)) (w : World) :
    Calls Tryd.prog 30 #[.agg #[.int .i64 a, .int .i64 11, .int .i64 n, .bool on, .string t, .string x, .string y, .string u, .string v, nv]] w fun e w' => e = .returned (.string S) ∧ Below w.heap.size w w' := by
  obtain ⟨X, HX, zx⟩ := plc_some 88 x hx
  obtain ⟨Y, HY, zy⟩ := plc_some 89 y hy
  have hE : S = (⟨#[71, 48, 49]⟩ : ByteArray) ++ X ++ Y := str_eq (by rw [hS.out, ← HX.out, ← HY.out]; simp)
  subst hE
  have s1 : ¬ 9223372036854775807 < 3 + X.size := by omega
  have s2 : ¬ 9223372036854775807 < 3 + X.size + Y.size := by omega
  have HB : Hid (Below w.heap.size w (w.alloc (.cells #[.int .i64 a, .int .i64 11, .int .i64 n, .bool on, .string t, .string x, .string y, .string u, .string v, nv] 39))) := (Below.refl _ _).alloc (Nat.le_refl _) _
  have HO := Lib.hid (heap_alloc_new w (.cells #[.int .i64 a, .int .i64 11, .int .i64 n, .bool on, .string t, .string x, .string y, .string u, .string v, nv] 39))
  clear hS
  go_enter Tryd.func30, Tryd.ntmps30
  go_upto_region 1 with fail
  generalize w.alloc (.cells #[.int .i64 a, .int .i64 11, .int .i64 n, .bool on, .string t, .string x, .string y, .string u, .string v, nv] 39) = W1 at HB HO ⊢
  obtain ⟨⟨d0, d1, d2, d3, d4, d5, d6, d7, d8, d9⟩, _⟩ := dr_at HO.out
  go_wp2_with fail
  go_quiet ((first | (go_at_call 49; with_reducible exact Calls.quiet_of_same (place_b 88 x hx X HX _)) | (go_at_call 49; with_reducible exact Calls.quiet_of_same (place_b 89 y hy Y HY _))))
  go_wp2_with fail
  go_ret
  exact ⟨rfl, below_drewN HB.out _⟩
end Go.Proofs.YtecpmnkgikcpnaaDoor.XW
