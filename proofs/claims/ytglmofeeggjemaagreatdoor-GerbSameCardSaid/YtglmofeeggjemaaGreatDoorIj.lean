/-
  The walk of the statements' macro lines.
-/
import Derived.Test.YtglmofeeggjemaaGreatDoorIi
import Derived.Deep.RegionWith
set_option linter.unusedVariables false
namespace Go.Proofs.YtglmofeeggjemaaGreatDoor.GW
open Go.RowKit Go.Proofs.YtglmofeeggjemaaGreatDoor.Base Go.Proofs.YtglmofeeggjemaaGreatDoor.Dp Go.Proofs.YtglmofeeggjemaaGreatDoor.DeciW Go.Proofs.YtglmofeeggjemaaGreatDoor.Mem Go.Proofs.YtglmofeeggjemaaGreatDoor.RdW Go.Proofs.YtglmofeeggjemaaGreatDoor.Gp

theorem sel_ex (w : World) (l : List ByteArray) (k : Nat) (hk : k < l.length) (hp : ∀ X ∈ l, X.size ≤ 10 ∧ 1 ≤ X.size ∧ TokS X 10) : ∃ X, (w.alloc (.cells (l.map fun s => Value.string s).toArray 9)).cell? ⟨w.heap.size, k, none⟩ = some (.string X) ∧ X.size ≤ 10 ∧ 1 ≤ X.size ∧ TokS X 10 := by
  refine ⟨l[k], ?_, hp _ (List.getElem_mem hk)⟩
  have h := heap_alloc_new w (.cells (l.map fun s => Value.string s).toArray 9)
  simp only [World.cell?, h]
  simp [hk]
theorem pos_app {S T : ByteArray} (h : 1 ≤ S.size) : 1 ≤ (S ++ T).size := by rw [ByteArray.size_append]; omega
set_option maxRecDepth 100000 in
set_option maxHeartbeats 12800000 in
theorem line13_c (n a b c : Int) (w : World) : Calls Tryz.prog 51 #[.int .i64 n, .int .i64 a, .int .i64 b, .int .i64 c] w fun e w' => (∃ R, e = .returned (.string R) ∧ TokS R 200 ∧ 1 ≤ R.size) ∧ Below w.heap.size w w' := by
  obtain ⟨m1, hm1, hm12⟩ : ∃ m : Nat, bits .and .i64 (n / 256) 255 = (m : Int) ∧ m ≤ 255 := ⟨(n / 256 % 256).toNat, by rw [Bits.and255]; omega, by omega⟩
  obtain ⟨k1, hk1, hk12⟩ : ∃ k : Nat, (m1 : Int) % 6 = (k : Int) ∧ k ≤ 5 := ⟨m1 % 6, by omega, by omega⟩
  obtain ⟨m2, hm2, hm22⟩ : ∃ m : Nat, bits .and .i64 (n / 65536) 255 = (m : Int) ∧ m ≤ 255 := ⟨(n / 65536 % 256).toNat, by rw [Bits.and255]; omega, by omega⟩
  obtain ⟨k2, hk2, hk22⟩ : ∃ k : Nat, (m2 : Int) % 6 = (k : Int) ∧ k ≤ 5 := ⟨m2 % 6, by omega, by omega⟩
  obtain ⟨m3, hm3, hm32⟩ : ∃ m : Nat, bits .and .i64 (n / 16777216) 255 = (m : Int) ∧ m ≤ 255 := ⟨(n / 16777216 % 256).toNat, by rw [Bits.and255]; omega, by omega⟩
  obtain ⟨k3, hk3, hk32⟩ : ∃ k : Nat, (m3 : Int) % 7 = (k : Int) ∧ k ≤ 6 := ⟨m3 % 7, by omega, by omega⟩
  obtain ⟨m, hm, hm20⟩ : ∃ m : Nat, bits .and .i64 n 255 = (m : Int) ∧ m ≤ 255 := ⟨(n % 256).toNat, by rw [Bits.and255]; omega, by omega⟩
  obtain ⟨k, hk, hk20⟩ : ∃ k : Nat, (m : Int) % 12 = (k : Int) ∧ k ≤ 11 := ⟨m % 12, by omega, by omega⟩
  obtain ⟨r, hr, hr0, hr1⟩ : ∃ r, bits .and .i64 a 3 = r ∧ 0 ≤ r ∧ r ≤ 3 := ⟨_, rfl, by rw [Bits.and3]; omega, by rw [Bits.and3]; omega⟩
  clear hm12 hm22 hm32 hm20
  go_enter Tryz.func51, Tryz.ntmps51
  go_upto_region 3 with fail
  go_cut [11] (fun v wx => ∃ X, v = .string X ∧ X.size ≤ 10 ∧ 1 ≤ X.size ∧ Hid (TokS X 10) ∧ Hid (Below w.heap.size w wx))
  case first =>
    have hki : (k1 : Int) < 6 := by omega
    go_wp2_with fail
    refine (d13_c _ _).mono ?_
    rintro e w' ⟨D, rfl, hD, hp, rfl⟩
    have hsel : ∃ X, (w.alloc (.cells #[.string ⟨#[36, 49]⟩, .string ⟨#[36, 50]⟩, .string ⟨#[36, 49, 120, 50]⟩, .string ⟨#[40, 36, 50, 43, 49, 41]⟩, .string ⟨#[36, 49, 47, 52]⟩, .string D] 9)).cell? ⟨w.heap.size, k1, none⟩ = some (.string X) ∧ X.size ≤ 10 ∧ 1 ≤ X.size ∧ TokS X 10 := by
      exact sel_ex w ([⟨#[36, 49]⟩, ⟨#[36, 50]⟩, ⟨#[36, 49, 120, 50]⟩, ⟨#[40, 36, 50, 43, 49, 41]⟩, ⟨#[36, 49, 47, 52]⟩, D] : List ByteArray) k1 (by show k1 < 6; omega) (List.forall_mem_cons.2 ⟨⟨by decide, by decide, lit_tok _ _ (by decide) (by decide)⟩, (List.forall_mem_cons.2 ⟨⟨by decide, by decide, lit_tok _ _ (by decide) (by decide)⟩, (List.forall_mem_cons.2 ⟨⟨by decide, by decide, lit_tok _ _ (by decide) (by decide)⟩, (List.forall_mem_cons.2 ⟨⟨by decide, by decide, lit_tok _ _ (by decide) (by decide)⟩, (List.forall_mem_cons.2 ⟨⟨by decide, by decide, lit_tok _ _ (by decide) (by decide)⟩, (List.forall_mem_cons.2 ⟨⟨hD.2, hp, hD⟩, (by intro X hX; cases hX)⟩)⟩)⟩)⟩)⟩)⟩)
    obtain ⟨X, hx, hx1, hx2, hx3⟩ := hsel
    have HX := Lib.hid (And.intro hx1 (And.intro hx2 hx3))
    clear hx1 hx2 hx3 hD hp
    go_wp2_with fail
    go_meet
    exact ⟨_, rfl, HX.out.1, HX.out.2.1, HX.out.2.2, (Below.refl _ _).alloc (Nat.le_refl _) _⟩
  case rest =>
  obtain ⟨X, rfl, hX, hX1, HX, HB1⟩ := hcut
  clear hk1 hk12 hm1
  go_upto_region 4 with fail
  go_cut [12] (fun v wx => ∃ X, v = .string X ∧ X.size ≤ 10 ∧ 1 ≤ X.size ∧ Hid (TokS X 10) ∧ Hid (Below w.heap.size w wx))
  case first =>
    have hki : (k2 : Int) < 6 := by omega
    have hsel : ∃ X, (wc.alloc (.cells #[.string ⟨#[48]⟩, .string ⟨#[57, 48]⟩, .string ⟨#[49, 56, 48]⟩, .string ⟨#[45, 57, 48]⟩, .string ⟨#[50, 55, 48]⟩, .string ⟨#[52, 53]⟩] 9)).cell? ⟨wc.heap.size, k2, none⟩ = some (.string X) ∧ X.size ≤ 10 ∧ 1 ≤ X.size ∧ TokS X 10 := by
      exact sel_ex wc ([⟨#[48]⟩, ⟨#[57, 48]⟩, ⟨#[49, 56, 48]⟩, ⟨#[45, 57, 48]⟩, ⟨#[50, 55, 48]⟩, ⟨#[52, 53]⟩] : List ByteArray) k2 (by show k2 < 6; omega) (List.forall_mem_cons.2 ⟨⟨by decide, by decide, lit_tok _ _ (by decide) (by decide)⟩, (List.forall_mem_cons.2 ⟨⟨by decide, by decide, lit_tok _ _ (by decide) (by decide)⟩, (List.forall_mem_cons.2 ⟨⟨by decide, by decide, lit_tok _ _ (by decide) (by decide)⟩, (List.forall_mem_cons.2 ⟨⟨by decide, by decide, lit_tok _ _ (by decide) (by decide)⟩, (List.forall_mem_cons.2 ⟨⟨by decide, by decide, lit_tok _ _ (by decide) (by decide)⟩, (List.forall_mem_cons.2 ⟨⟨by decide, by decide, lit_tok _ _ (by decide) (by decide)⟩, (by intro X hX; cases hX)⟩)⟩)⟩)⟩)⟩)⟩)
    obtain ⟨Y, hx, hx1, hx2, hx3⟩ := hsel
    have HY := Lib.hid (And.intro hx1 (And.intro hx2 hx3))
    clear hx1 hx2 hx3
    go_wp2_with fail
    go_meet
    exact ⟨_, rfl, HY.out.1, HY.out.2.1, HY.out.2.2, HB1.out.alloc HB1.out.size _⟩
  case rest =>
  obtain ⟨Q, rfl, hQ, hQ1, HQ, HB2⟩ := hcut
  clear hk2 hk22 hm2
  go_upto_region 5 with fail
  go_cut [13] (fun v wx => ∃ X, v = .string X ∧ X.size ≤ 10 ∧ 1 ≤ X.size ∧ Hid (TokS X 10) ∧ Hid (Below w.heap.size w wx))
  case first =>
    have hki : (k3 : Int) < 7 := by omega
    have hsel : ∃ X, (wc.alloc (.cells #[.string ⟨#[49]⟩, .string ⟨#[49]⟩, .string ⟨#[49]⟩, .string ⟨#[48]⟩, .string ⟨#[49]⟩, .string ⟨#[50]⟩, .string ⟨#[36, 51]⟩] 9)).cell? ⟨wc.heap.size, k3, none⟩ = some (.string X) ∧ X.size ≤ 10 ∧ 1 ≤ X.size ∧ TokS X 10 := by
      exact sel_ex wc ([⟨#[49]⟩, ⟨#[49]⟩, ⟨#[49]⟩, ⟨#[48]⟩, ⟨#[49]⟩, ⟨#[50]⟩, ⟨#[36, 51]⟩] : List ByteArray) k3 (by show k3 < 7; omega) (List.forall_mem_cons.2 ⟨⟨by decide, by decide, lit_tok _ _ (by decide) (by decide)⟩, (List.forall_mem_cons.2 ⟨⟨by decide, by decide, lit_tok _ _ (by decide) (by decide)⟩, (List.forall_mem_cons.2 ⟨⟨by decide, by decide, lit_tok _ _ (by decide) (by decide)⟩, (List.forall_mem_cons.2 ⟨⟨by decide, by decide, lit_tok _ _ (by decide) (by decide)⟩, (List.forall_mem_cons.2 ⟨⟨by decide, by decide, lit_tok _ _ (by decide) (by decide)⟩, (List.forall_mem_cons.2 ⟨⟨by decide, by decide, lit_tok _ _ (by decide) (by decide)⟩, (List.forall_mem_cons.2 ⟨⟨by decide, by decide, lit_tok _ _ (by decide) (by decide)⟩, (by intro X hX; cases hX)⟩)⟩)⟩)⟩)⟩)⟩)⟩)
    obtain ⟨Y, hx, hx1, hx2, hx3⟩ := hsel
    have HY := Lib.hid (And.intro hx1 (And.intro hx2 hx3))
    clear hx1 hx2 hx3
    go_wp2_with fail
    go_meet
    exact ⟨_, rfl, HY.out.1, HY.out.2.1, HY.out.2.2, HB2.out.alloc HB2.out.size _⟩
  case rest =>
  obtain ⟨E, rfl, hE, hE1, HE, HB3⟩ := hcut
  clear hk3 hk32 hm3
  have hk12 : k = 0 ∨ k = 1 ∨ k = 2 ∨ k = 3 ∨ k = 4 ∨ k = 5 ∨ k = 6 ∨ k = 7 ∨ k = 8 ∨ k = 9 ∨ k = 10 ∨ k = 11 := by omega
  clear hk20
  rcases hk12 with rfl | rfl | rfl | rfl | rfl | rfl | rfl | rfl | rfl | rfl | rfl | rfl
  · skip
    have z1 : ¬ 9223372036854775807 < 2 + E.size := by omega
    have z2 : ¬ 9223372036854775807 < 2 + E.size + 1 := by omega
    go_wp2_with fail
    refine (p13_c _ _).mono ?_
    rintro e w' ⟨S1, rfl, hS1, hpS1, rfl⟩
    have hzS1 := hS1.2
    have HS1 := Lib.hid hS1
    clear hS1
    have z3 : ¬ 9223372036854775807 < 2 + E.size + 1 + S1.size := by omega
    have z4 : ¬ 9223372036854775807 < 2 + E.size + 1 + S1.size + 1 := by omega
    go_wp2_with fail
    refine (d13_c _ _).mono ?_
    rintro e w' ⟨S2, rfl, hS2, hpS2, rfl⟩
    have hzS2 := hS2.2
    have HS2 := Lib.hid hS2
    clear hS2
    have z5 : ¬ 9223372036854775807 < 2 + E.size + 1 + S1.size + 1 + S2.size := by omega
    have z6 : ¬ 9223372036854775807 < 2 + E.size + 1 + S1.size + 1 + S2.size + 1 := by omega
    have z7 : ¬ 9223372036854775807 < 2 + E.size + 1 + S1.size + 1 + S2.size + 1 + X.size := by omega
    go_wp2_with fail
    go_ret
    exact ⟨⟨_, rfl, ((((((((lit_tok ⟨#[49, 44]⟩ 2 (by decide) (by decide)).append HE.out).append (lit_tok ⟨#[44]⟩ 1 (by decide) (by decide))).append HS1.out).append (lit_tok ⟨#[44]⟩ 1 (by decide) (by decide))).append HS2.out).append (lit_tok ⟨#[44]⟩ 1 (by decide) (by decide))).append HX.out).mono (by decide), (pos_app (pos_app (pos_app (pos_app (pos_app (pos_app (pos_app (by decide))))))))⟩, HB3.out⟩
  · skip
    have z1 : ¬ 9223372036854775807 < 2 + E.size := by omega
    have z2 : ¬ 9223372036854775807 < 2 + E.size + 1 := by omega
    go_wp2_with fail
    refine (p13_c _ _).mono ?_
    rintro e w' ⟨S1, rfl, hS1, hpS1, rfl⟩
    have hzS1 := hS1.2
    have HS1 := Lib.hid hS1
    clear hS1
    have z3 : ¬ 9223372036854775807 < 2 + E.size + 1 + S1.size := by omega
    have z4 : ¬ 9223372036854775807 < 2 + E.size + 1 + S1.size + 1 := by omega
    go_wp2_with fail
    refine (d13_c _ _).mono ?_
    rintro e w' ⟨S2, rfl, hS2, hpS2, rfl⟩
    have hzS2 := hS2.2
    have HS2 := Lib.hid hS2
    clear hS2
    have z5 : ¬ 9223372036854775807 < 2 + E.size + 1 + S1.size + 1 + S2.size := by omega
    have z6 : ¬ 9223372036854775807 < 2 + E.size + 1 + S1.size + 1 + S2.size + 1 := by omega
    have z7 : ¬ 9223372036854775807 < 2 + E.size + 1 + S1.size + 1 + S2.size + 1 + X.size := by omega
    go_wp2_with fail
    go_ret
    exact ⟨⟨_, rfl, ((((((((lit_tok ⟨#[49, 44]⟩ 2 (by decide) (by decide)).append HE.out).append (lit_tok ⟨#[44]⟩ 1 (by decide) (by decide))).append HS1.out).append (lit_tok ⟨#[44]⟩ 1 (by decide) (by decide))).append HS2.out).append (lit_tok ⟨#[44]⟩ 1 (by decide) (by decide))).append HX.out).mono (by decide), (pos_app (pos_app (pos_app (pos_app (pos_app (pos_app (pos_app (by decide))))))))⟩, HB3.out⟩
  · skip
    have z1 : ¬ 9223372036854775807 < 2 + E.size := by omega
    have z2 : ¬ 9223372036854775807 < 2 + E.size + 1 := by omega
    go_wp2_with fail
    refine (p13_c _ _).mono ?_
    rintro e w' ⟨S1, rfl, hS1, hpS1, rfl⟩
    have hzS1 := hS1.2
    have HS1 := Lib.hid hS1
    clear hS1
    have z3 : ¬ 9223372036854775807 < 2 + E.size + 1 + S1.size := by omega
    have z4 : ¬ 9223372036854775807 < 2 + E.size + 1 + S1.size + 1 := by omega
    go_wp2_with fail
    refine (d13_c _ _).mono ?_
    rintro e w' ⟨S2, rfl, hS2, hpS2, rfl⟩
    have hzS2 := hS2.2
    have HS2 := Lib.hid hS2
    clear hS2
    have z5 : ¬ 9223372036854775807 < 2 + E.size + 1 + S1.size + 1 + S2.size := by omega
    have z6 : ¬ 9223372036854775807 < 2 + E.size + 1 + S1.size + 1 + S2.size + 1 := by omega
    have z7 : ¬ 9223372036854775807 < 2 + E.size + 1 + S1.size + 1 + S2.size + 1 + X.size := by omega
    have z8 : ¬ 9223372036854775807 < 2 + E.size + 1 + S1.size + 1 + S2.size + 1 + X.size + 1 := by omega
    have z9 : ¬ 9223372036854775807 < 2 + E.size + 1 + S1.size + 1 + S2.size + 1 + X.size + 1 + Q.size := by omega
    go_wp2_with fail
    go_ret
    exact ⟨⟨_, rfl, ((((((((((lit_tok ⟨#[49, 44]⟩ 2 (by decide) (by decide)).append HE.out).append (lit_tok ⟨#[44]⟩ 1 (by decide) (by decide))).append HS1.out).append (lit_tok ⟨#[44]⟩ 1 (by decide) (by decide))).append HS2.out).append (lit_tok ⟨#[44]⟩ 1 (by decide) (by decide))).append HX.out).append (lit_tok ⟨#[44]⟩ 1 (by decide) (by decide))).append HQ.out).mono (by decide), (pos_app (pos_app (pos_app (pos_app (pos_app (pos_app (pos_app (pos_app (pos_app (by decide))))))))))⟩, HB3.out⟩
  · skip
    have z1 : ¬ 9223372036854775807 < 3 + E.size := by omega
    have z2 : ¬ 9223372036854775807 < 3 + E.size + 1 := by omega
    go_wp2_with fail
    refine (p13_c _ _).mono ?_
    rintro e w' ⟨S1, rfl, hS1, hpS1, rfl⟩
    have hzS1 := hS1.2
    have HS1 := Lib.hid hS1
    clear hS1
    have z3 : ¬ 9223372036854775807 < 3 + E.size + 1 + S1.size := by omega
    have z4 : ¬ 9223372036854775807 < 3 + E.size + 1 + S1.size + 1 := by omega
    go_wp2_with fail
    refine (d13_c _ _).mono ?_
    rintro e w' ⟨S2, rfl, hS2, hpS2, rfl⟩
    have hzS2 := hS2.2
    have HS2 := Lib.hid hS2
    clear hS2
    have z5 : ¬ 9223372036854775807 < 3 + E.size + 1 + S1.size + 1 + S2.size := by omega
    have z6 : ¬ 9223372036854775807 < 3 + E.size + 1 + S1.size + 1 + S2.size + 1 := by omega
    have z7 : ¬ 9223372036854775807 < 3 + E.size + 1 + S1.size + 1 + S2.size + 1 + X.size := by omega
    have z8 : ¬ 9223372036854775807 < 3 + E.size + 1 + S1.size + 1 + S2.size + 1 + X.size + 1 := by omega
    go_wp2_with fail
    refine (d13_c _ _).mono ?_
    rintro e w' ⟨S3, rfl, hS3, hpS3, rfl⟩
    have hzS3 := hS3.2
    have HS3 := Lib.hid hS3
    clear hS3
    have z9 : ¬ 9223372036854775807 < 3 + E.size + 1 + S1.size + 1 + S2.size + 1 + X.size + 1 + S3.size := by omega
    have z10 : ¬ 9223372036854775807 < 3 + E.size + 1 + S1.size + 1 + S2.size + 1 + X.size + 1 + S3.size + 1 := by omega
    go_wp2_with fail
    refine (d13_c _ _).mono ?_
    rintro e w' ⟨S4, rfl, hS4, hpS4, rfl⟩
    have hzS4 := hS4.2
    have HS4 := Lib.hid hS4
    clear hS4
    have z11 : ¬ 9223372036854775807 < 3 + E.size + 1 + S1.size + 1 + S2.size + 1 + X.size + 1 + S3.size + 1 + S4.size := by omega
    have z12 : ¬ 9223372036854775807 < 3 + E.size + 1 + S1.size + 1 + S2.size + 1 + X.size + 1 + S3.size + 1 + S4.size + 1 := by omega
    have z13 : ¬ 9223372036854775807 < 3 + E.size + 1 + S1.size + 1 + S2.size + 1 + X.size + 1 + S3.size + 1 + S4.size + 1 + Q.size := by omega
    go_wp2_with fail
    go_ret
    exact ⟨⟨_, rfl, ((((((((((((((lit_tok ⟨#[50, 48, 44]⟩ 3 (by decide) (by decide)).append HE.out).append (lit_tok ⟨#[44]⟩ 1 (by decide) (by decide))).append HS1.out).append (lit_tok ⟨#[44]⟩ 1 (by decide) (by decide))).append HS2.out).append (lit_tok ⟨#[44]⟩ 1 (by decide) (by decide))).append HX.out).append (lit_tok ⟨#[44]⟩ 1 (by decide) (by decide))).append HS3.out).append (lit_tok ⟨#[44]⟩ 1 (by decide) (by decide))).append HS4.out).append (lit_tok ⟨#[44]⟩ 1 (by decide) (by decide))).append HQ.out).mono (by decide), (pos_app (pos_app (pos_app (pos_app (pos_app (pos_app (pos_app (pos_app (pos_app (pos_app (pos_app (pos_app (pos_app (by decide))))))))))))))⟩, HB3.out⟩
  · skip
    have z1 : ¬ 9223372036854775807 < 3 + E.size := by omega
    have z2 : ¬ 9223372036854775807 < 3 + E.size + 1 := by omega
    go_wp2_with fail
    refine (p13_c _ _).mono ?_
    rintro e w' ⟨S1, rfl, hS1, hpS1, rfl⟩
    have hzS1 := hS1.2
    have HS1 := Lib.hid hS1
    clear hS1
    have z3 : ¬ 9223372036854775807 < 3 + E.size + 1 + S1.size := by omega
    have z4 : ¬ 9223372036854775807 < 3 + E.size + 1 + S1.size + 1 := by omega
    go_wp2_with fail
    refine (d13_c _ _).mono ?_
    rintro e w' ⟨S2, rfl, hS2, hpS2, rfl⟩
    have hzS2 := hS2.2
    have HS2 := Lib.hid hS2
    clear hS2
    have z5 : ¬ 9223372036854775807 < 3 + E.size + 1 + S1.size + 1 + S2.size := by omega
    have z6 : ¬ 9223372036854775807 < 3 + E.size + 1 + S1.size + 1 + S2.size + 1 := by omega
    have z7 : ¬ 9223372036854775807 < 3 + E.size + 1 + S1.size + 1 + S2.size + 1 + X.size := by omega
    have z8 : ¬ 9223372036854775807 < 3 + E.size + 1 + S1.size + 1 + S2.size + 1 + X.size + 1 := by omega
    go_wp2_with fail
    refine (d13_c _ _).mono ?_
    rintro e w' ⟨S3, rfl, hS3, hpS3, rfl⟩
    have hzS3 := hS3.2
    have HS3 := Lib.hid hS3
    clear hS3
    have z9 : ¬ 9223372036854775807 < 3 + E.size + 1 + S1.size + 1 + S2.size + 1 + X.size + 1 + S3.size := by omega
    have z10 : ¬ 9223372036854775807 < 3 + E.size + 1 + S1.size + 1 + S2.size + 1 + X.size + 1 + S3.size + 1 := by omega
    go_wp2_with fail
    refine (d13_c _ _).mono ?_
    rintro e w' ⟨S4, rfl, hS4, hpS4, rfl⟩
    have hzS4 := hS4.2
    have HS4 := Lib.hid hS4
    clear hS4
    have z11 : ¬ 9223372036854775807 < 3 + E.size + 1 + S1.size + 1 + S2.size + 1 + X.size + 1 + S3.size + 1 + S4.size := by omega
    have z12 : ¬ 9223372036854775807 < 3 + E.size + 1 + S1.size + 1 + S2.size + 1 + X.size + 1 + S3.size + 1 + S4.size + 1 := by omega
    have z13 : ¬ 9223372036854775807 < 3 + E.size + 1 + S1.size + 1 + S2.size + 1 + X.size + 1 + S3.size + 1 + S4.size + 1 + Q.size := by omega
    go_wp2_with fail
    go_ret
    exact ⟨⟨_, rfl, ((((((((((((((lit_tok ⟨#[50, 48, 44]⟩ 3 (by decide) (by decide)).append HE.out).append (lit_tok ⟨#[44]⟩ 1 (by decide) (by decide))).append HS1.out).append (lit_tok ⟨#[44]⟩ 1 (by decide) (by decide))).append HS2.out).append (lit_tok ⟨#[44]⟩ 1 (by decide) (by decide))).append HX.out).append (lit_tok ⟨#[44]⟩ 1 (by decide) (by decide))).append HS3.out).append (lit_tok ⟨#[44]⟩ 1 (by decide) (by decide))).append HS4.out).append (lit_tok ⟨#[44]⟩ 1 (by decide) (by decide))).append HQ.out).mono (by decide), (pos_app (pos_app (pos_app (pos_app (pos_app (pos_app (pos_app (pos_app (pos_app (pos_app (pos_app (pos_app (pos_app (by decide))))))))))))))⟩, HB3.out⟩
  · skip
    have z1 : ¬ 9223372036854775807 < 3 + E.size := by omega
    have z2 : ¬ 9223372036854775807 < 3 + E.size + 1 := by omega
    go_wp2_with fail
    refine (p13_c _ _).mono ?_
    rintro e w' ⟨S1, rfl, hS1, hpS1, rfl⟩
    have hzS1 := hS1.2
    have HS1 := Lib.hid hS1
    clear hS1
    have z3 : ¬ 9223372036854775807 < 3 + E.size + 1 + S1.size := by omega
    have z4 : ¬ 9223372036854775807 < 3 + E.size + 1 + S1.size + 1 := by omega
    go_wp2_with fail
    refine (p13_c _ _).mono ?_
    rintro e w' ⟨S2, rfl, hS2, hpS2, rfl⟩
    have hzS2 := hS2.2
    have HS2 := Lib.hid hS2
    clear hS2
    have z5 : ¬ 9223372036854775807 < 3 + E.size + 1 + S1.size + 1 + S2.size := by omega
    have z6 : ¬ 9223372036854775807 < 3 + E.size + 1 + S1.size + 1 + S2.size + 1 := by omega
    have z7 : ¬ 9223372036854775807 < 3 + E.size + 1 + S1.size + 1 + S2.size + 1 + X.size := by omega
    have z8 : ¬ 9223372036854775807 < 3 + E.size + 1 + S1.size + 1 + S2.size + 1 + X.size + 1 := by omega
    go_wp2_with fail
    refine (d13_c _ _).mono ?_
    rintro e w' ⟨S3, rfl, hS3, hpS3, rfl⟩
    have hzS3 := hS3.2
    have HS3 := Lib.hid hS3
    clear hS3
    have z9 : ¬ 9223372036854775807 < 3 + E.size + 1 + S1.size + 1 + S2.size + 1 + X.size + 1 + S3.size := by omega
    have z10 : ¬ 9223372036854775807 < 3 + E.size + 1 + S1.size + 1 + S2.size + 1 + X.size + 1 + S3.size + 1 := by omega
    have z11 : ¬ 9223372036854775807 < 3 + E.size + 1 + S1.size + 1 + S2.size + 1 + X.size + 1 + S3.size + 1 + Q.size := by omega
    go_wp2_with fail
    go_ret
    exact ⟨⟨_, rfl, ((((((((((((lit_tok ⟨#[50, 49, 44]⟩ 3 (by decide) (by decide)).append HE.out).append (lit_tok ⟨#[44]⟩ 1 (by decide) (by decide))).append HS1.out).append (lit_tok ⟨#[44]⟩ 1 (by decide) (by decide))).append HS2.out).append (lit_tok ⟨#[44]⟩ 1 (by decide) (by decide))).append HX.out).append (lit_tok ⟨#[44]⟩ 1 (by decide) (by decide))).append HS3.out).append (lit_tok ⟨#[44]⟩ 1 (by decide) (by decide))).append HQ.out).mono (by decide), (pos_app (pos_app (pos_app (pos_app (pos_app (pos_app (pos_app (pos_app (pos_app (pos_app (pos_app (by decide))))))))))))⟩, HB3.out⟩
  · skip
    have z1 : ¬ 9223372036854775807 < 3 + E.size := by omega
    have z2 : ¬ 9223372036854775807 < 3 + E.size + 1 := by omega
    go_wp2_with fail
    refine (p13_c _ _).mono ?_
    rintro e w' ⟨S1, rfl, hS1, hpS1, rfl⟩
    have hzS1 := hS1.2
    have HS1 := Lib.hid hS1
    clear hS1
    have z3 : ¬ 9223372036854775807 < 3 + E.size + 1 + S1.size := by omega
    have z4 : ¬ 9223372036854775807 < 3 + E.size + 1 + S1.size + 1 := by omega
    go_wp2_with fail
    refine (p13_c _ _).mono ?_
    rintro e w' ⟨S2, rfl, hS2, hpS2, rfl⟩
    have hzS2 := hS2.2
    have HS2 := Lib.hid hS2
    clear hS2
    have z5 : ¬ 9223372036854775807 < 3 + E.size + 1 + S1.size + 1 + S2.size := by omega
    have z6 : ¬ 9223372036854775807 < 3 + E.size + 1 + S1.size + 1 + S2.size + 1 := by omega
    have z7 : ¬ 9223372036854775807 < 3 + E.size + 1 + S1.size + 1 + S2.size + 1 + X.size := by omega
    have z8 : ¬ 9223372036854775807 < 3 + E.size + 1 + S1.size + 1 + S2.size + 1 + X.size + 1 := by omega
    go_wp2_with fail
    refine (d13_c _ _).mono ?_
    rintro e w' ⟨S3, rfl, hS3, hpS3, rfl⟩
    have hzS3 := hS3.2
    have HS3 := Lib.hid hS3
    clear hS3
    have z9 : ¬ 9223372036854775807 < 3 + E.size + 1 + S1.size + 1 + S2.size + 1 + X.size + 1 + S3.size := by omega
    have z10 : ¬ 9223372036854775807 < 3 + E.size + 1 + S1.size + 1 + S2.size + 1 + X.size + 1 + S3.size + 1 := by omega
    have z11 : ¬ 9223372036854775807 < 3 + E.size + 1 + S1.size + 1 + S2.size + 1 + X.size + 1 + S3.size + 1 + Q.size := by omega
    go_wp2_with fail
    go_ret
    exact ⟨⟨_, rfl, ((((((((((((lit_tok ⟨#[50, 49, 44]⟩ 3 (by decide) (by decide)).append HE.out).append (lit_tok ⟨#[44]⟩ 1 (by decide) (by decide))).append HS1.out).append (lit_tok ⟨#[44]⟩ 1 (by decide) (by decide))).append HS2.out).append (lit_tok ⟨#[44]⟩ 1 (by decide) (by decide))).append HX.out).append (lit_tok ⟨#[44]⟩ 1 (by decide) (by decide))).append HS3.out).append (lit_tok ⟨#[44]⟩ 1 (by decide) (by decide))).append HQ.out).mono (by decide), (pos_app (pos_app (pos_app (pos_app (pos_app (pos_app (pos_app (pos_app (pos_app (pos_app (pos_app (by decide))))))))))))⟩, HB3.out⟩
  · skip
    have z1 : ¬ 9223372036854775807 < 2 + E.size := by omega
    have z2 : ¬ 9223372036854775807 < 2 + E.size + 3 := by omega
    go_wp2_with fail
    refine (d13_c _ _).mono ?_
    rintro e w' ⟨S1, rfl, hS1, hpS1, rfl⟩
    have hzS1 := hS1.2
    have HS1 := Lib.hid hS1
    clear hS1
    have z3 : ¬ 9223372036854775807 < 2 + E.size + 3 + S1.size := by omega
    have z4 : ¬ 9223372036854775807 < 2 + E.size + 3 + S1.size + 1 := by omega
    go_wp2_with fail
    refine (d13_c _ _).mono ?_
    rintro e w' ⟨S2, rfl, hS2, hpS2, rfl⟩
    have hzS2 := hS2.2
    have HS2 := Lib.hid hS2
    clear hS2
    have z5 : ¬ 9223372036854775807 < 2 + E.size + 3 + S1.size + 1 + S2.size := by omega
    have z6 : ¬ 9223372036854775807 < 2 + E.size + 3 + S1.size + 1 + S2.size + 1 := by omega
    have z7 : ¬ 9223372036854775807 < 2 + E.size + 3 + S1.size + 1 + S2.size + 1 + X.size := by omega
    have z8 : ¬ 9223372036854775807 < 2 + E.size + 3 + S1.size + 1 + S2.size + 1 + X.size + 3 := by omega
    go_wp2_with fail
    refine (d13_c _ _).mono ?_
    rintro e w' ⟨S3, rfl, hS3, hpS3, rfl⟩
    have hzS3 := hS3.2
    have HS3 := Lib.hid hS3
    clear hS3
    have z9 : ¬ 9223372036854775807 < 2 + E.size + 3 + S1.size + 1 + S2.size + 1 + X.size + 3 + S3.size := by omega
    have z10 : ¬ 9223372036854775807 < 2 + E.size + 3 + S1.size + 1 + S2.size + 1 + X.size + 3 + S3.size + 1 := by omega
    go_wp2_with fail
    refine (d13_c _ _).mono ?_
    rintro e w' ⟨S4, rfl, hS4, hpS4, rfl⟩
    have hzS4 := hS4.2
    have HS4 := Lib.hid hS4
    clear hS4
    have z11 : ¬ 9223372036854775807 < 2 + E.size + 3 + S1.size + 1 + S2.size + 1 + X.size + 3 + S3.size + 1 + S4.size := by omega
    have z12 : ¬ 9223372036854775807 < 2 + E.size + 3 + S1.size + 1 + S2.size + 1 + X.size + 3 + S3.size + 1 + S4.size + 1 := by omega
    go_wp2_with fail
    refine (d13_c _ _).mono ?_
    rintro e w' ⟨S5, rfl, hS5, hpS5, rfl⟩
    have hzS5 := hS5.2
    have HS5 := Lib.hid hS5
    clear hS5
    have z13 : ¬ 9223372036854775807 < 2 + E.size + 3 + S1.size + 1 + S2.size + 1 + X.size + 3 + S3.size + 1 + S4.size + 1 + S5.size := by omega
    have z14 : ¬ 9223372036854775807 < 2 + E.size + 3 + S1.size + 1 + S2.size + 1 + X.size + 3 + S3.size + 1 + S4.size + 1 + S5.size + 1 := by omega
    go_wp2_with fail
    refine (d13_c _ _).mono ?_
    rintro e w' ⟨S6, rfl, hS6, hpS6, rfl⟩
    have hzS6 := hS6.2
    have HS6 := Lib.hid hS6
    clear hS6
    have z15 : ¬ 9223372036854775807 < 2 + E.size + 3 + S1.size + 1 + S2.size + 1 + X.size + 3 + S3.size + 1 + S4.size + 1 + S5.size + 1 + S6.size := by omega
    have z16 : ¬ 9223372036854775807 < 2 + E.size + 3 + S1.size + 1 + S2.size + 1 + X.size + 3 + S3.size + 1 + S4.size + 1 + S5.size + 1 + S6.size + 1 := by omega
    have z17 : ¬ 9223372036854775807 < 2 + E.size + 3 + S1.size + 1 + S2.size + 1 + X.size + 3 + S3.size + 1 + S4.size + 1 + S5.size + 1 + S6.size + 1 + Q.size := by omega
    go_wp2_with fail
    go_ret
    exact ⟨⟨_, rfl, ((((((((((((((((((lit_tok ⟨#[52, 44]⟩ 2 (by decide) (by decide)).append HE.out).append (lit_tok ⟨#[44, 51, 44]⟩ 3 (by decide) (by decide))).append HS1.out).append (lit_tok ⟨#[44]⟩ 1 (by decide) (by decide))).append HS2.out).append (lit_tok ⟨#[44]⟩ 1 (by decide) (by decide))).append HX.out).append (lit_tok ⟨#[44, 49, 44]⟩ 3 (by decide) (by decide))).append HS3.out).append (lit_tok ⟨#[44]⟩ 1 (by decide) (by decide))).append HS4.out).append (lit_tok ⟨#[44]⟩ 1 (by decide) (by decide))).append HS5.out).append (lit_tok ⟨#[44]⟩ 1 (by decide) (by decide))).append HS6.out).append (lit_tok ⟨#[44]⟩ 1 (by decide) (by decide))).append HQ.out).mono (by decide), (pos_app (pos_app (pos_app (pos_app (pos_app (pos_app (pos_app (pos_app (pos_app (pos_app (pos_app (pos_app (pos_app (pos_app (pos_app (pos_app (pos_app (by decide))))))))))))))))))⟩, HB3.out⟩
  · skip
    go_wp2_with fail
    refine (d13_c _ _).mono ?_
    rintro e w' ⟨S1, rfl, hS1, hpS1, rfl⟩
    have hzS1 := hS1.2
    have HS1 := Lib.hid hS1
    clear hS1
    have z1 : ¬ 9223372036854775807 < 2 + S1.size := by omega
    have z2 : ¬ 9223372036854775807 < 2 + S1.size + 1 := by omega
    go_wp2_with fail
    refine (d13_c _ _).mono ?_
    rintro e w' ⟨S2, rfl, hS2, hpS2, rfl⟩
    have hzS2 := hS2.2
    have HS2 := Lib.hid hS2
    clear hS2
    have z3 : ¬ 9223372036854775807 < 2 + S1.size + 1 + S2.size := by omega
    have z4 : ¬ 9223372036854775807 < 2 + S1.size + 1 + S2.size + 1 := by omega
    go_wp2_with fail
    refine (p13_c _ _).mono ?_
    rintro e w' ⟨S3, rfl, hS3, hpS3, rfl⟩
    have hzS3 := hS3.2
    have HS3 := Lib.hid hS3
    clear hS3
    have z5 : ¬ 9223372036854775807 < 2 + S1.size + 1 + S2.size + 1 + S3.size := by omega
    have z6 : ¬ 9223372036854775807 < 2 + S1.size + 1 + S2.size + 1 + S3.size + 1 := by omega
    go_wp2_with fail
    refine (p13_c _ _).mono ?_
    rintro e w' ⟨S4, rfl, hS4, hpS4, rfl⟩
    have hzS4 := hS4.2
    have HS4 := Lib.hid hS4
    clear hS4
    have z7 : ¬ 9223372036854775807 < 2 + S1.size + 1 + S2.size + 1 + S3.size + 1 + S4.size := by omega
    have z8 : ¬ 9223372036854775807 < 2 + S1.size + 1 + S2.size + 1 + S3.size + 1 + S4.size + 1 := by omega
    go_wp2_with fail
    refine (p13_c _ _).mono ?_
    rintro e w' ⟨S5, rfl, hS5, hpS5, rfl⟩
    have hzS5 := hS5.2
    have HS5 := Lib.hid hS5
    clear hS5
    have z9 : ¬ 9223372036854775807 < 2 + S1.size + 1 + S2.size + 1 + S3.size + 1 + S4.size + 1 + S5.size := by omega
    have z10 : ¬ 9223372036854775807 < 2 + S1.size + 1 + S2.size + 1 + S3.size + 1 + S4.size + 1 + S5.size + 1 := by omega
    have z11 : ¬ 9223372036854775807 < 2 + S1.size + 1 + S2.size + 1 + S3.size + 1 + S4.size + 1 + S5.size + 1 + Q.size := by omega
    go_wp2_with fail
    go_ret
    exact ⟨⟨_, rfl, ((((((((((((lit_tok ⟨#[55, 44]⟩ 2 (by decide) (by decide)).append HS1.out).append (lit_tok ⟨#[44]⟩ 1 (by decide) (by decide))).append HS2.out).append (lit_tok ⟨#[44]⟩ 1 (by decide) (by decide))).append HS3.out).append (lit_tok ⟨#[44]⟩ 1 (by decide) (by decide))).append HS4.out).append (lit_tok ⟨#[44]⟩ 1 (by decide) (by decide))).append HS5.out).append (lit_tok ⟨#[44]⟩ 1 (by decide) (by decide))).append HQ.out).mono (by decide), (pos_app (pos_app (pos_app (pos_app (pos_app (pos_app (pos_app (pos_app (pos_app (pos_app (pos_app (by decide))))))))))))⟩, HB3.out⟩
  · skip
    have z1 : ¬ 9223372036854775807 < 2 + X.size := by omega
    go_wp2_with fail
    go_ret
    exact ⟨⟨_, rfl, ((lit_tok ⟨#[48, 32]⟩ 2 (by decide) (by decide)).append HX.out).mono (by decide), (pos_app (by decide))⟩, HB3.out⟩
  · skip
    go_wp2_with fail
    refine (num_p _ (by omega) (by omega) _).mono ?_
    rintro e w' ⟨S1, rfl, hS1, hpS1, rfl⟩
    have hzS1 := hS1.2
    have HS1 := Lib.hid hS1
    clear hS1
    have z1 : ¬ 9223372036854775807 < 1 + S1.size := by omega
    have z2 : ¬ 9223372036854775807 < 1 + S1.size + 1 := by omega
    have z3 : ¬ 9223372036854775807 < 1 + S1.size + 1 + X.size := by omega
    go_wp2_with fail
    go_ret
    exact ⟨⟨_, rfl, ((((lit_tok ⟨#[36]⟩ 1 (by decide) (by decide)).append HS1.out).append (lit_tok ⟨#[61]⟩ 1 (by decide) (by decide))).append HX.out).mono (by decide), (pos_app (pos_app (pos_app (by decide))))⟩, HB3.out⟩
  · skip
    have z1 : ¬ 9223372036854775807 < X.size + 1 := by omega
    have z2 : ¬ 9223372036854775807 < X.size + 1 + E.size := by omega
    go_wp2_with fail
    go_ret
    exact ⟨⟨_, rfl, ((HX.out.append (lit_tok ⟨#[44]⟩ 1 (by decide) (by decide))).append HE.out).mono (by decide), (pos_app (pos_app hX1))⟩, HB3.out⟩
end Go.Proofs.YtglmofeeggjemaaGreatDoor.GW
