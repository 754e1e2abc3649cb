/-
  The walk of the statements' Line, case 9.
-/
import Derived.Test.YtglmofeeggjemaaGreatDoorIl
import Derived.Test.YtglmofeeggjemaaGreatDoorIk
import Derived.Deep.RegionWith
set_option linter.unusedVariables false
namespace Go.Proofs.YtglmofeeggjemaaGreatDoor.GW
open Go.RowKit Go.Proofs.YtglmofeeggjemaaGreatDoor.Base Go.Proofs.YtglmofeeggjemaaGreatDoor.Dp Go.Proofs.YtglmofeeggjemaaGreatDoor.DeciW Go.Proofs.YtglmofeeggjemaaGreatDoor.Mem Go.Proofs.YtglmofeeggjemaaGreatDoor.RdW Go.Proofs.YtglmofeeggjemaaGreatDoor.Gp

theorem at_v (x : Int) (h0 : 0 ≤ x) (h1 : x ≤ 1000) (w : World) (p : Option Addr) (l : List Int) (c : Nat) (hz : Zs w p l) :
    ∃ v : Int, ∀ W, LnAt w p l c W → Calls Tryz.prog 26 #[.int .i64 x, .pointer (some ⟨w.heap.size, 0, none⟩)] W fun e w' => e = .returned (.int .i64 v) ∧ W = w' := by
  obtain ⟨k, rfl⟩ : ∃ k : Nat, x = (k : Int) := ⟨x.toNat, by omega⟩
  by_cases hlt : k < l.length
  · obtain ⟨v, hv⟩ : ∃ v, l[k] = v := ⟨_, rfl⟩
    refine ⟨v, fun W hW => ?_⟩
    have c0 := hW.ce
    obtain ⟨b2, o, rfl, _, hcc⟩ := hW.zs (by omega)
    have x0 := hcc k hlt
    have hlti : (k : Int) < (l.length : Int) := by omega
    rw [hv] at x0
    have hk : k ≤ 1000 := by omega
    clear hcc hv hW hz
    go_enter Tryz.func26, Tryz.ntmps26
    go_wp2_with fail
    go_ret
    exact ⟨rfl, rfl⟩
  · have hlti : ¬ (k : Int) < (l.length : Int) := by omega
    refine ⟨0, fun W hW => ?_⟩
    have c0 := hW.ce
    have hk : k ≤ 1000 := by omega
    clear hW hz
    go_enter Tryz.func26, Tryz.ntmps26
    go_wp2_with fail
    go_ret
    first | exact ⟨rfl, rfl⟩ | exact trivial
theorem ok9 {X P R : ByteArray} (hX : TokS X 10) (h : TokS P 40) (h2 : R.data.toList = P.data.toList ++ [42, 10]) : LineOk ((⟨#[71, 48]⟩ : ByteArray) ++ X ++ R) :=
  ok_word (P := (⟨#[71, 48]⟩ : ByteArray) ++ X ++ P) (((lit_tok ⟨#[71, 48]⟩ 2 (by decide) (by decide)).append hX).append h) (pos_ap (pos_ap (by decide))) (by decide) (by rw [app_list, h2, app_list _ P, List.append_assoc])
theorem fin9a {w W5 w6 : World} {o : Obj} (h : Below w.heap.size w W5) (g : Below (W5.alloc o).drew.heap.size (W5.alloc o).drew w6) : Below w.heap.size w w6 :=
  have h2 : Below w.heap.size w (W5.alloc o).drew := (h.alloc h.size _).drew
  h2.trans (g.mono h2.size)
theorem fin9b {w W5 w6 : World} (h : Below w.heap.size w W5) (g : Below W5.drew.heap.size W5.drew w6) : Below w.heap.size w w6 :=
  have h2 : Below w.heap.size w W5.drew := h.drew
  h2.trans (g.mono h2.size)
theorem op_len {P R : ByteArray} (h : TokS P 40) (h2 : R.data.toList = P.data.toList ++ [42, 10]) : R.size ≤ 42 := by
  have h3 := h.2
  rw [← len_list, h2, List.length_append, len_list]
  show P.size + 2 ≤ _
  omega
theorem sel_all (l : List ByteArray) (k : Nat) (Q : ByteArray → Prop) (hk : k < l.length) (hp : ∀ X ∈ l, Q X) : ∃ X, (∀ w : World, (w.alloc (.cells (l.map fun s => Value.string s).toArray 9)).cell? ⟨w.heap.size, k, none⟩ = some (.string X)) ∧ Q X := by
  refine ⟨l[k], fun w => ?_, hp _ (List.getElem_mem hk)⟩
  have h := heap_alloc_new w (.cells (l.map fun s => Value.string s).toArray 9)
  simp only [World.cell?, h]
  simp [hk]
set_option maxRecDepth 100000 in
set_option maxHeartbeats 25600000 in
theorem line15_9 (n : Int) (m : Nat) (hm : bits .and .i64 n 255 = (m : Int)) (hm20 : m ≤ 255) (k : Nat) (hk : (m : Int) % 30 = (k : Int)) (hk9 : k = 9) (p : Option Addr) (l : List Int) (c : Nat) (hl : l.length ≤ 100) (hc : l.length ≤ c) (hcm : c ≤ 9223372036854775807) (w : World) (hz : Hid (Zs w p l)) (hp : Hid (∃ b o, p = some ⟨b, o, none⟩)) :
    Calls Tryz.prog 13 #[.int .i64 n, .slice p l.length c] w fun e w' => (∃ R, e = .returned (.string R) ∧ LineOk R) ∧ Below w.heap.size w w' := by
  have HL : Hid (LnAt w p l c (w.alloc (.cells #[.slice p l.length c] 22))) := ln_new w hz.out
  go_enter Tryz.func13, Tryz.ntmps13
  go_upto_region 1 with fail
  generalize w.alloc (.cells #[.slice p l.length c] 22) = W at HL ⊢
  go_wp2_with fail
  refine (at_x 0 (by decide) (by decide) HL).mono ?_
  rintro e w' ⟨v, rfl, rfl⟩
  obtain ⟨r, hr, hr0, hr1⟩ : ∃ r, bits .and .i64 v 7 = r ∧ 0 ≤ r ∧ r ≤ 7 := ⟨_, rfl, by rw [Bits.and7]; omega, by rw [Bits.and7]; omega⟩
  go_wp2_with fail
  refine (num_p _ (by omega) (by omega) _).mono ?_
  rintro e w' ⟨C, rfl, hC, hC1, rfl⟩
  have hC5 := hC.2
  have HC := Lib.hid hC
  clear hC hr hr0 hr1
  have HL2 : Hid (LnAt w p l c (W.alloc (.cells #[.string ⟨#[67]⟩, .string ⟨#[82]⟩, .string ⟨#[79]⟩, .string ⟨#[77, 49]⟩, .string ⟨#[77, 50]⟩] 9))) := HL.out.below ((Below.refl _ _).alloc (Nat.le_refl _) _)
  go_wp2_with fail
  refine (at_x 1 (by decide) (by decide) HL2).mono ?_
  rintro e w' ⟨v1, rfl, rfl⟩
  obtain ⟨m1, hm1, hm12⟩ : ∃ m : Nat, bits .and .i64 v1 255 = (m : Int) ∧ m ≤ 255 := ⟨(v1 % 256).toNat, by rw [Bits.and255]; omega, by omega⟩
  obtain ⟨k1, hk1, hk12⟩ : ∃ k : Nat, (m1 : Int) % 5 = (k : Int) ∧ k ≤ 4 := ⟨m1 % 5, by omega, by omega⟩
  have hki : (k1 : Int) < 5 := by omega
  obtain ⟨Nm, hsel, hN1, hN2, hN3⟩ : ∃ X, (W.alloc (.cells #[.string ⟨#[67]⟩, .string ⟨#[82]⟩, .string ⟨#[79]⟩, .string ⟨#[77, 49]⟩, .string ⟨#[77, 50]⟩] 9)).cell? ⟨W.heap.size, k1, none⟩ = some (.string X) ∧ X.size ≤ 10 ∧ 1 ≤ X.size ∧ TokS X 10 := sel_gen W ([⟨#[67]⟩, ⟨#[82]⟩, ⟨#[79]⟩, ⟨#[77, 49]⟩, ⟨#[77, 50]⟩] : List ByteArray) k1 (fun X => X.size ≤ 10 ∧ 1 ≤ X.size ∧ TokS X 10) (by show k1 < 5; omega) (List.forall_mem_cons.2 ⟨⟨by decide, by decide, lit_tok _ _ (by decide) (by decide)⟩, (List.forall_mem_cons.2 ⟨⟨by decide, by decide, lit_tok _ _ (by decide) (by decide)⟩, (List.forall_mem_cons.2 ⟨⟨by decide, by decide, lit_tok _ _ (by decide) (by decide)⟩, (List.forall_mem_cons.2 ⟨⟨by decide, by decide, lit_tok _ _ (by decide) (by decide)⟩, (List.forall_mem_cons.2 ⟨⟨by decide, by decide, lit_tok _ _ (by decide) (by decide)⟩, (by intro X hX; cases hX)⟩)⟩)⟩)⟩)⟩)
  have HNM := Lib.hid hN3
  clear hN3 hm12
  go_upto_region 5 with fail
  clear hsel hki hk1 hk12 hm1
  generalize W.alloc (.cells #[.string ⟨#[67]⟩, .string ⟨#[82]⟩, .string ⟨#[79]⟩, .string ⟨#[77, 49]⟩, .string ⟨#[77, 50]⟩] 9) = W5 at HL2 ⊢
  clear HL
  have HL := HL2
  clear HL2
  subst hk9
  have hzo := hz.out
  obtain ⟨v0, hv0⟩ := at_v 0 (by decide) (by decide) w p l c hzo
  obtain ⟨v2, hv2⟩ := at_v 1 (by decide) (by decide) w p l c hzo
  obtain ⟨v3, hv3⟩ := at_v 2 (by decide) (by decide) w p l c hzo
  obtain ⟨v4, hv4⟩ := at_v 3 (by decide) (by decide) w p l c hzo
  clear hzo
  obtain ⟨m1, hm1, hm12⟩ : ∃ m : Nat, bits .and .i64 v0 255 = (m : Int) ∧ m ≤ 255 := ⟨(v0 % 256).toNat, by rw [Bits.and255]; omega, by omega⟩
  obtain ⟨k1, hk1, hk12⟩ : ∃ k : Nat, (m1 : Int) % 3 = (k : Int) ∧ k ≤ 2 := ⟨m1 % 3, by omega, by omega⟩
  obtain ⟨X, hsel, hX1, hX2, hX3⟩ : ∃ X, (∀ w : World, (w.alloc (.cells #[.string ⟨#[49]⟩, .string ⟨#[50]⟩, .string ⟨#[51]⟩] 9)).cell? ⟨w.heap.size, k1, none⟩ = some (.string X)) ∧ X.size ≤ 10 ∧ 1 ≤ X.size ∧ TokS X 10 := sel_all ([⟨#[49]⟩, ⟨#[50]⟩, ⟨#[51]⟩] : List ByteArray) k1 (fun X => X.size ≤ 10 ∧ 1 ≤ X.size ∧ TokS X 10) (by show k1 < 3; omega) (List.forall_mem_cons.2 ⟨⟨by decide, by decide, lit_tok _ _ (by decide) (by decide)⟩, (List.forall_mem_cons.2 ⟨⟨by decide, by decide, lit_tok _ _ (by decide) (by decide)⟩, (List.forall_mem_cons.2 ⟨⟨by decide, by decide, lit_tok _ _ (by decide) (by decide)⟩, (by intro X hX; cases hX)⟩)⟩)⟩)
  have HX := Lib.hid hX3
  clear hX3 hX2
  have hki : (k1 : Int) < 3 := by omega
  have z1 : ¬ 9223372036854775807 < 2 + X.size := by omega
  have hmt : Int.tmod (m1 : Int) 3 = (k1 : Int) := by rw [Int.tmod_eq_emod_of_nonneg (by omega)]; exact hk1
  have HL9 := Lib.hid HL.out.be
  go_upto_region 18 with fail
  clear hk hm hk1 hm20 hm12 hl hc hcm hz hp
  go_region_with (first | (go_at_call_of 26 (Value.int .i64 0); refine (hv0 _ ?_).mono ?_; (first | exact HL.out | exact HL.out.below (Below.refl _ _).drew | exact HL.out.below ((Below.refl _ _).alloc (Nat.le_refl _) _) | exact HL.out.below ((Below.refl _ _).alloc (Nat.le_refl _) _).drew | exact HL.out.below ((Below.refl _ _).drew.alloc (Nat.le_refl _) _)); rintro e w' ⟨rfl, rfl⟩) | (go_at_call_of 26 (Value.int .i64 1); refine (hv2 _ ?_).mono ?_; (first | exact HL.out | exact HL.out.below (Below.refl _ _).drew | exact HL.out.below ((Below.refl _ _).alloc (Nat.le_refl _) _) | exact HL.out.below ((Below.refl _ _).alloc (Nat.le_refl _) _).drew | exact HL.out.below ((Below.refl _ _).drew.alloc (Nat.le_refl _) _)); rintro e w' ⟨rfl, rfl⟩) | (go_at_call_of 26 (Value.int .i64 2); refine (hv3 _ ?_).mono ?_; (first | exact HL.out | exact HL.out.below (Below.refl _ _).drew | exact HL.out.below ((Below.refl _ _).alloc (Nat.le_refl _) _) | exact HL.out.below ((Below.refl _ _).alloc (Nat.le_refl _) _).drew | exact HL.out.below ((Below.refl _ _).drew.alloc (Nat.le_refl _) _)); rintro e w' ⟨rfl, rfl⟩) | (go_at_call_of 26 (Value.int .i64 3); refine (hv4 _ ?_).mono ?_; (first | exact HL.out | exact HL.out.below (Below.refl _ _).drew | exact HL.out.below ((Below.refl _ _).alloc (Nat.le_refl _) _) | exact HL.out.below ((Below.refl _ _).alloc (Nat.le_refl _) _).drew | exact HL.out.below ((Below.refl _ _).drew.alloc (Nat.le_refl _) _)); rintro e w' ⟨rfl, rfl⟩) | (go_at_call 30; refine (op_c _ _ _ _ _ _).mono ?_; rintro e w6 ⟨⟨P, R, rfl, h1, h2, h3⟩, h4⟩; have hR : R.size ≤ 42 := (op_len h1 h3); have z2 : ¬ 9223372036854775807 < 2 + X.size + R.size := (by omega); (first | (have hc6 : w6.cell? ⟨W5.heap.size, k1, none⟩ = some (.string X) := ((h4.cell (p := ⟨W5.heap.size, k1, none⟩) (by simp)).trans (hsel W5))) | skip); have HH := Lib.hid (And.intro h1 (And.intro h2 (And.intro h3 h4))); clear h1 h2 h3 h4))
  all_goals
    go_wp2_with fail
    go_ret
    first
      | exact ⟨⟨_, rfl, ok9 HX.out HH.out.1 HH.out.2.2.1⟩, fin9a HL9.out HH.out.2.2.2⟩
      | exact ⟨⟨_, rfl, ok9 HX.out HH.out.1 HH.out.2.2.1⟩, fin9b HL9.out HH.out.2.2.2⟩
      | exact ⟨⟨_, rfl, ok9 HX.out HH.out.1 HH.out.2.2.1⟩, (fin9b HL9.out HH.out.2.2.2).alloc (fin9b HL9.out HH.out.2.2.2).size _⟩
end Go.Proofs.YtglmofeeggjemaaGreatDoor.GW
