/-
  The walk of awake of the statements of the commands.
-/
import Derived.Test.YtglmofeeggjemaaGreatDoorIp
import Derived.Test.YtglmofeeggjemaaGreatDoorIg
set_option linter.unusedVariables false
namespace Go.Proofs.YtglmofeeggjemaaGreatDoor.GW
open Go.RowKit Go.Proofs.YtglmofeeggjemaaGreatDoor.Base Go.Proofs.YtglmofeeggjemaaGreatDoor.Dp Go.Proofs.YtglmofeeggjemaaGreatDoor.DeciW Go.Proofs.YtglmofeeggjemaaGreatDoor.Mem Go.Proofs.YtglmofeeggjemaaGreatDoor.RdW Go.Proofs.YtglmofeeggjemaaGreatDoor.Gp

theorem cmds_cells {B : Nat} {w : World} {v : Value} {l : List (Nat × C)} (h : CmdsAt B w v l) (hl : 0 < l.length) : ∃ g c, v = .slice (some ⟨g, 0, none⟩) l.length c ∧ B ≤ g ∧ g < w.heap.size ∧ ReadC B w (some ⟨g, 0, none⟩) l ∧ ∀ (i : Nat) (hi : i < l.length), ∃ q r k m, (∀ j u, j < 12 → (cmCells l[i].2 (l[i].1 : Int) (.slice q l[i].2.nums.length k) (.slice r l[i].2.blocks.length m))[j]? = some u → w.cell? ⟨g, i * 12 + j, none⟩ = some u) ∧ NumsIn B w q l[i].2.nums ∧ BlksIn B w r l[i].2.blocks := by
  obtain ⟨p, c0, e0, hr⟩ := cmds_read h
  obtain ⟨xs, hx, hrow⟩ := h
  rcases hx.2 with ⟨h1, h2⟩ | ⟨g, c, cur, h1, h2, h3, h4, h5, h6, h7⟩
  · omega
  · have e1 := h1
    rw [e0] at e1
    injection e1 with e1 _ _
    subst e1
    refine ⟨g, c, h1, h2, (Array.getElem?_eq_some_iff.1 h3).1, hr, fun i hi => ?_⟩
    obtain ⟨p, q, k, m, g1, g2, g3⟩ := hrow.get i hi
    refine ⟨p, q, k, m, fun j u hj hu => ?_, g2, g3⟩
    rw [← g1 j hj] at hu
    rw [← h7, List.getElem?_take_of_lt (by omega), Array.getElem?_toList] at hu
    simp only [World.cell?, h3]
    exact hu

def aw1 : List UInt8 := [37, 70, 83, 76, 65, 88, 50, 52, 89, 50, 52, 42, 37, 37, 77, 79, 77, 77, 42, 37, 37, 65, 68, 68, 49, 48, 67, 44, 48, 46, 53, 88, 46, 49, 42, 37, 68, 49, 48, 42, 71, 48, 49, 88, 49, 89, 45, 50, 68, 48, 49, 42, 77, 48, 50, 42]
def al1 : List (Nat × C) := [(1, { kc 8 with n := 2, m := 4 }), (14, { kc 9 with n := 1 }), (21, { kc 10 with n := 10, t := [67], nums := [500000, 100000] }), (36, { kc 6 with n := 10 }), (40, { kc 2 with n := 1 }), (40, { kc 7 with n := 1, x := [49], y := [45, 50] }), (52, kc 5)]
theorem aw1_v : parseG aw1 = (al1, 0, 0) := by decide +kernel
theorem aw2_v : parseG [68, 57, 42] = ([], 0, 3) := by decide +kernel
theorem aw3_v : parseG [68, 49, 48, 42, 37, 76, 83, 88, 42, 37] = ([], 5, 8) := by decide +kernel

set_option maxRecDepth 100000 in
set_option maxHeartbeats 6400000 in
theorem gawake_c (w : World) : Calls Tryz.prog 9 #[] w fun e w' => e = .returned (.bool true) ∧ Below w.heap.size w w' := by
  go_enter Tryz.func9, Tryz.ntmps9
  go_wp2_with fail
  refine (gparse_c ⟨#[37, 70, 83, 76, 65, 88, 50, 52, 89, 50, 52, 42, 37, 37, 77, 79, 77, 77, 42, 37, 37, 65, 68, 68, 49, 48, 67, 44, 48, 46, 53, 88, 46, 49, 42, 37, 68, 49, 48, 42, 71, 48, 49, 88, 49, 89, 45, 50, 68, 48, 49, 42, 77, 48, 50, 42]⟩ (by decide) w al1 0 0 (Lib.hid aw1_v)).mono ?_
  rintro en w1 ⟨hb1, v, rfl, ho1⟩
  have HB1 := Lib.hid hb1
  have HO1 := Lib.hid ho1
  clear hb1 ho1
  go_wp2_with fail
  refine (gparse_c ⟨#[68, 57, 42]⟩ (by decide) w1 [] 0 3 (Lib.hid aw2_v)).mono ?_
  rintro en w2 ⟨hb2, v2, rfl, _⟩
  have HB2 := Lib.hid (HB1.out.trans (hb2.mono HB1.out.size))
  have HO2 := Lib.hid (HO1.out.below hb2)
  clear hb2 HB1 HO1
  go_wp2_with fail
  refine (gparse_c ⟨#[68, 49, 48, 42, 37, 76, 83, 88, 42, 37]⟩ (by decide) w2 [] 5 8 (Lib.hid aw3_v)).mono ?_
  rintro en w3 ⟨hb3, v3, rfl, _⟩
  have HB3 := Lib.hid (HB2.out.trans (hb3.mono HB2.out.size))
  have HO3 := Lib.hid (HO2.out.below hb3)
  clear hb3 HB2 HO2
  obtain ⟨g, cap, rfl, _, _, hr, hc⟩ := cmds_cells HO3.out (by decide)
  have HR := Lib.hid hr
  have g1 : w3.cell? ⟨g, 1, none⟩ = some (.int .i64 8) := by obtain ⟨q, r, k, m, h, _⟩ := hc 0 (by decide); exact h 1 _ (by decide) rfl
  have g2 : w3.cell? ⟨g, 2, none⟩ = some (.int .i64 2) := by obtain ⟨q, r, k, m, h, _⟩ := hc 0 (by decide); exact h 2 _ (by decide) rfl
  have g3 : w3.cell? ⟨g, 3, none⟩ = some (.int .i64 4) := by obtain ⟨q, r, k, m, h, _⟩ := hc 0 (by decide); exact h 3 _ (by decide) rfl
  have g25 : w3.cell? ⟨g, 25, none⟩ = some (.int .i64 10) := by obtain ⟨q, r, k, m, h, _⟩ := hc 2 (by decide); exact h 1 _ (by decide) rfl
  have g26 : w3.cell? ⟨g, 26, none⟩ = some (.int .i64 10) := by obtain ⟨q, r, k, m, h, _⟩ := hc 2 (by decide); exact h 2 _ (by decide) rfl
  have g29 : w3.cell? ⟨g, 29, none⟩ = some (.string ⟨#[67]⟩) := by obtain ⟨q, r, k, m, h, _⟩ := hc 2 (by decide); exact h 5 _ (by decide) rfl
  obtain ⟨b, o, k, g34, gn⟩ : ∃ b o k, w3.cell? ⟨g, 34, none⟩ = some (.slice (some ⟨b, o, none⟩) 2 k) ∧ w3.cell? ⟨b, o + 1, none⟩ = some (.int .i64 100000) := by
    obtain ⟨q, r, k, m, h, hn, _⟩ := hc 2 (by decide)
    obtain ⟨b, o, cs, rfl, _, hh, hx⟩ := hn (by decide)
    refine ⟨b, o, k, h 10 _ (by decide) rfl, ?_⟩
    simp only [World.cell?, hh]
    exact hx 1 (by decide)
  have g49 : w3.cell? ⟨g, 49, none⟩ = some (.int .i64 2) := by obtain ⟨q, r, k, m, h, _⟩ := hc 4 (by decide); exact h 1 _ (by decide) rfl
  have g61 : w3.cell? ⟨g, 61, none⟩ = some (.int .i64 7) := by obtain ⟨q, r, k, m, h, _⟩ := hc 5 (by decide); exact h 1 _ (by decide) rfl
  have g66 : w3.cell? ⟨g, 66, none⟩ = some (.string ⟨#[49]⟩) := by obtain ⟨q, r, k, m, h, _⟩ := hc 5 (by decide); exact h 6 _ (by decide) rfl
  have g67 : w3.cell? ⟨g, 67, none⟩ = some (.string ⟨#[45, 50]⟩) := by obtain ⟨q, r, k, m, h, _⟩ := hc 5 (by decide); exact h 7 _ (by decide) rfl
  clear hc hr HO3
  have hlen : al1.length = 7 := rfl
  rw [hlen]
  clear hlen
  go_wp2_with fail
  refine (gSame_c w.heap.size w.heap.size (some ⟨g, 0, none⟩) (some ⟨g, 0, none⟩) al1 al1 cap cap (by decide) (Lib.hid (parseG_fin aw1_v).2) w3 HR HR true (Lib.hid (decide_eq_true rfl))).mono ?_
  rintro en w4 ⟨rfl, hb4⟩
  have HB4 := Lib.hid (HB3.out.trans (hb4.mono HB3.out.size))
  clear hb4
  go_wp2_with fail
  go_ret
  exact ⟨rfl, HB4.out⟩
end Go.Proofs.YtglmofeeggjemaaGreatDoor.GW
