/-
  Proved: for every two slices of integers, two generated files behind each other are the commands of both, and a byte that can't stand is told where it is (heliographlaw15.GerbParts returns true). Conditions: the row's own.
-/
import Derived.Test.YtglmofeeggjemaaGreatDoorIn
import Derived.Test.YtglmofeeggjemaaGreatDoorIr
import Derived.ProofKit
set_option linter.unusedVariables false
namespace Go.Proofs.YtglmofeeggjemaaGreatDoor.GerbParts
open Go.ChangeShapes Go.WideShapes Go.ChangeAt Go.WideMaps Go.WideElems Go.RowKit
open Go.Proofs.YtglmofeeggjemaaGreatDoor.Dp Go.Proofs.YtglmofeeggjemaaGreatDoor.Base Go.Proofs.YtglmofeeggjemaaGreatDoor.DeciW Go.Proofs.YtglmofeeggjemaaGreatDoor.Mem Go.Proofs.YtglmofeeggjemaaGreatDoor.RdW Go.Proofs.YtglmofeeggjemaaGreatDoor.Gp Go.Proofs.YtglmofeeggjemaaGreatDoor.GW

theorem shP_snd (n : Nat) (b : List (Nat × C)) : (b.map (shP n)).map Prod.snd = b.map Prod.snd := by
  rw [List.map_map]
  rfl
set_option maxRecDepth 100000 in
set_option maxHeartbeats 12800000 in
theorem walk (p0 : Option Addr) (c0 : Nat) (l0 : List Int) (g0 : l0.length ≤ c0) (k0 : c0 ≤ maxLen) (p1 : Option Addr) (c1 : Nat) (l1 : List Int) (g1 : l1.length ≤ c1) (k1 : c1 ≤ maxLen) (w : World) (z0 : Zs w p0 l0) (z1 : Zs w p1 l1) :
    Calls Tryz.prog 4 #[.slice p0 l0.length c0, .slice p1 l1.length c1] w fun e w' => e = .returned (.bool true) ∧ Below w.heap.size w w' := by
  have Z0 := Lib.hid z0
  have Z1 := Lib.hid z1
  clear z0 z1
  go_enter Tryz.func4, Tryz.ntmps4
  go_wp2_with fail
  refine (file_c p0 l0 c0 g0 k0 false w Z0).mono ?_
  rintro en w1 ⟨⟨S, rfl, hS⟩, hb1⟩
  have HS := Lib.hid hS
  have HB1 := Lib.hid hb1
  have Z2 := Lib.hid (Z1.out.below hb1)
  clear hS hb1 g0 k0
  go_wp2_with fail
  refine (file_c p1 l1 c1 g1 k1 true w1 Z2).mono ?_
  rintro en w2 ⟨⟨T, rfl, hT⟩, hb2⟩
  have HT := Lib.hid hT
  have HB2 := Lib.hid (HB1.out.trans (hb2.mono HB1.out.size))
  clear hT hb2 g1 k1 HB1 Z0 Z1 Z2
  have sS : S.size ≤ 200000 := HS.out.2.2
  have sT : T.size ≤ 200000 := HT.out.2.2
  obtain ⟨a, i, e, ha⟩ : ∃ a i e, parseG S.data.toList = (a, i, e) := ⟨_, _, _, rfl⟩
  obtain ⟨b, j, f, hb⟩ : ∃ b j f, parseG T.data.toList = (b, j, f) := ⟨_, _, _, rfl⟩
  obtain ⟨c, k, g, hc⟩ : ∃ c k g, parseG (S ++ T).data.toList = (c, k, g) := ⟨_, _, _, rfl⟩
  have hc2 : parseG (S.data.toList ++ T.data.toList) = (c, k, g) := by rw [← app_list]; exact hc
  have hcnt : S.data.toList.count 42 + T.data.toList.count 42 ≤ 10000 := by have := HS.out.2.1; have := HT.out.2.1; omega
  have hlen : S.data.toList.length + T.data.toList.length ≤ 500000 := by rw [len_list, len_list]; omega
  have hpt := parts S.data.toList T.data.toList HS.out.1 HT.out.1 hcnt hlen ha hb hc2
  have PA := Lib.hid hpt.1
  have PB := Lib.hid hpt.2.1
  have PC := Lib.hid hpt.2.2
  have PD : Hid (e = 0 → f = 0 → parseG (S ++ (⟨#[33, 42]⟩ : ByteArray) ++ T).data.toList = ([], S.size, 3)) := by
    intro h1 h2
    subst h1 h2
    rw [app_list, app_list, bad_byte S.data.toList T.data.toList HS.out.1 HT.out.1 hcnt hlen ha hb, len_list]
  have jT : j ≤ 200000 := by have := parseG_at hb; rw [len_list] at this; omega
  have FA := Lib.hid (parseG_fin ha)
  have FB := Lib.hid (parseG_fin hb)
  have FC := Lib.hid (parseG_fin hc)
  have HA := Lib.hid ha
  have HB := Lib.hid hb
  have HC := Lib.hid hc
  clear ha hb hc hc2 hcnt hlen hpt
  go_wp2_with fail
  refine (gparse_c S (by unfold maxLen; omega) w2 a i e HA).mono ?_
  rintro en w3 ⟨hb3, va, rfl, ho3⟩
  have HB3 := Lib.hid (HB2.out.trans (hb3.mono HB2.out.size))
  have OA3 : Hid (CmdsAt 0 w3 va a) := ho3.mono (Nat.zero_le _)
  clear hb3 ho3 HB2
  go_wp2_with fail
  refine (gparse_c T (by unfold maxLen; omega) w3 b j f HB).mono ?_
  rintro en w4 ⟨hb4, vb, rfl, ho4⟩
  have HB4 := Lib.hid (HB3.out.trans (hb4.mono HB3.out.size))
  have OB4 : Hid (CmdsAt 0 w4 vb b) := ho4.mono (Nat.zero_le _)
  have OA4 := Lib.hid (OA3.out.below hb4)
  clear hb4 ho4 HB3 OA3
  have z1 : ¬ 9223372036854775807 < S.size + T.size := by omega
  go_wp2_with fail
  refine (gparse_c (S ++ T) (by rw [ByteArray.size_append]; unfold maxLen; omega) w4 c k g HC).mono ?_
  rintro en w5 ⟨hb5, vc, rfl, ho5⟩
  have HB5 := Lib.hid (HB4.out.trans (hb5.mono HB4.out.size))
  have OC5 : Hid (CmdsAt 0 w5 vc c) := ho5.mono (Nat.zero_le _)
  have OA5 := Lib.hid (OA4.out.below hb5)
  have OB5 := Lib.hid (OB4.out.below hb5)
  clear hb5 ho5 HB4 OA4 OB4
  obtain ⟨pc, cc, rfl, hrc⟩ := cmds_read OC5.out
  have RC5 := Lib.hid hrc
  clear hrc
  by_cases he : e = 0
  · subst he
    by_cases hf : f = 0
    · subst hf
      obtain ⟨hg, hcab⟩ := PC.out rfl rfl
      subst hg
      have HCAB := Lib.hid hcab
      have PE := Lib.hid (PD.out rfl rfl)
      clear hcab
      have z2 : ¬ 9223372036854775807 < S.size + 2 := by omega
      have z3 : ¬ 9223372036854775807 < S.size + 2 + T.size := by omega
      go_wp2_with fail
      refine (gparse_c (S ++ (⟨#[33, 42]⟩ : ByteArray) ++ T) (by rw [ByteArray.size_append, ByteArray.size_append]; unfold maxLen; show S.size + 2 + T.size ≤ _; omega) w5 [] S.size 3 PE).mono ?_
      rintro en w6 ⟨hb6, vd, rfl, _⟩
      have HB6 := Lib.hid (HB5.out.trans (hb6.mono HB5.out.size))
      have OA6 := Lib.hid (OA5.out.below hb6)
      have OB6 := Lib.hid (OB5.out.below hb6)
      have RC6 := Lib.hid (RC5.out.below hb6)
      clear hb6 HB5 OA5 OB5 OC5 RC5
      have HEQ : Hid (decide (c.map Prod.snd = (([] ++ a) ++ b).map Prod.snd) = true) := by
        rw [HCAB.out, List.nil_append, List.map_append, List.map_append, shP_snd]
        exact decide_eq_true rfl
      have FC1 : c.length ≤ 1000000000 := by have := FC.out.1; omega
      have FAB : ([] : List (Nat × C)).length + a.length ≤ 100000000 ∧ (([] : List (Nat × C)) ++ a).length + b.length ≤ 100000000 := by have := FA.out.1; have := FB.out.1; rw [List.nil_append]; simp only [List.length_nil]; omega
      have HOWN : Hid ((w6.alloc (.cells #[] 32)).ownsRow w6.heap.size 32 12 (.slice (some ⟨w6.heap.size, 0, none⟩) 0 0) 0 []) :=
        ⟨rfl, .inr ⟨_, 0, #[], rfl, Nat.le_refl _, heap_alloc_new w6 _, Nat.le_refl _, by unfold maxLen; decide, rfl, rfl⟩⟩
      clear HCAB
      go_wp2_with (first
        | (at_builtin; refine wpList_append_cmds (B := 0) (W := w6) (by rfl) _ _ rfl (.slice (some ⟨w6.heap.size, 0, none⟩) 0 0) [] a [] (by rfl) ((Below.refl _ _).alloc (Nat.le_refl _) _) HOWN.out RowsAt.nil va (by rfl) OA6.out FAB.1 ?_; intro v7 w7 zs7 ho7 hr7 hb7; skip)
        | (at_builtin; refine wpList_append_cmds (B := 0) (W := w6) (by rfl) _ _ rfl v7 ([] ++ a) b zs7 (by rfl) hb7 ho7 hr7 vb (by rfl) OB6.out FAB.2 ?_; intro v8 w8 zs8 ho8 hr8 hb8; obtain ⟨p8, c8, rfl, hrd⟩ := cmds_read (B := 0) ⟨zs8, row_mono ho8 (Nat.zero_le _), hr8.belw hb8⟩; skip))
      have hcall := gSame_c 0 0 pc p8 c (([] ++ a) ++ b) cc c8 FC1 (Lib.hid FC.out.2) w8 (Lib.hid (RC6.out.below hb8)) (Lib.hid hrd) true HEQ
      rw [show ((([] : List (Nat × C)) ++ a) ++ b).length = a.length + b.length by simp] at hcall
      refine hcall.mono ?_
      clear hcall
      rintro en w9 ⟨rfl, hb9⟩
      have HB9 := Lib.hid (HB6.out.trans ((hb8.trans (hb9.mono hb8.size)).mono HB6.out.size))
      go_wp2_with fail
      refine (gawake_c w9).mono ?_
      rintro en w10 ⟨rfl, hb10⟩
      have HB10 := Lib.hid (HB9.out.trans (hb10.mono HB9.out.size))
      clear hb10
      go_wp2_with fail
      go_ret
      exact ⟨rfl, HB10.out⟩
    · obtain ⟨hg, hk⟩ := PB.out rfl hf
      rw [len_list] at hk
      subst hg
      have hfi : ¬ (g : Int) = 0 := by omega
      have hw1 : IntKind.i64.wrap ((j : Int) + (S.size : Int)) = (k : Int) := by rw [IntKind.wrap_i64]; omega
      have hw2 : (j : Int) + (S.size : Int) = (k : Int) := by omega
      clear hk
      go_wp2_with fail
      refine (gawake_c w5).mono ?_
      rintro en w10 ⟨rfl, hb10⟩
      have HB10 := Lib.hid (HB5.out.trans (hb10.mono HB5.out.size))
      clear hb10
      go_wp2_with fail
      go_ret
      exact ⟨rfl, HB10.out⟩
  · obtain ⟨h1, hcn⟩ := PA.out he
    subst hcn
    have hei : ¬ (e : Int) = 0 := by omega
    have hcases : (e ≠ 2 ∧ f = 2) ∨ (e ≠ 2 ∧ f = 6) ∨ (e = 2 ∧ g = e ∧ k = i) ∨ (e ≠ 2 ∧ f ≠ 2 ∧ f ≠ 6 ∧ g = e ∧ k = i) := by omega
    clear h1 PA PB PC PD FA FB FC
    rcases hcases with ⟨h2, rfl⟩ | ⟨h2, rfl⟩ | ⟨rfl, rfl, rfl⟩ | ⟨h2, h3, h4, rfl, rfl⟩
    · have h2i : ¬ (e : Int) = 2 := by omega
      go_wp2_with fail
      refine (gawake_c w5).mono ?_
      rintro en w10 ⟨rfl, hb10⟩
      have HB10 := Lib.hid (HB5.out.trans (hb10.mono HB5.out.size))
      clear hb10
      go_wp2_with fail
      go_ret
      exact ⟨rfl, HB10.out⟩
    · have h2i : ¬ (e : Int) = 2 := by omega
      go_wp2_with fail
      refine (gawake_c w5).mono ?_
      rintro en w10 ⟨rfl, hb10⟩
      have HB10 := Lib.hid (HB5.out.trans (hb10.mono HB5.out.size))
      clear hb10
      go_wp2_with fail
      go_ret
      exact ⟨rfl, HB10.out⟩
    · skip
      go_wp2_with fail
      refine (gawake_c w5).mono ?_
      rintro en w10 ⟨rfl, hb10⟩
      have HB10 := Lib.hid (HB5.out.trans (hb10.mono HB5.out.size))
      clear hb10
      go_wp2_with fail
      go_ret
      exact ⟨rfl, HB10.out⟩
    · have h2i : ¬ (g : Int) = 2 := by omega
      have h3i : ¬ (f : Int) = 2 := by omega
      have h4i : ¬ (f : Int) = 6 := by omega
      go_wp2_with fail
      refine (gawake_c w5).mono ?_
      rintro en w10 ⟨rfl, hb10⟩
      have HB10 := Lib.hid (HB5.out.trans (hb10.mono HB5.out.size))
      clear hb10
      go_wp2_with fail
      go_ret
      exact ⟨rfl, HB10.out⟩
end Go.Proofs.YtglmofeeggjemaaGreatDoor.GerbParts
