/-
  The walk of the statements' File.
-/
import Derived.Test.YtglmofeeggjemaaGreatDoorIm
import Derived.StillTailTactics
set_option linter.unusedVariables false
namespace Go.Proofs.YtglmofeeggjemaaGreatDoor.GW
open Go.RowKit Go.Proofs.YtglmofeeggjemaaGreatDoor.Base Go.Proofs.YtglmofeeggjemaaGreatDoor.Dp Go.Proofs.YtglmofeeggjemaaGreatDoor.DeciW Go.Proofs.YtglmofeeggjemaaGreatDoor.Mem Go.Proofs.YtglmofeeggjemaaGreatDoor.RdW Go.Proofs.YtglmofeeggjemaaGreatDoor.Gp

/-- A file under way: closed, of so many lines. -/
def FileOk (S : ByteArray) (k : Nat) : Prop := Closed S.data.toList ∧ S.data.toList.count 42 ≤ 10 + 15 * k ∧ S.size ≤ 200 + 3000 * k
theorem FileOk.add {S T : ByteArray} {k : Nat} (h : FileOk S k) (g : LineOk T) : FileOk (S ++ T) (k + 1) := by
  refine ⟨?_, ?_, ?_⟩
  · rw [app_list]; exact h.1.append g.1
  · rw [app_list, List.count_append]; have := h.2.1; have := g.2.1; omega
  · rw [ByteArray.size_append]; have := h.2.2; have := g.2.2; omega
/-- A whole file's text. -/
def FileFin (S : ByteArray) : Prop := Closed S.data.toList ∧ S.data.toList.count 42 ≤ 1000 ∧ S.size ≤ 200000
theorem file_nil : FileOk ⟨#[]⟩ 0 := ⟨Closed.nil, by decide, by decide⟩
theorem file_end : LineOk ⟨#[77, 48, 50, 42, 10]⟩ := ok_word (P := ⟨#[77, 48, 50]⟩) (lit_tok _ 20 (by decide) (by decide)) (by decide) (by decide) rfl
theorem file_h0 : FileOk ⟨#[37, 70, 83, 76, 65, 88, 50, 52, 89, 50, 52, 42, 37, 10, 37, 77, 79, 77, 77, 42, 37, 10, 71, 55, 53, 42, 10, 37, 65, 68, 68, 49, 48, 67, 44, 48, 46, 52, 42, 37, 10, 37, 65, 68, 68, 49, 49, 82, 44, 48, 46, 54, 88, 48, 46, 51, 42, 37, 10, 68, 49, 48, 42, 10]⟩ 0 := ⟨(Closed.append (Closed.append (Closed.append (Closed.append (Closed.append (closed_group (p := [70, 83, 76, 65, 88, 50, 52, 89, 50, 52]) [] (by decide) (by decide) (by decide) (fun x hx => absurd hx (by simp)) [] (.inl rfl)) (closed_group (p := [77, 79, 77, 77]) [] (by decide) (by decide) (by decide) (fun x hx => absurd hx (by simp)) [] (.inl rfl))) (closed_word (p := [71, 55, 53]) (by decide) (by decide) (by decide))) (closed_group (p := [65, 68, 68, 49, 48, 67, 44, 48, 46, 52]) [] (by decide) (by decide) (by decide) (fun x hx => absurd hx (by simp)) [] (.inl rfl))) (closed_group (p := [65, 68, 68, 49, 49, 82, 44, 48, 46, 54, 88, 48, 46, 51]) [] (by decide) (by decide) (by decide) (fun x hx => absurd hx (by simp)) [] (.inl rfl))) (closed_word (p := [68, 49, 48]) (by decide) (by decide) (by decide))), by decide, by decide⟩
theorem file_h1 : FileOk ⟨#[37, 70, 83, 84, 65, 88, 50, 52, 89, 50, 52, 42, 37, 10, 37, 77, 79, 73, 78, 42, 37, 10, 71, 55, 53, 42, 10, 37, 65, 68, 68, 49, 48, 67, 44, 48, 46, 52, 42, 37, 10, 37, 65, 68, 68, 49, 49, 82, 44, 48, 46, 54, 88, 48, 46, 51, 42, 37, 10, 68, 49, 48, 42, 10]⟩ 0 := ⟨(Closed.append (Closed.append (Closed.append (Closed.append (Closed.append (closed_group (p := [70, 83, 84, 65, 88, 50, 52, 89, 50, 52]) [] (by decide) (by decide) (by decide) (fun x hx => absurd hx (by simp)) [] (.inl rfl)) (closed_group (p := [77, 79, 73, 78]) [] (by decide) (by decide) (by decide) (fun x hx => absurd hx (by simp)) [] (.inl rfl))) (closed_word (p := [71, 55, 53]) (by decide) (by decide) (by decide))) (closed_group (p := [65, 68, 68, 49, 48, 67, 44, 48, 46, 52]) [] (by decide) (by decide) (by decide) (fun x hx => absurd hx (by simp)) [] (.inl rfl))) (closed_group (p := [65, 68, 68, 49, 49, 82, 44, 48, 46, 54, 88, 48, 46, 51]) [] (by decide) (by decide) (by decide) (fun x hx => absurd hx (by simp)) [] (.inl rfl))) (closed_word (p := [68, 49, 48]) (by decide) (by decide) (by decide))), by decide, by decide⟩
theorem file_h2 : FileOk ⟨#[37, 70, 83, 76, 65, 88, 51, 51, 89, 51, 51, 42, 37, 10, 37, 77, 79, 77, 77, 42, 37, 10, 71, 55, 53, 42, 10, 37, 65, 68, 68, 49, 48, 67, 44, 48, 46, 52, 42, 37, 10, 37, 65, 68, 68, 49, 49, 82, 44, 48, 46, 54, 88, 48, 46, 51, 42, 37, 10, 68, 49, 48, 42, 10]⟩ 0 := ⟨(Closed.append (Closed.append (Closed.append (Closed.append (Closed.append (closed_group (p := [70, 83, 76, 65, 88, 51, 51, 89, 51, 51]) [] (by decide) (by decide) (by decide) (fun x hx => absurd hx (by simp)) [] (.inl rfl)) (closed_group (p := [77, 79, 77, 77]) [] (by decide) (by decide) (by decide) (fun x hx => absurd hx (by simp)) [] (.inl rfl))) (closed_word (p := [71, 55, 53]) (by decide) (by decide) (by decide))) (closed_group (p := [65, 68, 68, 49, 48, 67, 44, 48, 46, 52]) [] (by decide) (by decide) (by decide) (fun x hx => absurd hx (by simp)) [] (.inl rfl))) (closed_group (p := [65, 68, 68, 49, 49, 82, 44, 48, 46, 54, 88, 48, 46, 51]) [] (by decide) (by decide) (by decide) (fun x hx => absurd hx (by simp)) [] (.inl rfl))) (closed_word (p := [68, 49, 48]) (by decide) (by decide) (by decide))), by decide, by decide⟩

set_option maxRecDepth 100000 in
set_option maxHeartbeats 6400000 in
theorem file_c (p : Option Addr) (l : List Int) (c : Nat) (hc : l.length ≤ c) (hcm : c ≤ maxLen) (whole : Bool) (w : World) (hz : Hid (Zs w p l)) :
    Calls Tryz.prog 6 #[.slice p l.length c, .bool whole] w fun e w' => (∃ S, e = .returned (.string S) ∧ FileFin S) ∧ Below w.heap.size w w' := by
  have HCM : Hid (c ≤ 9223372036854775807) := by unfold maxLen at hcm; exact Lib.hid (by omega)
  have hl63 : l.length ≤ 9223372036854775807 := by unfold maxLen at hcm; omega
  obtain ⟨r, hr, hr3⟩ : ∃ r : Nat, (l.length : Int) % 3 = (r : Int) ∧ r ≤ 2 := ⟨l.length % 3, by omega, by omega⟩
  go_enter Tryz.func6, Tryz.ntmps6
  go_upto_if 7 with fail
  go_cut [5] (fun s wx => ∃ S, s = .string S ∧ Hid (FileOk S 0) ∧ Hid (Below w.heap.size w wx))
  case first =>
    cases whole with
    | false =>
      go_wp2_with fail
      go_meet
      exact ⟨_, rfl, file_nil, Below.refl _ _⟩
    | true =>
      have hr4 : r = 0 ∨ r = 1 ∨ r = 2 := by omega
      rcases hr4 with rfl | rfl | rfl
      · go_wp2_with fail
        go_meet
        exact ⟨_, rfl, file_h0, (Below.refl _ _).alloc (Nat.le_refl _) _⟩
      · go_wp2_with fail
        go_meet
        exact ⟨_, rfl, file_h1, (Below.refl _ _).alloc (Nat.le_refl _) _⟩
      · go_wp2_with fail
        go_meet
        exact ⟨_, rfl, file_h2, (Below.refl _ _).alloc (Nat.le_refl _) _⟩
  case rest =>
  obtain ⟨S0, rfl, HS, HB⟩ := hcut
  clear hr hr3
  go_wp2_with fail
  go_loopw [5, 6] (fun s i wr => ∃ (k q : Nat) (S : ByteArray), Hid (k ≤ 60 ∧ q = 5 * k) ∧ q ≤ 300 ∧ s = .string S ∧ i = .int .i64 (q : Int) ∧ Hid (FileOk S k) ∧ Hid (Below w.heap.size w wr)) (fun _ i _ => 305 - (intOf i).toNat)
  case atStart => exact ⟨0, 0, S0, ⟨by decide, rfl⟩, by decide, rfl, rfl, HS, HB⟩
  case round =>
  obtain ⟨k, q, S, HK, hq, rfl, rfl, HS, HB⟩ := hrel
  by_cases hlt : q < l.length ∧ q < 300
  · obtain ⟨hlt, h300⟩ := hlt
    have hlti : (q : Int) < (l.length : Int) := by omega
    have h3i : (q : Int) < 300 := by omega
    obtain ⟨b, o, rfl, hb, hcc⟩ := hz.out (by omega)
    have hci : (l.length : Int) ≤ (c : Int) := by omega
    obtain ⟨v0, hv0⟩ : ∃ v, l[q] = v := ⟨_, rfl⟩
    have x0 : wr.cell? ⟨b, o + q, none⟩ = some (.int .i64 v0) := by rw [HB.out.cell (p := ⟨b, o + q, none⟩) hb, hcc _ hlt, hv0]
    have HC := Lib.hid (And.intro hb hcc)
    have hS : S.size ≤ 190000 := by have := HS.out.2.2; have := HK.out.1; omega
    clear hcc hv0
    obtain ⟨l2, hl2⟩ : ∃ l2, l2 = (l.drop (q + 1)).take 16 := ⟨_, rfl⟩
    obtain ⟨hh, hhq, hh1, hh2, hh3⟩ : ∃ hh : Nat, min ((q : Int) + 17) (l.length : Int) = (hh : Int) ∧ q + 1 ≤ hh ∧ hh ≤ l.length ∧ hh ≤ q + 17 := ⟨(min ((q : Int) + 17) (l.length : Int)).toNat, by omega, by omega, by omega, by omega⟩
    have hlen2 : hh - (q + 1) = l2.length := by
      rw [hl2, List.length_take, List.length_drop]
      have : hh = min (q + 17) l.length := by omega
      omega
    have HL2 : Hid (l2.length ≤ l.length - (q + 1) ∧ ∀ i (h : i < l2.length) (h2 : q + 1 + i < l.length), l2[i] = l[q + 1 + i]) := by
      subst hl2
      refine ⟨by rw [List.length_take, List.length_drop]; omega, fun i h h2 => ?_⟩
      rw [List.getElem_take, List.getElem_drop]
    have hL16 : l2.length ≤ 16 := by rw [hl2, List.length_take]; omega
    have hm1 : (q : Int) + 1 ≤ (hh : Int) := by omega
    have hm2 : (hh : Int) ≤ (c : Int) := by omega
    have hw1 : IntKind.i64.wrap ((q : Int) + 1) = ((q + 1 : Nat) : Int) := by rw [IntKind.wrap_i64]; omega
    have hw2 : IntKind.i64.wrap ((q : Int) + 17) = ((q + 17 : Nat) : Int) := by rw [IntKind.wrap_i64]; omega
    have hw3 : min (((q + 17 : Nat) : Int)) (l.length : Int) = (hh : Int) := by omega
    have hx1 : (q : Int) + 1 ≤ max (hh : Int) 0 := by omega
    have hx2 : ((q + 1 : Nat) : Int) ≤ max (hh : Int) 0 := by omega
    have hx3 : 0 ≤ (hh : Int) := by omega
    have hx4 : 0 ≤ (q : Int) + 1 := by omega
    have hx5 : ((q : Int) + 1).toNat = q + 1 := by omega
    clear hl2
    by_cases hcc : q + 1 = c
    · obtain rfl : c = q + 1 := by omega
      have hcci : (hh : Int) ≤ (q : Int) + 1 := by omega
      have HZ : Hid (Zs wr.drew (some ⟨b, o, none⟩) l2) := by
        intro hp
        refine ⟨b, o, rfl, Nat.lt_of_lt_of_le HC.out.1 HB.out.size, fun i hi => ?_⟩
        exfalso; have := HL2.out.1; omega
      go_upto_region 7 with fail
      go_region_law (first | (go_simp; go_at_call 13; refine (line15_c _ _ l2 _ (by have := HL2.out.1; omega) (by have := HL2.out.1; omega) (by have := HCM.out; omega) _ HZ (Lib.hid ⟨_, _, rfl⟩)).mono ?_; rintro e w' ⟨⟨R, rfl, hR⟩, hb'⟩; have HR := Lib.hid hR; have HBR := Lib.hid hb'; have z1 : ¬ 9223372036854775807 < S.size + R.size := (by have := HR.out.2.2; omega); clear hR hb') | fail)
      all_goals
        go_wp2_with fail
        go_roundw
        case rel =>
          refine ⟨k + 1, q + 5, S ++ R, ⟨(by have h1 := HK.out.2; omega), (by have h1 := HK.out.2; omega)⟩, (by have h1 := HK.out.2; omega), rfl, by go_num, HS.out.add HR.out, ?_⟩
          first | exact (HB.out.drew.trans (HBR.out.mono HB.out.size)) | exact (HB.out.drew.trans (HBR.out.mono HB.out.size)).drew
        case measure => simp [intOf] <;> omega
    · have hcci : (q : Int) + 1 < (c : Int) := by omega
      have hc2 : ¬ c = q + 1 := by omega
      have HZ : Hid (Zs wr.drew (some ⟨b, o + (q + 1), none⟩) l2) := by
        intro hp
        refine ⟨b, o + (q + 1), rfl, Nat.lt_of_lt_of_le HC.out.1 HB.out.size, fun i hi => ?_⟩
        have hl2 := HL2.out
        have h0 := HL2.out.1
        have hi2 : q + 1 + i < l.length := by omega
        have h1 := (HB.out.cell (p := ⟨b, o + (q + 1 + i), none⟩) HC.out.1).trans (HC.out.2 _ hi2)
        have h2 : l2[i] = l[q + 1 + i] := hl2.2 i hi hi2
        rw [show o + (q + 1) + i = o + (q + 1 + i) by omega, h2]
        exact h1
      go_upto_region 7 with fail
      go_region_law (first | (go_simp; go_at_call 13; refine (line15_c _ _ l2 _ (by have := HL2.out.1; omega) (by have := HL2.out.1; omega) (by have := HCM.out; omega) _ HZ (Lib.hid ⟨_, _, rfl⟩)).mono ?_; rintro e w' ⟨⟨R, rfl, hR⟩, hb'⟩; have HR := Lib.hid hR; have HBR := Lib.hid hb'; have z1 : ¬ 9223372036854775807 < S.size + R.size := (by have := HR.out.2.2; omega); clear hR hb') | fail)
      all_goals
        go_wp2_with fail
        go_roundw
        case rel =>
          refine ⟨k + 1, q + 5, S ++ R, ⟨(by have h1 := HK.out.2; omega), (by have h1 := HK.out.2; omega)⟩, (by have h1 := HK.out.2; omega), rfl, by go_num, HS.out.add HR.out, ?_⟩
          first | exact (HB.out.drew.trans (HBR.out.mono HB.out.size)) | exact (HB.out.drew.trans (HBR.out.mono HB.out.size)).drew
        case measure => simp [intOf] <;> omega
  · have hfin : Hid (∀ T, T = S ∨ T = S ++ (⟨#[77, 48, 50, 42, 10]⟩ : ByteArray) → FileFin T) := by
      intro T hT
      rcases hT with rfl | rfl
      · exact ⟨HS.out.1, by have := HS.out.2.1; have := HK.out.1; omega, by have := HS.out.2.2; have := HK.out.1; omega⟩
      · have h := HS.out.add file_end
        exact ⟨h.1, by have := h.2.1; have := HK.out.1; omega, by have := h.2.2; have := HK.out.1; omega⟩
    have hS : S.size ≤ 190000 := by have := HS.out.2.2; have := HK.out.1; omega
    have z1 : ¬ 9223372036854775807 < S.size + 5 := by omega
    by_cases h1 : q < l.length
    · have h1i : (q : Int) < (l.length : Int) := by omega
      have h3i : ¬ (q : Int) < 300 := by omega
      clear hlt
      cases whole with
      | false =>
        go_wp2_with fail
        go_ret
        exact ⟨⟨_, rfl, hfin.out _ (.inl rfl)⟩, HB.out⟩
      | true =>
        go_wp2_with fail
        go_ret
        exact ⟨⟨_, rfl, hfin.out _ (.inr rfl)⟩, HB.out⟩
    · have h1i : ¬ (q : Int) < (l.length : Int) := by omega
      clear hlt
      cases whole with
      | false =>
        go_wp2_with fail
        go_ret
        exact ⟨⟨_, rfl, hfin.out _ (.inl rfl)⟩, HB.out⟩
      | true =>
        go_wp2_with fail
        go_ret
        exact ⟨⟨_, rfl, hfin.out _ (.inr rfl)⟩, HB.out⟩
end Go.Proofs.YtglmofeeggjemaaGreatDoor.GW
