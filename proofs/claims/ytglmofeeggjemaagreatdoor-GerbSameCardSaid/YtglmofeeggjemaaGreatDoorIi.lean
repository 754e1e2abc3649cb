/-
  The walks of the statements' Op and its closure.
-/
import Derived.Test.YtglmofeeggjemaaGreatDoorIh
import Derived.Deep.RegionWith
set_option linter.unusedVariables false
namespace Go.Proofs.YtglmofeeggjemaaGreatDoor.GW
open Go.RowKit Go.Proofs.YtglmofeeggjemaaGreatDoor.Base Go.Proofs.YtglmofeeggjemaaGreatDoor.Dp Go.Proofs.YtglmofeeggjemaaGreatDoor.DeciW Go.Proofs.YtglmofeeggjemaaGreatDoor.Mem Go.Proofs.YtglmofeeggjemaaGreatDoor.RdW Go.Proofs.YtglmofeeggjemaaGreatDoor.Gp

theorem lit_tok (S : ByteArray) (n : Nat) (h : S.data.toList.all wc = true) (hn : S.size ≤ n) : TokS S n := ⟨fun c hc => List.all_eq_true.1 h c hc, hn⟩
theorem tok1 {x : UInt8} (h : wc x = true) : TokS ⟨#[x]⟩ 1 := ⟨Tok.cons h Tok.nil, Nat.le_refl _⟩
/-- The text of an operation under way, in its block. -/
def OpAt (w : World) (b n : Nat) (W : World) : Prop := ∃ S, W.heap[b]? = some (.cells #[.string S] 9) ∧ TokS S n ∧ Below w.heap.size w W
theorem op_end {w0 w : World} {b n : Nat} {S S' : ByteArray} (h : w.heap[b]? = some (.cells #[.string S] 9)) (h3 : Below w0.heap.size w0 w) (hb : w0.heap.size ≤ b) (ht : TokS S' n) : OpAt w0 b n ((w.setCell ⟨b, 0, none⟩ (.string S')).drew) :=
  ⟨S', heap_here h 0 _, ht, (h3.setCell hb _).drew⟩
theorem OpAt.mono {w W : World} {b n m : Nat} (h : OpAt w b n W) (hm : n ≤ m) : OpAt w b m W := by
  obtain ⟨S, h1, h2, h3⟩ := h
  exact ⟨S, h1, h2.mono hm, h3⟩
set_option maxRecDepth 100000 in
set_option maxHeartbeats 1600000 in
theorem op1_c (x : UInt8) (hx : wc x = true) (v : Int) (b n : Nat) (hn : n ≤ 60) (w0 w : World) (hb : w0.heap.size ≤ b) (h : Hid (OpAt w0 b n w)) :
    Calls Tryz.prog 50 #[.string ⟨#[x]⟩, .int .i64 v, .pointer (some ⟨b, 0, none⟩)] w fun e w' => e = .returned (.tuple #[]) ∧ OpAt w0 b (n + 7) w' := by
  obtain ⟨S, h1, h2, h3⟩ := h.out
  obtain ⟨k, hk, k0, k1⟩ : ∃ k, bits .and .i64 v 16383 = k ∧ 0 ≤ k ∧ k ≤ 16383 := ⟨_, rfl, by rw [Bits.and16383]; omega, by rw [Bits.and16383]; omega⟩
  have c0 : w.cell? ⟨b, 0, none⟩ = some (.string S) := by simp [World.cell?, h1]
  have f0 : w.frozen? ⟨b, 0, none⟩ = false := by simp [World.frozen?, h1]
  have H1 := Lib.hid h1
  have H2 := Lib.hid h2
  have H3 := Lib.hid h3
  have hs : S.size ≤ 60 := Nat.le_trans h2.2 hn
  have z1 : ¬ 9223372036854775807 < S.size + 1 := by omega
  have z2 : ¬ 9223372036854775807 < S.size + 1 + 1 := by omega
  have HXX := Lib.hid hx
  clear h h1 h2 h3 hx
  by_cases hv : k - 4096 < 0
  · have hwr : IntKind.i64.wrap (-(k - 4096)) = 4096 - k := by rw [IntKind.wrap_i64]; omega
    go_enter Tryz.func50, Tryz.ntmps50
    go_upto_region 2 with fail
    go_region_with (go_at_call 29; refine (num_p _ (by omega) (by omega) _).mono ?_; rintro e w' ⟨T, rfl, ⟨hT1, hT2⟩, hp, rfl⟩; have HT := Lib.hid (And.intro hT1 hT2); have z3 : ¬ 9223372036854775807 < S.size + 1 + 1 + T.size := (by omega); clear hT1)
    all_goals
      go_wp2_with fail
      go_end0
      exact ⟨rfl, op_end H1.out H3.out hb ((((H2.out.append (tok1 HXX.out)).append (tok1 (x := 45) (by decide))).append HT.out).mono (by omega))⟩
  · have hk : 0 ≤ k - 4096 := by omega
    go_enter Tryz.func50, Tryz.ntmps50
    go_upto_region 3 with fail
    go_region_with (go_at_call 29; refine (num_p _ (by omega) (by omega) _).mono ?_; rintro e w' ⟨T, rfl, ⟨hT1, hT2⟩, hp, rfl⟩; have HT := Lib.hid (And.intro hT1 hT2); have z3 : ¬ 9223372036854775807 < S.size + 1 + T.size := (by omega); clear hT1)
    all_goals
      go_wp2_with fail
      go_end0
      exact ⟨rfl, op_end H1.out H3.out hb (((H2.out.append (tok1 HXX.out)).append HT.out).mono (by omega))⟩

/-- A line that is one word. -/
theorem line_word {S : ByteArray} {n : Nat} (h : TokS S n) (h0 : S.data.toList ≠ []) (hn : n ≤ 10000) {L : List UInt8} (hL : L = S.data.toList ++ [42, 10]) : Closed L ∧ L.count 42 ≤ 1 ∧ L.length ≤ n + 2 := by
  subst hL
  refine ⟨closed_word h.1 h0 (by rw [len_list]; exact Nat.le_trans h.2 hn), ?_, ?_⟩
  · rw [List.count_append, count_wc h.1]; decide
  · rw [List.length_append, len_list]; exact Nat.add_le_add_right h.2 2

theorem op_ne (S : ByteArray) (d : UInt8) : (S ++ (⟨#[68, 48]⟩ : ByteArray) ++ (⟨#[d]⟩ : ByteArray)).data.toList ≠ [] := by
  rw [app_list]
  simp
set_option maxRecDepth 100000 in
set_option maxHeartbeats 6400000 in
theorem op_c (n x y i j : Int) (w : World) :
    Calls Tryz.prog 30 #[.int .i64 n, .int .i64 x, .int .i64 y, .int .i64 i, .int .i64 j] w fun e w' => (∃ P R : ByteArray, e = .returned (.string R) ∧ TokS P 40 ∧ P.data.toList ≠ [] ∧ R.data.toList = P.data.toList ++ [42, 10]) ∧ Below w.heap.size w w' := by
  have HO : Hid (OpAt w w.heap.size 0 (w.alloc (.cells #[.string ⟨#[]⟩] 9))) := ⟨⟨#[]⟩, heap_alloc_new w _, ⟨Tok.nil, Nat.le_refl _⟩, (Below.refl _ _).alloc (Nat.le_refl _) _⟩
  obtain ⟨q, hq, hq0, hq1⟩ : ∃ q, bits .and .i64 (n / 256) 3 = q ∧ 0 ≤ q ∧ q ≤ 3 := ⟨_, rfl, by rw [Bits.and3]; omega, by rw [Bits.and3]; omega⟩
  go_enter Tryz.func30, Tryz.ntmps30
  go_upto_region 3 with fail
  generalize w.alloc (.cells #[.string ⟨#[]⟩] 9) = W at HO ⊢
  go_cut [21] (fun c wx => ∃ cb : Bool, c = .bool cb ∧ W = wx)
  case first =>
    go_wp2_with fail
    all_goals
      go_meet
      exact ⟨_, rfl, rfl⟩
  case rest =>
  obtain ⟨cb, rfl, rfl⟩ := hcut
  go_upto_if 21 with fail
  go_cut [] (fun wx => Hid (OpAt w w.heap.size 7 wx))
  case first =>
    cases cb with
    | true =>
      go_wp2_with fail
      refine (op1_c 88 (by decide) x _ 0 (by decide) w _ (Nat.le_refl _) HO).mono ?_
      rintro e w2 ⟨rfl, h2⟩
      have H2 := Lib.hid h2
      clear h2
      go_wp2_with fail
      go_meet
      exact H2.out
    | false =>
      go_wp2_with fail
      go_meet
      exact HO.out.mono (by decide)
  case rest =>
  have HO2 := Lib.hid hcut.out
  clear hcut HO
  have HO := HO2
  clear HO2
  rename_i wc
  go_upto_region 5 with fail
  go_cut [32] (fun c wx => ∃ cb : Bool, c = .bool cb ∧ wc = wx)
  case first =>
    go_wp2_with fail
    all_goals
      go_meet
      exact ⟨_, rfl, rfl⟩
  case rest =>
  obtain ⟨cb, rfl, rfl⟩ := hcut
  go_upto_if 32 with fail
  go_cut [] (fun wx => Hid (OpAt w w.heap.size 14 wx))
  case first =>
    cases cb with
    | true =>
      go_wp2_with fail
      refine (op1_c 89 (by decide) y _ 7 (by decide) w _ (Nat.le_refl _) HO).mono ?_
      rintro e w2 ⟨rfl, h2⟩
      have H2 := Lib.hid h2
      clear h2
      go_wp2_with fail
      go_meet
      exact H2.out
    | false =>
      go_wp2_with fail
      go_meet
      exact HO.out.mono (by decide)
  case rest =>
  have HO2 := Lib.hid hcut.out
  clear hcut HO
  have HO := HO2
  clear HO2
  rename_i wc
  go_upto_if 38 with fail
  obtain ⟨cb, hcb⟩ : ∃ cb : Bool, (bits .and .i64 n 12 == 12) = cb := ⟨_, rfl⟩
  rw [hcb]
  go_cut [] (fun wx => Hid (OpAt w w.heap.size 28 wx))
  case first =>
    cases cb with
    | true =>
      go_wp2_with fail
      refine (op1_c 73 (by decide) i _ 14 (by decide) w _ (Nat.le_refl _) HO).mono ?_
      rintro e w2 ⟨rfl, h2⟩
      have H2 := Lib.hid h2
      clear h2
      go_wp2_with fail
      refine (op1_c 74 (by decide) j _ 21 (by decide) w _ (Nat.le_refl _) H2).mono ?_
      rintro e w3 ⟨rfl, h3⟩
      have H3 := Lib.hid h3
      clear h3
      go_wp2_with fail
      go_meet
      exact H3.out
    | false =>
      go_wp2_with fail
      go_meet
      exact HO.out.mono (by decide)
  case rest =>
  have HO2 := Lib.hid hcut.out
  clear hcut HO
  have HO := HO2
  clear HO2
  rename_i wc
  obtain ⟨S, h1, h2, h3⟩ := HO.out
  have c0 : wc.cell? ⟨w.heap.size, 0, none⟩ = some (.string S) := by simp [World.cell?, h1]
  have c1 : (wc.alloc (.cells #[.string ⟨#[49]⟩, .string ⟨#[50]⟩, .string ⟨#[51]⟩, .string ⟨#[49]⟩] 9)).cell? ⟨w.heap.size, 0, none⟩ = some (.string S) := by
    have h := one_below h1 ((Below.refl _ _).alloc (Nat.le_refl _) (.cells #[.string ⟨#[49]⟩, .string ⟨#[50]⟩, .string ⟨#[51]⟩, .string ⟨#[49]⟩] 9))
    simp [World.cell?, h]
  have H1 := Lib.hid h1
  have H2 := Lib.hid h2
  have H3 := Lib.hid h3
  have hs : S.size ≤ 28 := h2.2
  have z1 : ¬ 9223372036854775807 < S.size + 2 := by omega
  have z2 : ¬ 9223372036854775807 < S.size + 2 + 1 := by omega
  have z3 : ¬ 9223372036854775807 < S.size + 2 + 1 + 2 := by omega
  clear h1 h2 h3 hcb
  have hq4 : q = 0 ∨ q = 1 ∨ q = 2 ∨ q = 3 := by omega
  clear hq0 hq1 HO
  rcases hq4 with rfl | rfl | rfl | rfl
  · go_wp2_with fail
    go_region
    all_goals
      go_wp2_with fail
      go_ret
      exact ⟨⟨S ++ ⟨#[68, 48]⟩ ++ ⟨#[49]⟩, _, rfl, (((H2.out.append (lit_tok ⟨#[68, 48]⟩ 2 (by decide) (by decide))).append (tok1 (x := 49) (by decide)))).mono (by decide), op_ne S 49, app_list _ _⟩, (H3.out.alloc H3.out.size _).drew⟩
  · go_wp2_with fail
    go_region
    all_goals
      go_wp2_with fail
      go_ret
      exact ⟨⟨S ++ ⟨#[68, 48]⟩ ++ ⟨#[50]⟩, _, rfl, (((H2.out.append (lit_tok ⟨#[68, 48]⟩ 2 (by decide) (by decide))).append (tok1 (x := 50) (by decide)))).mono (by decide), op_ne S 50, app_list _ _⟩, (H3.out.alloc H3.out.size _).drew⟩
  · go_wp2_with fail
    go_region
    all_goals
      go_wp2_with fail
      go_ret
      exact ⟨⟨S ++ ⟨#[68, 48]⟩ ++ ⟨#[51]⟩, _, rfl, (((H2.out.append (lit_tok ⟨#[68, 48]⟩ 2 (by decide) (by decide))).append (tok1 (x := 51) (by decide)))).mono (by decide), op_ne S 51, app_list _ _⟩, (H3.out.alloc H3.out.size _).drew⟩
  · go_wp2_with fail
    go_region
    all_goals
      go_wp2_with fail
      go_ret
      exact ⟨⟨S ++ ⟨#[68, 48]⟩ ++ ⟨#[49]⟩, _, rfl, (((H2.out.append (lit_tok ⟨#[68, 48]⟩ 2 (by decide) (by decide))).append (tok1 (x := 49) (by decide)))).mono (by decide), op_ne S 49, app_list _ _⟩, (H3.out.alloc H3.out.size _).drew⟩
end Go.Proofs.YtglmofeeggjemaaGreatDoor.GW
