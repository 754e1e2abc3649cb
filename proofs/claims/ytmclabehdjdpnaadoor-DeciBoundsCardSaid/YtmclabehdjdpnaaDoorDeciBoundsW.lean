/-
  Proved: for any numbers of digits on each side, with any of four signs, with a point or without, deci's Parse reads a number just if the document's bounds allow it (heliographlaw2.DeciBounds returns true). Conditions: the row's own (the package-level tables read as the program's text lays them, tied by the card).
-/
import Derived.Test.YtmclabehdjdpnaaDoorDeciA
import Derived.Test.YtmclabehdjdpnaaDoorDq
import Derived.Test.YtmclabehdjdpnaaDoorBits
import Derived.ProofKit
namespace Go.Proofs.YtmclabehdjdpnaaDoor.DeciBounds
open Go.ChangeShapes Go.WideShapes Go.ChangeAt Go.WideMaps Go.WideElems Go.RowKit
open Go.ChangeMaps (open_string)
open Go.Proofs.YtmclabehdjdpnaaDoor.Dp Go.Proofs.YtmclabehdjdpnaaDoor.Base Go.Proofs.YtmclabehdjdpnaaDoor.DeciW

/-- The four signs. -/
def sg (k : Nat) : List UInt8 := match k with | 0 => [] | 1 => [43] | 2 => [45] | _ => [45, 45]
def nines (a : Nat) : List UInt8 := List.replicate a 57
theorem nines_snoc (a : Nat) : nines a ++ [57] = nines (a + 1) := by unfold nines; rw [List.replicate_succ']
theorem nines_digits (a : Nat) : ∀ c ∈ nines a, isD c = true := by
  intro c hc
  rw [(List.mem_replicate.1 hc).2]; decide
theorem nines_length (a : Nat) : (nines a).length = a := by simp [nines]
/-- The text that the law makes. -/
def made (k a b : Nat) (point : Bool) : List UInt8 := sg k ++ nines a ++ (if point then 46 :: nines b else [])
def good (k a b : Nat) : Bool := decide (k < 3) && decide (a ≤ 6) && decide (b ≤ 6) && decide (0 < a + b)

theorem decU_made (a b : Nat) (point : Bool) (hb : point = false → b = 0) : (decU (nines a ++ (if point then 46 :: nines b else []))).isSome = (decide (a ≤ 6) && decide (b ≤ 6) && decide (0 < a + b)) := by
  cases point with
  | false =>
    have := hb rfl
    subst this
    simp only [Bool.false_eq_true, if_false, List.append_nil]
    rw [decU_whole _ (nines_digits a), nines_length]
    split
    · rename_i h; simp [h.1]; omega
    · rename_i h; simp; omega
  | true =>
    simp only [if_true]
    rw [decU_point _ _ (nines_digits a) (nines_digits b), nines_length, nines_length]
    split
    · rename_i h; simp [h.1, h.2.1]; omega
    · rename_i h; simp; omega
theorem strip_nines (a b : Nat) (point : Bool) : strip (nines a ++ (if point then 46 :: nines b else [])) = (false, nines a ++ (if point then 46 :: nines b else [])) := by
  cases a with
  | zero => cases point <;> rfl
  | succ a => exact strip_digit (c := 57) (by decide) _
theorem dec_isSome (l : List UInt8) : (dec l).isSome = (decU (strip l).2).isSome := by
  unfold dec
  cases decU (strip l).2 <;> rfl
theorem dec_made (k a b : Nat) (hk : k < 4) (point : Bool) (hb : point = false → b = 0) : (dec (made k a b point)).isSome = good k a b := by
  rw [dec_isSome]
  unfold made good
  have h := decU_made a b point hb
  match k, hk with
  | 0, _ =>
    simp only [sg, List.nil_append]
    rw [strip_nines, h]; simp
  | 1, _ =>
    simp only [sg, List.cons_append, List.nil_append]
    rw [strip_plus, h]; simp
  | 2, _ =>
    simp only [sg, List.cons_append, List.nil_append]
    rw [strip_minus, h]; simp
  | 3, _ =>
    simp only [sg, List.cons_append, List.nil_append]
    rw [strip_minus, decU_not_mem (c := 45) (by simp) (by decide) (by decide)]
    simp

theorem sz32 : (⟨#[32]⟩ : ByteArray).size = 1 := rfl
theorem sz4646 : (⟨#[46, 46]⟩ : ByteArray).size = 2 := rfl
theorem made_false (k a : Nat) : made k a 0 false = sg k ++ nines a := by simp [made]
theorem made_true (k a b : Nat) : made k a b true = sg k ++ nines a ++ 46 :: nines b := rfl
theorem sg_length (k : Nat) : (sg k).length ≤ 2 := by
  unfold sg; split <;> decide

/-- What stands behind the text: the three readings and the answer. -/
theorem good_true {k a b : Nat} (h : good k a b = true) : k < 3 ∧ a ≤ 6 ∧ b ≤ 6 ∧ 0 < a + b := by
  unfold good at h; simp at h; omega
theorem good_false {k a b : Nat} (h : good k a b = false) : ¬ (k < 3 ∧ a ≤ 6 ∧ b ≤ 6 ∧ 0 < a + b) := by
  rintro ⟨h1, h2, h3, h4⟩
  rw [show good k a b = true by simp [good, h1, h2, h3, h4]] at h
  cases h

set_option maxRecDepth 100000 in
set_option maxHeartbeats 1600000 in
theorem walk (a0 : Int) (_ha0 : -9223372036854775808 ≤ a0) (_ha1 : a0 ≤ 9223372036854775807) (b0 : Int) (_hb0 : -9223372036854775808 ≤ b0) (_hb1 : b0 ≤ 9223372036854775807) (g : Int) (_hg0 : -9223372036854775808 ≤ g) (_hg1 : g ≤ 9223372036854775807) (point : Bool) (w : World) (hT : Tab w) :
    Calls Tryd.prog 7 #[.int .i64 a0, .int .i64 b0, .int .i64 g, .bool point] w fun e w' => e = .returned (.bool true) ∧ Below w.heap.size w w' := by
  clear _ha0 _ha1 _hb0 _hb1 _hg0 _hg1
  obtain ⟨a, ha, ha16⟩ : ∃ a : Nat, bits .and .i64 a0 15 = (a : Int) ∧ a < 16 := ⟨(a0 % 16).toNat, by rw [Bits.and15]; omega, by omega⟩
  obtain ⟨b, hb, hb16⟩ : ∃ b : Nat, bits .and .i64 b0 15 = (b : Int) ∧ b < 16 := ⟨(b0 % 16).toNat, by rw [Bits.and15]; omega, by omega⟩
  obtain ⟨k, hk, hk4⟩ : ∃ k : Nat, bits .and .i64 g 3 = (k : Int) ∧ k < 4 := ⟨(g % 4).toNat, by rw [Bits.and3]; omega, by omega⟩
  go_enter Tryd.func7, Tryd.ntmps7
  go_upto_region 2 with fail
  go_cut [9] (fun s wx => ∃ T : ByteArray, s = .string T ∧ T.data.toList = sg k ∧ Below w.heap.size w wx)
  case first =>
    go_wp2
    go_meet
    match k, hk4 with
    | 0, _ => exact ⟨⟨#[]⟩, rfl, rfl, (Below.refl _ _).alloc (Nat.le_refl _) _⟩
    | 1, _ => exact ⟨⟨#[43]⟩, rfl, rfl, (Below.refl _ _).alloc (Nat.le_refl _) _⟩
    | 2, _ => exact ⟨⟨#[45]⟩, rfl, rfl, (Below.refl _ _).alloc (Nat.le_refl _) _⟩
    | 3, _ => exact ⟨⟨#[45, 45]⟩, rfl, rfl, (Below.refl _ _).alloc (Nat.le_refl _) _⟩
  case rest =>
    obtain ⟨T0, rfl, hT0, hbel⟩ := hcut
    have HT0 := Lib.hid hT0
    have hT' := hT.below hbel
    clear hT0 hT
    go_wp2_with fail
    go_loop [9, 10] (fun s i => ∃ (j : Nat) (T : ByteArray), j ≤ a ∧ T.data.toList = sg k ++ nines j ∧ i = .int .i64 j ∧ s = .string T) (fun _ i => a - (intOf i).toNat)
    case atStart => exact ⟨0, T0, Nat.zero_le _, by rw [HT0.out]; simp [nines], rfl, rfl⟩
    case round =>
      obtain ⟨j, T, hj, hTl, rfl, rfl⟩ := hrel
      have hsz : T.size ≤ 20 := by
        rw [← len_list, hTl, List.length_append, nines_length]
        have := sg_length k
        omega
      by_cases hja : j < a
      · have HN : Hid ((T ++ (⟨#[57]⟩ : ByteArray)).data.toList = sg k ++ nines (j + 1)) := by
          show _ = _
          rw [app_list, hTl, ← nines_snoc, List.append_assoc]
        clear hTl
        go_wp2_with fail
        go_round
        case rel => exact ⟨j + 1, _, by omega, HN.out, by go_num, rfl⟩
        case measure => simp [intOf]; omega
      · obtain rfl : j = a := by omega
        have HTL := Lib.hid hTl
        clear hTl hja hj
        cases point with
        | false =>
          have hTm : T.data.toList = made k j 0 false := by rw [made_false]; exact HTL.out
          have hmade := dec_made k j 0 hk4 false (fun _ => rfl)
          obtain ⟨v, hv⟩ : ∃ v, (dec T.data.toList).getD 0 = v := ⟨_, rfl⟩
          have hvok : (good k j 0 = true → okN v = true) ∧ (good k j 0 = false → v = 0) := by
            rw [← hmade, ← hTm, ← hv]
            cases h : dec T.data.toList with
            | none => exact ⟨(fun h => by cases h), fun _ => rfl⟩
            | some n => exact ⟨fun _ => dec_ok h, (fun h => by cases h)⟩
          have k1 : Hid ((dec T.data.toList).getD 0 = v ∧ (dec T.data.toList).isSome = good k j 0) := by
            show _ ∧ _
            exact ⟨hv, by rw [hTm]; exact hmade⟩
          have k2 : Hid ((dec (T ++ (⟨#[32]⟩ : ByteArray)).data.toList).getD 0 = 0 ∧ (dec (T ++ (⟨#[32]⟩ : ByteArray)).data.toList).isSome = false) := by
            show _ ∧ _
            rw [app_list, show (⟨#[32]⟩ : ByteArray).data.toList = [32] from rfl, dec_blank]; exact ⟨rfl, rfl⟩
          have k3 : Hid ((dec (T ++ (⟨#[46, 46]⟩ : ByteArray)).data.toList).getD 0 = 0 ∧ (dec (T ++ (⟨#[46, 46]⟩ : ByteArray)).data.toList).isSome = false) := by
            show _ ∧ _
            rw [app_list, show (⟨#[46, 46]⟩ : ByteArray).data.toList = [46, 46] from rfl, dec_points]; exact ⟨rfl, rfl⟩
          have hz : T.size ≤ 40 := by rw [← len_list, hTm]; rw [made_false, List.length_append, nines_length]; have := sg_length k; omega
          cases hg : good k j 0 with
          | true =>
            obtain ⟨g1, g2, g3, g4⟩ := good_true hg
            have K1 := k1
            rw [hg] at K1
            have OV := Lib.hid (hvok.1 hg)
            clear k1 hvok hmade hv hTm hg
            go_wp2_with fail
            with_reducible refine (parse_c _ v true K1 (by unfold maxLen; omega) _).mono ?_
            rintro e w' ⟨rfl, rfl⟩
            go_wp2_with fail
            with_reducible refine (parse_c _ 0 false k2 (by have q1 := sz32; unfold maxLen; simp only [ByteArray.size_append]; omega) _).mono ?_
            rintro e w' ⟨rfl, rfl⟩
            go_wp2_with fail
            with_reducible refine (parse_c _ 0 false k3 (by have q1 := sz4646; unfold maxLen; simp only [ByteArray.size_append]; omega) _).mono ?_
            rintro e w' ⟨rfl, rfl⟩
            go_wp2_with fail
            with_reducible refine (ok_c v true OV _).mono ?_
            rintro e w' ⟨rfl, rfl⟩
            go_wp2_with fail
            with_reducible refine (awake_any _ hT').mono ?_
            rintro e w3 ⟨rfl, hb3⟩
            go_wp2_with fail
            go_ret
            exact ⟨rfl, hbel.trans (hb3.mono hbel.size)⟩
          | false =>
            have hbad := good_false hg
            have hv0 := hvok.2 hg
            subst hv0
            have K1 := k1
            rw [hg] at K1
            clear k1 hvok hmade hv hTm hg
            by_cases c1 : k < 3
            · by_cases c2 : j ≤ 6
              · have c4 : j + 0 = 0 := by omega
                clear hbad
                go_wp2_with fail
                with_reducible refine (parse_c _ 0 false K1 (by unfold maxLen; omega) _).mono ?_
                rintro e w' ⟨rfl, rfl⟩
                go_wp2_with fail
                with_reducible refine (parse_c _ 0 false k2 (by have q1 := sz32; unfold maxLen; simp only [ByteArray.size_append]; omega) _).mono ?_
                rintro e w' ⟨rfl, rfl⟩
                go_wp2_with fail
                with_reducible refine (parse_c _ 0 false k3 (by have q1 := sz4646; unfold maxLen; simp only [ByteArray.size_append]; omega) _).mono ?_
                rintro e w' ⟨rfl, rfl⟩
                go_wp2_with fail
                with_reducible refine (awake_any _ hT').mono ?_
                rintro e w3 ⟨rfl, hb3⟩
                go_wp2_with fail
                go_ret
                exact ⟨rfl, hbel.trans (hb3.mono hbel.size)⟩
              · clear hbad
                go_wp2_with fail
                with_reducible refine (parse_c _ 0 false K1 (by unfold maxLen; omega) _).mono ?_
                rintro e w' ⟨rfl, rfl⟩
                go_wp2_with fail
                with_reducible refine (parse_c _ 0 false k2 (by have q1 := sz32; unfold maxLen; simp only [ByteArray.size_append]; omega) _).mono ?_
                rintro e w' ⟨rfl, rfl⟩
                go_wp2_with fail
                with_reducible refine (parse_c _ 0 false k3 (by have q1 := sz4646; unfold maxLen; simp only [ByteArray.size_append]; omega) _).mono ?_
                rintro e w' ⟨rfl, rfl⟩
                go_wp2_with fail
                with_reducible refine (awake_any _ hT').mono ?_
                rintro e w3 ⟨rfl, hb3⟩
                go_wp2_with fail
                go_ret
                exact ⟨rfl, hbel.trans (hb3.mono hbel.size)⟩
            · clear hbad
              go_wp2_with fail
              with_reducible refine (parse_c _ 0 false K1 (by unfold maxLen; omega) _).mono ?_
              rintro e w' ⟨rfl, rfl⟩
              go_wp2_with fail
              with_reducible refine (parse_c _ 0 false k2 (by have q1 := sz32; unfold maxLen; simp only [ByteArray.size_append]; omega) _).mono ?_
              rintro e w' ⟨rfl, rfl⟩
              go_wp2_with fail
              with_reducible refine (parse_c _ 0 false k3 (by have q1 := sz4646; unfold maxLen; simp only [ByteArray.size_append]; omega) _).mono ?_
              rintro e w' ⟨rfl, rfl⟩
              go_wp2_with fail
              with_reducible refine (awake_any _ hT').mono ?_
              rintro e w3 ⟨rfl, hb3⟩
              go_wp2_with fail
              go_ret
              exact ⟨rfl, hbel.trans (hb3.mono hbel.size)⟩

        | true =>
          go_wp2_with fail
          go_loop [9, 11] (fun s i => ∃ (q : Nat) (T : ByteArray), q ≤ b ∧ T.data.toList = sg k ++ nines j ++ 46 :: nines q ∧ i = .int .i64 q ∧ s = .string T) (fun _ i => b - (intOf i).toNat)
          case atStart => exact ⟨0, _, Nat.zero_le _, by rw [app_list, HTL.out]; rfl, rfl, rfl⟩
          case round =>
            clear hsz HTL
            obtain ⟨q, T, hq, hTl, rfl, rfl⟩ := hrel
            have hsz2 : T.size ≤ 40 := by
              rw [← len_list, hTl]
              simp only [List.length_append, List.length_cons, nines_length]
              have := sg_length k
              omega
            by_cases hqb : q < b
            · have HN : Hid ((T ++ (⟨#[57]⟩ : ByteArray)).data.toList = sg k ++ nines j ++ 46 :: nines (q + 1)) := by
                show _ = _
                rw [app_list, hTl, ← nines_snoc]; simp
              clear hTl
              go_wp2_with fail
              go_round
              case rel => exact ⟨q + 1, _, by omega, HN.out, by go_num, rfl⟩
              case measure => simp [intOf]; omega
            · obtain rfl : b = q := by omega
              have HTL2 := Lib.hid hTl
              clear hTl hqb hq
              have hTm : T.data.toList = made k j b true := by rw [made_true]; exact HTL2.out
              have hmade := dec_made k j b hk4 true (fun h => by cases h)
              obtain ⟨v, hv⟩ : ∃ v, (dec T.data.toList).getD 0 = v := ⟨_, rfl⟩
              have hvok : (good k j b = true → okN v = true) ∧ (good k j b = false → v = 0) := by
                rw [← hmade, ← hTm, ← hv]
                cases h : dec T.data.toList with
                | none => exact ⟨(fun h => by cases h), fun _ => rfl⟩
                | some n => exact ⟨fun _ => dec_ok h, (fun h => by cases h)⟩
              have k1 : Hid ((dec T.data.toList).getD 0 = v ∧ (dec T.data.toList).isSome = good k j b) := by
                show _ ∧ _
                exact ⟨hv, by rw [hTm]; exact hmade⟩
              have k2 : Hid ((dec (T ++ (⟨#[32]⟩ : ByteArray)).data.toList).getD 0 = 0 ∧ (dec (T ++ (⟨#[32]⟩ : ByteArray)).data.toList).isSome = false) := by
                show _ ∧ _
                rw [app_list, show (⟨#[32]⟩ : ByteArray).data.toList = [32] from rfl, dec_blank]; exact ⟨rfl, rfl⟩
              have k3 : Hid ((dec (T ++ (⟨#[46, 46]⟩ : ByteArray)).data.toList).getD 0 = 0 ∧ (dec (T ++ (⟨#[46, 46]⟩ : ByteArray)).data.toList).isSome = false) := by
                show _ ∧ _
                rw [app_list, show (⟨#[46, 46]⟩ : ByteArray).data.toList = [46, 46] from rfl, dec_points]; exact ⟨rfl, rfl⟩
              have hz : T.size ≤ 40 := by rw [← len_list, hTm]; rw [made_true]; simp only [List.length_append, List.length_cons, nines_length]; have := sg_length k; omega
              cases hg : good k j b with
              | true =>
                obtain ⟨g1, g2, g3, g4⟩ := good_true hg
                have K1 := k1
                rw [hg] at K1
                have OV := Lib.hid (hvok.1 hg)
                clear k1 hvok hmade hv hTm hg
                go_wp2_with fail
                with_reducible refine (parse_c _ v true K1 (by unfold maxLen; omega) _).mono ?_
                rintro e w' ⟨rfl, rfl⟩
                go_wp2_with fail
                with_reducible refine (parse_c _ 0 false k2 (by have q1 := sz32; unfold maxLen; simp only [ByteArray.size_append]; omega) _).mono ?_
                rintro e w' ⟨rfl, rfl⟩
                go_wp2_with fail
                with_reducible refine (parse_c _ 0 false k3 (by have q1 := sz4646; unfold maxLen; simp only [ByteArray.size_append]; omega) _).mono ?_
                rintro e w' ⟨rfl, rfl⟩
                go_wp2_with fail
                with_reducible refine (ok_c v true OV _).mono ?_
                rintro e w' ⟨rfl, rfl⟩
                go_wp2_with fail
                with_reducible refine (awake_any _ hT').mono ?_
                rintro e w3 ⟨rfl, hb3⟩
                go_wp2_with fail
                go_ret
                exact ⟨rfl, hbel.trans (hb3.mono hbel.size)⟩
              | false =>
                have hbad := good_false hg
                have hv0 := hvok.2 hg
                subst hv0
                have K1 := k1
                rw [hg] at K1
                clear k1 hvok hmade hv hTm hg
                by_cases c1 : k < 3
                · by_cases c2 : j ≤ 6
                  · by_cases c3 : b ≤ 6
                    · have c4 : decide (0 < (j : Int) + (b : Int)) = false := by simp; omega
                      clear hbad
                      go_wp2_with fail
                      with_reducible refine (parse_c _ 0 false K1 (by unfold maxLen; omega) _).mono ?_
                      rintro e w' ⟨rfl, rfl⟩
                      go_wp2_with fail
                      with_reducible refine (parse_c _ 0 false k2 (by have q1 := sz32; unfold maxLen; simp only [ByteArray.size_append]; omega) _).mono ?_
                      rintro e w' ⟨rfl, rfl⟩
                      go_wp2_with fail
                      with_reducible refine (parse_c _ 0 false k3 (by have q1 := sz4646; unfold maxLen; simp only [ByteArray.size_append]; omega) _).mono ?_
                      rintro e w' ⟨rfl, rfl⟩
                      go_wp2_with fail
                      with_reducible refine (awake_any _ hT').mono ?_
                      rintro e w3 ⟨rfl, hb3⟩
                      go_wp2_with fail
                      go_ret
                      exact ⟨rfl, hbel.trans (hb3.mono hbel.size)⟩
                    · clear hbad
                      go_wp2_with fail
                      with_reducible refine (parse_c _ 0 false K1 (by unfold maxLen; omega) _).mono ?_
                      rintro e w' ⟨rfl, rfl⟩
                      go_wp2_with fail
                      with_reducible refine (parse_c _ 0 false k2 (by have q1 := sz32; unfold maxLen; simp only [ByteArray.size_append]; omega) _).mono ?_
                      rintro e w' ⟨rfl, rfl⟩
                      go_wp2_with fail
                      with_reducible refine (parse_c _ 0 false k3 (by have q1 := sz4646; unfold maxLen; simp only [ByteArray.size_append]; omega) _).mono ?_
                      rintro e w' ⟨rfl, rfl⟩
                      go_wp2_with fail
                      with_reducible refine (awake_any _ hT').mono ?_
                      rintro e w3 ⟨rfl, hb3⟩
                      go_wp2_with fail
                      go_ret
                      exact ⟨rfl, hbel.trans (hb3.mono hbel.size)⟩
                  · clear hbad
                    go_wp2_with fail
                    with_reducible refine (parse_c _ 0 false K1 (by unfold maxLen; omega) _).mono ?_
                    rintro e w' ⟨rfl, rfl⟩
                    go_wp2_with fail
                    with_reducible refine (parse_c _ 0 false k2 (by have q1 := sz32; unfold maxLen; simp only [ByteArray.size_append]; omega) _).mono ?_
                    rintro e w' ⟨rfl, rfl⟩
                    go_wp2_with fail
                    with_reducible refine (parse_c _ 0 false k3 (by have q1 := sz4646; unfold maxLen; simp only [ByteArray.size_append]; omega) _).mono ?_
                    rintro e w' ⟨rfl, rfl⟩
                    go_wp2_with fail
                    with_reducible refine (awake_any _ hT').mono ?_
                    rintro e w3 ⟨rfl, hb3⟩
                    go_wp2_with fail
                    go_ret
                    exact ⟨rfl, hbel.trans (hb3.mono hbel.size)⟩
                · clear hbad
                  go_wp2_with fail
                  with_reducible refine (parse_c _ 0 false K1 (by unfold maxLen; omega) _).mono ?_
                  rintro e w' ⟨rfl, rfl⟩
                  go_wp2_with fail
                  with_reducible refine (parse_c _ 0 false k2 (by have q1 := sz32; unfold maxLen; simp only [ByteArray.size_append]; omega) _).mono ?_
                  rintro e w' ⟨rfl, rfl⟩
                  go_wp2_with fail
                  with_reducible refine (parse_c _ 0 false k3 (by have q1 := sz4646; unfold maxLen; simp only [ByteArray.size_append]; omega) _).mono ?_
                  rintro e w' ⟨rfl, rfl⟩
                  go_wp2_with fail
                  with_reducible refine (awake_any _ hT').mono ?_
                  rintro e w3 ⟨rfl, hb3⟩
                  go_wp2_with fail
                  go_ret
                  exact ⟨rfl, hbel.trans (hb3.mono hbel.size)⟩
end Go.Proofs.YtmclabehdjdpnaaDoor.DeciBounds
