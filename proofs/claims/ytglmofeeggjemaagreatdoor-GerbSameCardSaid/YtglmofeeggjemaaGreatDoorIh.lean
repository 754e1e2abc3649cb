/-
  The small texts of the statements' own files: numbers; closures.
-/
import Derived.Test.YtglmofeeggjemaaGreatDoorIb
import Derived.Test.YtglmofeeggjemaaGreatDoorK2
import Derived.Test.YtglmofeeggjemaaGreatDoorK4
import Derived.BigQuiet
import Derived.Deep.DeepCutAuto
set_option linter.unusedVariables false
namespace Go.Proofs.YtglmofeeggjemaaGreatDoor.GW
open Go.RowKit Go.Proofs.YtglmofeeggjemaaGreatDoor.Base Go.Proofs.YtglmofeeggjemaaGreatDoor.Dp Go.Proofs.YtglmofeeggjemaaGreatDoor.DeciW Go.Proofs.YtglmofeeggjemaaGreatDoor.Mem Go.Proofs.YtglmofeeggjemaaGreatDoor.RdW Go.Proofs.YtglmofeeggjemaaGreatDoor.Gp

def Tok (l : List UInt8) : Prop := ∀ c ∈ l, wc c = true
theorem Tok.append {a b : List UInt8} (h : Tok a) (g : Tok b) : Tok (a ++ b) := fun c hc => (List.mem_append.1 hc).elim (h c) (g c)
theorem Tok.cons {c : UInt8} {b : List UInt8} (h : wc c = true) (g : Tok b) : Tok (c :: b) := fun d hd => (List.mem_cons.1 hd).elim (fun e => e ▸ h) (g d)
theorem Tok.nil : Tok [] := fun c hc => absurd hc (by simp)
/-- A text of bytes of words, of a bounded length. -/
def TokS (S : ByteArray) (n : Nat) : Prop := Tok S.data.toList ∧ S.size ≤ n
theorem TokS.append {S T : ByteArray} {n m : Nat} (h : TokS S n) (g : TokS T m) : TokS (S ++ T) (n + m) := by
  refine ⟨?_, by rw [ByteArray.size_append]; exact Nat.add_le_add h.2 g.2⟩
  rw [app_list]
  exact h.1.append g.1
theorem TokS.mono {S : ByteArray} {n m : Nat} (h : TokS S n) (hm : n ≤ m) : TokS S m := ⟨h.1, Nat.le_trans h.2 hm⟩
theorem wc_digit {c : UInt8} (h : isD c = true) : wc c = true := by
  have h1 := (isD_iff _).1 h
  simp only [wc, Bool.and_eq_true, decide_eq_true_eq, bne_iff_ne]
  refine ⟨by omega, by omega, ?_, ?_⟩
  · rintro rfl; exact absurd h1 (by decide)
  · rintro rfl; exact absurd h1 (by decide)
theorem tok_dec (n : Nat) : Tok (Lib.decDigits n) := fun c hc => wc_digit (by rw [dec_pad] at hc; exact digits_pad _ _ c hc)
theorem numL_tok (n : Nat) : Tok (numL n 1) := by rw [numL_one]; exact tok_dec n
theorem numL_len (n k : Nat) (h : n < 10 ^ k) (hk : 1 ≤ k) : (numL n 1).length ≤ k := by
  rw [numL_one, dec_pad, pad_length]
  exact nDigits_le_of_lt k n h hk
theorem numL_pos (n : Nat) : 1 ≤ (numL n 1).length := by
  rw [numL_one, dec_pad, pad_length]
  exact Lib.nDigits_pos n
theorem trimR_mem {l : List UInt8} {c d : UInt8} (h : d ∈ Lib.trimRightB l c) : d ∈ l := by
  unfold Lib.trimRightB at h
  exact List.mem_reverse.1 ((List.dropWhile_sublist _).mem (List.mem_reverse.1 h))
theorem trimR_len (l : List UInt8) (c : UInt8) : (Lib.trimRightB l c).length ≤ l.length := by
  unfold Lib.trimRightB
  rw [List.length_reverse]
  have := (List.dropWhile_sublist (p := fun b => b == c) (l := l.reverse)).length_le
  rwa [List.length_reverse] at this
theorem textL_tok (n : Int) (h0 : -100000000 < n) (h1 : n < 100000000) : Tok (textL n) ∧ (textL n).length ≤ 10 ∧ 1 ≤ (textL n).length := by
  unfold textL
  rw [if_pos ((okN_iff _).2 ⟨by omega, by omega⟩)]
  have hd : (Lib.decDigits (n.natAbs / 1000000)).length ≤ 2 := by
    rw [dec_pad, pad_length]
    exact nDigits_le_of_lt 2 _ (by omega) (by decide)
  have hp : 1 ≤ (Lib.decDigits (n.natAbs / 1000000)).length := by
    rw [dec_pad, pad_length]
    exact Lib.nDigits_pos _
  have hs : Tok (if n < 0 then ([45] : List UInt8) else []) ∧ (if n < 0 then ([45] : List UInt8) else []).length ≤ 1 := by
    split
    · exact ⟨Tok.cons (by decide) Tok.nil, by decide⟩
    · exact ⟨Tok.nil, by decide⟩
  have hf : Tok (if n.natAbs % 1000000 = 0 then [] else 46 :: Lib.trimRightB (pad (n.natAbs % 1000000) 6) 48) ∧ (if n.natAbs % 1000000 = 0 then [] else 46 :: Lib.trimRightB (pad (n.natAbs % 1000000) 6) 48).length ≤ 7 := by
    split
    · exact ⟨Tok.nil, by decide⟩
    · refine ⟨Tok.cons (by decide) fun c hc => wc_digit (digits_pad _ _ c (trimR_mem hc)), ?_⟩
      have := trimR_len (pad (n.natAbs % 1000000) 6) 48
      rw [pad_length] at this
      rw [List.length_cons]; omega
  refine ⟨(hs.1.append (tok_dec _)).append hf.1, ?_, ?_⟩
  · rw [List.length_append, List.length_append]; have := hs.2; have := hf.2; omega
  · rw [List.length_append, List.length_append]; omega
theorem num_p (x : Int) (h0 : 0 ≤ x) (h1 : x < 100000) (w : World) :
    Calls Tryz.prog 29 #[.int .i64 x, .int .i64 1] w fun e w' => ∃ S, e = .returned (.string S) ∧ TokS S 5 ∧ 1 ≤ S.size ∧ w = w' := by
  obtain ⟨S, hS⟩ := str_ex (numL x.toNat 1)
  refine (num_any x.toNat 1 (by decide) x (Lib.hid (by omega)) (by omega) (by omega) S (Lib.hid hS) w).mono fun e w' ⟨he, hw⟩ => ⟨S, he, ⟨?_, ?_⟩, ?_, hw⟩
  · rw [hS]; exact numL_tok _
  · rw [← len_list, hS]; exact numL_len _ 5 (by omega) (by decide)
  · rw [← len_list, hS]; exact numL_pos _
theorem dect_p (n : Int) (h0 : -100000000 < n) (h1 : n < 100000000) (w : World) :
    Calls Tryz.prog 28 #[.int .i64 n] w fun e w' => ∃ S, e = .returned (.string S) ∧ TokS S 10 ∧ 1 ≤ S.size ∧ w = w' := by
  obtain ⟨S, hS⟩ := str_ex (textL n)
  obtain ⟨g1, g2, g3⟩ := textL_tok n h0 h1
  refine (rtext_any n (by omega) (by omega) S (Lib.hid hS) w).mono fun e w' ⟨he, hw⟩ => ⟨S, he, ⟨?_, ?_⟩, ?_, hw⟩
  · rw [hS]; exact g1
  · rw [← len_list, hS]; exact g2
  · rw [← len_list, hS]; exact g3

set_option maxHeartbeats 800000 in
theorem d15_c (v : Int) (w : World) : Calls Tryz.prog 27 #[.int .i64 v] w fun e w' => ∃ S, e = .returned (.string S) ∧ TokS S 10 ∧ 1 ≤ S.size ∧ w = w' := by
  obtain ⟨k, hk, k0, k1⟩ : ∃ k, bits .and .i64 v 31 = k ∧ 0 ≤ k ∧ k ≤ 31 := ⟨_, rfl, by rw [Bits.and31]; omega, by rw [Bits.and31]; omega⟩
  go_enter Tryz.func27, Tryz.ntmps27
  go_wp2_with fail
  refine (dect_p _ (by omega) (by omega) _).mono ?_
  rintro e w' ⟨S, rfl, hS, hp, rfl⟩
  go_wp2_with fail
  go_ret
  exact ⟨S, rfl, hS, hp, rfl⟩
set_option maxHeartbeats 800000 in
theorem d13_c (v : Int) (w : World) : Calls Tryz.prog 61 #[.int .i64 v] w fun e w' => ∃ S, e = .returned (.string S) ∧ TokS S 10 ∧ 1 ≤ S.size ∧ w = w' := by
  obtain ⟨k, hk, k0, k1⟩ : ∃ k, bits .and .i64 v 63 = k ∧ 0 ≤ k ∧ k ≤ 63 := ⟨_, rfl, by rw [Bits.and63]; omega, by rw [Bits.and63]; omega⟩
  go_enter Tryz.func61, Tryz.ntmps61
  go_wp2_with fail
  refine (dect_p _ (by omega) (by omega) _).mono ?_
  rintro e w' ⟨S, rfl, hS, hp, rfl⟩
  go_wp2_with fail
  go_ret
  exact ⟨S, rfl, hS, hp, rfl⟩
set_option maxHeartbeats 800000 in
theorem p13_c (v : Int) (w : World) : Calls Tryz.prog 62 #[.int .i64 v] w fun e w' => ∃ S, e = .returned (.string S) ∧ TokS S 10 ∧ 1 ≤ S.size ∧ w = w' := by
  obtain ⟨k, hk, k0, k1⟩ : ∃ k, bits .and .i64 v 31 = k ∧ 0 ≤ k ∧ k ≤ 31 := ⟨_, rfl, by rw [Bits.and31]; omega, by rw [Bits.and31]; omega⟩
  go_enter Tryz.func62, Tryz.ntmps62
  go_wp2_with fail
  refine (dect_p _ (by omega) (by omega) _).mono ?_
  rintro e w' ⟨S, rfl, hS, hp, rfl⟩
  go_wp2_with fail
  go_ret
  exact ⟨S, rfl, hS, hp, rfl⟩

/-- The slice at p reads as the integers l. -/
def Zs (w : World) (p : Option Addr) (l : List Int) : Prop := 0 < l.length → ∃ b o, p = some ⟨b, o, none⟩ ∧ b < w.heap.size ∧ ∀ i (h : i < l.length), w.cell? ⟨b, o + i, none⟩ = some (.int .i64 l[i])
theorem Zs.below {w w' : World} {p : Option Addr} {l : List Int} (h : Zs w p l) (hb : Below w.heap.size w w') : Zs w' p l := by
  intro hl
  obtain ⟨b, o, rfl, hlt, hc⟩ := h hl
  exact ⟨b, o, rfl, Nat.lt_of_lt_of_le hlt hb.size, fun i hi => (hb.cell (p := ⟨b, o + i, none⟩) hlt).trans (hc i hi)⟩
set_option maxHeartbeats 1600000 in
theorem at_c (k : Nat) (hk : k ≤ 1000) (b : Nat) (p : Option Addr) (l : List Int) (c : Nat) (w : World) (hc : Hid (w.cell? ⟨b, 0, none⟩ = some (.slice p l.length c))) (hz : Hid (Zs w p l)) :
    Calls Tryz.prog 26 #[.int .i64 (k : Int), .pointer (some ⟨b, 0, none⟩)] w fun e w' => ∃ v, e = .returned (.int .i64 v) ∧ w = w' := by
  have c0 := hc.out
  by_cases hlt : k < l.length
  · obtain ⟨b2, o, rfl, _, hcc⟩ := hz.out (by omega)
    have x0 := hcc k hlt
    have hlti : (k : Int) < (l.length : Int) := by omega
    obtain ⟨v, hv⟩ : ∃ v, l[k] = v := ⟨_, rfl⟩
    rw [hv] at x0
    clear hcc hv
    go_enter Tryz.func26, Tryz.ntmps26
    go_wp2_with fail
    go_ret
    exact ⟨v, rfl, rfl⟩
  · have hlti : ¬ (k : Int) < (l.length : Int) := by omega
    go_enter Tryz.func26, Tryz.ntmps26
    go_wp2_with fail
    go_ret
    first | exact ⟨0, rfl, rfl⟩ | exact ⟨⟨0, rfl⟩, rfl⟩ | exact ⟨rfl, 0, rfl⟩
end Go.Proofs.YtglmofeeggjemaaGreatDoor.GW
