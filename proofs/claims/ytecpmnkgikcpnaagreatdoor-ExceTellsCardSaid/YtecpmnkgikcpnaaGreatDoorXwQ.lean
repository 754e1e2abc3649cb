/-
  The walk of File of the drill layer's statements: some text of at most 2600 bytes; slices of integers in memory.
-/
import Derived.Test.YtecpmnkgikcpnaaGreatDoorXwL
import Derived.Deep.RegionHeld3
import Derived.ProofKit
set_option linter.unusedVariables false
namespace Go.Proofs.YtecpmnkgikcpnaaGreatDoor.XW
open Go.ChangeShapes Go.WideShapes Go.ChangeAt Go.RowKit Go.Proofs.YtecpmnkgikcpnaaGreatDoor.Base Go.Proofs.YtecpmnkgikcpnaaGreatDoor.Dp Go.Proofs.YtecpmnkgikcpnaaGreatDoor.DeciW Go.Proofs.YtecpmnkgikcpnaaGreatDoor.Xp

/-- The slice at p reads as the integers l. -/
def Zs (k : IntKind) (w : World) (p : Option Addr) (l : List Int) : Prop := 0 < l.length → ∃ b o, p = some ⟨b, o, none⟩ ∧ b < w.heap.size ∧ ∀ i (h : i < l.length), w.cell? ⟨b, o + i, none⟩ = some (.int k l[i])
theorem Zs.below {k : IntKind} {w w' : World} {p : Option Addr} {l : List Int} (h : Zs k w p l) (hb : Below w.heap.size w w') : Zs k w' p l := by
  intro hl
  obtain ⟨b, o, rfl, hlt, hc⟩ := h hl
  exact ⟨b, o, rfl, Nat.lt_of_lt_of_le hlt hb.size, fun i hi => (hb.cell (p := ⟨b, o + i, none⟩) hlt).trans (hc i hi)⟩
theorem cell_lt {w : World} {a : Addr} {u : Value} (h : w.cell? a = some u) : a.block < w.heap.size := by
  rcases Nat.lt_or_ge a.block w.heap.size with h' | h'
  · exact h'
  · simp [World.cell?, Array.getElem?_eq_none h'] at h
theorem open_zs {H : Type} {enc : TypeId × Value → H} {P : Program} {r : Reach} {b0 : Nat} {t e : TypeId} {k : IntKind} (ht : P.underlying t = some (.slice e)) (he : P.underlying e = some (.int k)) (hc : P.cellsOf e = 1) {W : World} {v : Value} {d : DataW H} {p : List MemPlace}
    (hv : Value.okWide P W r b0 t v) (h : DataW.Trod enc P W 0 (fun _ => true) true t v d p) :
    ∃ (a : Option Addr) (cap : Nat) (l : List Int), v = .slice a l.length cap ∧ l.length ≤ cap ∧ cap ≤ maxLen ∧ Zs k W a l := by
  obtain ⟨a, len, cap, rfl⟩ := okWide_slice ht hv
  obtain ⟨fuel, hf⟩ := h
  have hcl : (Value.slice a len cap).cells.toList = [.slice a len cap] := by simp [Value.cells]
  rw [hcl] at hf
  rcases open_ints ht he hc hf with ⟨hcs, _⟩ | ⟨a', len', cap', zs, hcs, _, hl, hm, hz, _, hcell, hwz⟩
  · simp only [List.cons.injEq, and_true] at hcs
    exact ⟨none, 0, [], hcs, Nat.le_refl _, Nat.zero_le _, fun h => absurd h (Nat.lt_irrefl _)⟩
  · simp only [List.cons.injEq, and_true] at hcs
    simp only [if_true] at hz
    have hlen : (zs.take len').length = len' := by simp; omega
    refine ⟨some a', cap', zs.take len', by rw [hlen]; exact hcs, by omega, hm, fun h0 => ?_⟩
    have hci : ∀ i (h : i < (zs.take len').length), W.cell? (a'.add i) = some (.int k (zs.take len')[i]) := by
      intro i h
      rw [hcell i (by omega)]
      have : i < zs.length := by omega
      simp [List.getD, this]
    obtain ⟨b, o, q⟩ := a'
    cases q with
    | none => exact ⟨b, o, rfl, by have := cell_lt (hci 0 h0); simpa [Addr.add] using this, fun i h => by
        have := hci i h
        by_cases h0 : i = 0
        · subst h0; simpa [Addr.add] using this
        · simpa [Addr.add, h0] using this⟩
    | some q => 
      exfalso
      have := hci 0 h0
      simp only [World.cell?, Addr.add, if_true] at this
      split at this <;> simp at this

/-- What is held while a line is made. -/
abbrev FlP (w : World) (b : Nat) (i0 i1 i2 i3 i4 : Nat) (z0 z1 z2 z3 z4 : Int) (x : World) : Prop :=
  x.cell? ⟨b, i0, none⟩ = some (.int .i64 z0) ∧ x.cell? ⟨b, i1, none⟩ = some (.int .i64 z1) ∧ x.cell? ⟨b, i2, none⟩ = some (.int .i64 z2) ∧ x.cell? ⟨b, i3, none⟩ = some (.int .i64 z3) ∧ x.cell? ⟨b, i4, none⟩ = some (.int .i64 z4) ∧ Below w.heap.size w x ∧ b < w.heap.size
theorem fl_keep {w v x : World} {b i0 i1 i2 i3 i4 : Nat} {z0 z1 z2 z3 z4 : Int} (hx : Below v.heap.size v x) (h : FlP w b i0 i1 i2 i3 i4 z0 z1 z2 z3 z4 v) : FlP w b i0 i1 i2 i3 i4 z0 z1 z2 z3 z4 x := by
  obtain ⟨h0, h1, h2, h3, h4, hb, hlt⟩ := h
  have hl : b < v.heap.size := Nat.lt_of_lt_of_le hlt hb.size
  exact ⟨(hx.cell (p := ⟨b, i0, none⟩) hl).trans h0, (hx.cell (p := ⟨b, i1, none⟩) hl).trans h1, (hx.cell (p := ⟨b, i2, none⟩) hl).trans h2, (hx.cell (p := ⟨b, i3, none⟩) hl).trans h3, (hx.cell (p := ⟨b, i4, none⟩) hl).trans h4, hb.trans (hx.mono hb.size), hlt⟩
theorem fl_drew {w x : World} {b i0 i1 i2 i3 i4 : Nat} {z0 z1 z2 z3 z4 : Int} (h : FlP w b i0 i1 i2 i3 i4 z0 z1 z2 z3 z4 x) : FlP w b i0 i1 i2 i3 i4 z0 z1 z2 z3 z4 x.drew := fl_keep (Below.refl _ _).drew h

set_option maxRecDepth 100000 in
set_option maxHeartbeats 6400000 in
theorem file19_c (p : Option Addr) (l : List Int) (c : Nat) (hl : l.length ≤ c) (hc : c ≤ maxLen) (whole : Bool) (w : World) (H : Hid (Zs .i64 w p l)) :
    Calls Tryz.prog 9 #[.slice p l.length c, .bool whole] w fun e w' => (∃ S : ByteArray, e = .returned (.string S) ∧ S.size ≤ 2800) ∧ Below w.heap.size w w' := by
  unfold maxLen at hc
  have hl2 : l.length ≤ 9223372036854775807 := by omega
  clear hl hc
  obtain ⟨i, hi, hi2⟩ : ∃ i : Nat, bits .and .i64 (l.length : Int) 3 = (i : Int) ∧ i ≤ 3 := ⟨((l.length : Int) % 4).toNat, by rw [Bits.and3]; omega, by omega⟩
  go_enter Tryz.func9, Tryz.ntmps9
  go_upto_if 7 with fail
  go_cut [5] (fun s wx => ∃ S : ByteArray, s = .string S ∧ S.size ≤ 60 ∧ Hid (Below w.heap.size w wx))
  case first =>
    cases whole with
    | false =>
      go_wp2_with fail
      go_meet
      exact ⟨_, rfl, by decide, Below.refl _ _⟩
    | true =>
      have hi3 : i = 0 ∨ i = 1 ∨ i = 2 ∨ i = 3 := by omega
      rcases hi3 with rfl | rfl | rfl | rfl
      all_goals
        go_wp2_with fail
        go_meet
        exact ⟨_, rfl, by decide, (Below.refl _ _).alloc (Nat.le_refl _) _⟩
  case rest =>
  obtain ⟨S0, rfl, hS0, HB0⟩ := hcut
  rename_i w0
  clear hi
  go_upto_region 5 with fail
  go_loopw [5, 6] (fun s i wr => ∃ (S : ByteArray) (I : Nat), s = .string S ∧ S.size ≤ 60 + 13 * I ∧ I ≤ 204 ∧ i = .int .i64 I ∧ Hid (Below w.heap.size w wr)) (fun _ i _ => 204 - (intOf i).toNat)
  case atStart => exact ⟨S0, 0, rfl, by omega, by omega, rfl, HB0.out⟩
  case round =>
  obtain ⟨S, I, rfl, hS, hI, rfl, HB⟩ := hrel
  rename_i wr
  obtain ⟨I1, hI1⟩ : ∃ I1 : Nat, (I : Int) + 1 = I1 := ⟨I + 1, by omega⟩
  obtain ⟨I2, hI2⟩ : ∃ I2 : Nat, (I : Int) + 2 = I2 := ⟨I + 2, by omega⟩
  obtain ⟨I3, hI3⟩ : ∃ I3 : Nat, (I : Int) + 3 = I3 := ⟨I + 3, by omega⟩
  obtain ⟨I4, hI4⟩ : ∃ I4 : Nat, (I : Int) + 4 = I4 := ⟨I + 4, by omega⟩
  obtain ⟨I5, hI5⟩ : ∃ I5 : Nat, (I : Int) + 5 = I5 := ⟨I + 5, by omega⟩
  have hw1 : IntKind.i64.wrap (I1 : Int) = (I1 : Int) := by rw [IntKind.wrap_i64]; omega
  have hw2 : IntKind.i64.wrap (I2 : Int) = (I2 : Int) := by rw [IntKind.wrap_i64]; omega
  have hw3 : IntKind.i64.wrap (I3 : Int) = (I3 : Int) := by rw [IntKind.wrap_i64]; omega
  have hw4 : IntKind.i64.wrap (I4 : Int) = (I4 : Int) := by rw [IntKind.wrap_i64]; omega
  by_cases h4 : (I4 : Int) < (l.length : Int)
  · by_cases h200 : (I : Int) < 200
    · have h0 : (I : Int) < (l.length : Int) := by omega
      have h1 : (I1 : Int) < (l.length : Int) := by omega
      have h2 : (I2 : Int) < (l.length : Int) := by omega
      have h3 : (I3 : Int) < (l.length : Int) := by omega
      obtain ⟨b, o, rfl, hb, hcell⟩ := (H.out.below HB.out) (by omega)
      have hb0 : b < wr.heap.size := hb
      obtain ⟨z0, hz0⟩ : ∃ z, l[I]'(by omega) = z := ⟨_, rfl⟩
      obtain ⟨z1, hz1⟩ : ∃ z, l[I1]'(by omega) = z := ⟨_, rfl⟩
      obtain ⟨z2, hz2⟩ : ∃ z, l[I2]'(by omega) = z := ⟨_, rfl⟩
      obtain ⟨z3, hz3⟩ : ∃ z, l[I3]'(by omega) = z := ⟨_, rfl⟩
      obtain ⟨z4, hz4⟩ : ∃ z, l[I4]'(by omega) = z := ⟨_, rfl⟩
      have c0 := hcell I (by omega)
      have c1 := hcell I1 (by omega)
      have c2 := hcell I2 (by omega)
      have c3 := hcell I3 (by omega)
      have c4 := hcell I4 (by omega)
      rw [hz0] at c0
      rw [hz1] at c1
      rw [hz2] at c2
      rw [hz3] at c3
      rw [hz4] at c4
      have HP : Hid (FlP wr b (o + I) (o + I1) (o + I2) (o + I3) (o + I4) z0 z1 z2 z3 z4 wr) := ⟨c0, c1, c2, c3, c4, Below.refl _ _, hb0⟩
      obtain ⟨T, hT⟩ := str_ex (line19L z0 z1 z2 z3 z4)
      have zT : T.size ≤ 60 := by rw [← len_list, hT]; exact line19L_len _ _ _ _ _
      have HT := Lib.hid hT
      have s1 : ¬ 9223372036854775807 < S.size + T.size := by omega
      have s2 : ¬ 9223372036854775807 < S.size + T.size + 1 := by omega
      clear hcell hz0 hz1 hz2 hz3 hz4 hT c0 c1 c2 c3 c4 hb
      go_upto_region 7 with fail
      go_region_held3 (fun Z => FlP wr b (o + I) (o + I1) (o + I2) (o + I3) (o + I4) z0 z1 z2 z3 z4 Z) (first | exact HP.out | exact fl_drew HP.out | exact fl_keep (by assumption) (by assumption) | exact fl_drew (by assumption)) (first | (go_at_call 20; refine (line19_c z0 z1 z2 z3 z4 T HT _).mono ?_; rintro e w' ⟨rfl, hbw⟩))
      rename_i hHeld
      have HH := Lib.hid hHeld
      clear hHeld
      go_wp2_with fail
      go_round <;> first | exact ⟨_, I5, rfl, by simp only [ByteArray.size_append]; show S.size + T.size + 1 ≤ _; omega, by omega, by go_num, HB.out.trans (HH.out.2.2.2.2.2.1.mono HB.out.size)⟩ | (simp [intOf] <;> omega)
    · cases whole with
      | true =>
        have s3 : ¬ 9223372036854775807 < S.size + 4 := by omega
        go_wp2_with fail
        go_ret
        exact ⟨⟨_, rfl, by rw [ByteArray.size_append]; show S.size + 4 ≤ _; omega⟩, HB.out⟩
      | false =>
        go_wp2_with fail
        go_ret
        exact ⟨⟨_, rfl, by omega⟩, HB.out⟩
  · cases whole with
    | true =>
      have s3 : ¬ 9223372036854775807 < S.size + 4 := by omega
      go_wp2_with fail
      go_ret
      exact ⟨⟨_, rfl, by rw [ByteArray.size_append]; show S.size + 4 ≤ _; omega⟩, HB.out⟩
    | false =>
      go_wp2_with fail
      go_ret
      exact ⟨⟨_, rfl, by omega⟩, HB.out⟩
end Go.Proofs.YtecpmnkgikcpnaaGreatDoor.XW
