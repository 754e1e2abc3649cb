/-
  Proved: for every string, slice of integers, place, byte and switch, exce.Parse reads what the document's own reader reads, wherever it refuses, and both lists are the same by both comparisons (heliographlaw19.ExceTells returns true). Conditions: the row's own (the package-level tables read as the program's text lays them out).
-/
import Derived.Test.YtecpmnkgikcpnaaGreatDoorXwP
import Derived.Test.YtecpmnkgikcpnaaGreatDoorXwQ
import Derived.Test.YtecpmnkgikcpnaaGreatDoorXyP
import Derived.Test.YtecpmnkgikcpnaaGreatDoorXyS
import Derived.Test.YtecpmnkgikcpnaaGreatDoorMem
import Derived.Test.YtecpmnkgikcpnaaGreatDoorBits
import Derived.ProofKit
set_option linter.unusedVariables false
namespace Go.Proofs.YtecpmnkgikcpnaaGreatDoor.ExceTells
open Go.ChangeShapes Go.WideShapes Go.ChangeAt Go.WideMaps Go.WideElems Go.RowKit
open Go.ChangeMaps (open_string)
open Go.Proofs.YtecpmnkgikcpnaaGreatDoor.Dp Go.Proofs.YtecpmnkgikcpnaaGreatDoor.Base Go.Proofs.YtecpmnkgikcpnaaGreatDoor.Xp Go.Proofs.YtecpmnkgikcpnaaGreatDoor.XW Go.Proofs.YtecpmnkgikcpnaaGreatDoor.YW

theorem xor8 (a b : Int) : ∃ x : UInt8, bits .xor .u8 a b = (x.toNat : Int) := by
  have h : 0 ≤ bits .xor .u8 a b ∧ bits .xor .u8 a b < 256 := by
    show 0 ≤ IntKind.u8.wrap _ ∧ IntKind.u8.wrap _ < 256
    rw [IntKind.wrap_u8]
    omega
  exact ⟨UInt8.ofNat (bits .xor .u8 a b).toNat, by rw [UInt8.toNat_ofNat', Nat.mod_eq_of_lt (by omega)]; omega⟩

set_option maxRecDepth 100000 in
set_option maxHeartbeats 32000000 in
theorem walk (S0 : ByteArray) (hs0 : S0.size ≤ maxLen) (lp : Option Addr) (lc : Nat) (l : List Int) (hl : l.length ≤ lc) (hlc : lc ≤ maxLen) (x2 : Int) (_h20 : -9223372036854775808 ≤ x2) (_h21 : x2 ≤ 9223372036854775807) (x3 : Int) (h30 : 0 ≤ x3) (h31 : x3 ≤ 255) (x4 : Bool) (w : World) (hL : Zs .i64 w lp l) (hT : Tab w) (hM : MaxIs w) :
    Calls Tryz.prog 3 #[.string S0, .slice lp l.length lc, .int .i64 x2, .int .u8 x3, .bool x4] w fun e w' => e = .returned (.bool true) ∧ Below w.heap.size w w' := by
  have HT := Lib.hid hT
  have HM := Lib.hid hM
  have HL := Lib.hid hL
  have hlH := Lib.hid hl
  have hlcH := Lib.hid hlc
  unfold maxLen at hs0
  clear hT hM hL hl hlc _h20 _h21 h30 h31
  by_cases h6 : (1000 : Int) < (S0.size : Int)
  · go_enter Tryz.func3, Tryz.ntmps3
    go_wp2_with fail
    refine (awake_c w HT HM).mono ?_
    rintro en w1 ⟨rfl, hb1⟩
    go_wp2_with fail
    go_ret
    exact ⟨rfl, hb1⟩
  · have h6n : S0.size ≤ 2800 := by omega
    go_enter Tryz.func3, Tryz.ntmps3
    go_upto_region 4 with fail
    go_loopw [0, 11] (fun s i wr => ∃ (S : ByteArray) (j : Nat), s = .string S ∧ S.size ≤ 2800 ∧ j ≤ 3 ∧ i = .int .i64 j ∧ Hid (Below w.heap.size w wr)) (fun _ i _ => 3 - (intOf i).toNat)
    case atStart => exact ⟨S0, 0, rfl, h6n, by omega, rfl, Below.refl _ _⟩
    case round =>
    obtain ⟨S, j, rfl, hS, hj, rfl, HB⟩ := hrel
    rename_i wr
    clear h6 h6n hs0
    by_cases hlt : (j : Int) < 3
    · obtain ⟨a, k, e, hp⟩ : ∃ a k e, parseX S.data.toList = (a, k, e) := ⟨_, _, _, rfl⟩
      have hSl : S.data.toList.length ≤ 2800 := by rw [len_list]; exact hS
      have HP := Lib.hid hp
      have HM1 := Lib.hid (HM.out.below HB.out)
      have hall := parse_all hp
      have han : a.length ≤ 10000000 := by omega
      have HNM : Hid (∀ x ∈ a, x.2.nums.length ≤ 1000000000) := fun x hx => Nat.le_trans (hall.1 x hx).nums (by decide)
      clear hall hp hSl
      go_wp2_with fail
      refine (parse_c S (by unfold maxLen; omega) wr HM1 a k e HP).mono ?_
      rintro en w1 ⟨v, rfl, hps⟩
      obtain ⟨p, c, rfl, hd⟩ := hps.reads
      have HB1 := Lib.hid (HB.out.trans (hps.bel.mono HB.out.size))
      have HD1 := Lib.hid hd
      clear hps hd
      go_wp2_with fail
      refine (rparse_c S (by unfold maxLen; omega) w1 a k e HP).mono ?_
      rintro en w2 ⟨v2, rfl, hps⟩
      obtain ⟨p2, c2, rfl, hd⟩ := hps.reads
      have HB2 := Lib.hid (HB1.out.trans (hps.bel.mono HB1.out.size))
      have HD2 := Lib.hid (HD1.out.below hps.bel)
      have HE2 := Lib.hid hd
      clear hps hd HD1
      go_wp2_with fail
      refine (sameR_c wr.heap.size w1.heap.size p p2 a a c c2 han han HNM w2 HD2 HE2 true (Lib.hid (decide_eq_true rfl))).mono ?_
      rintro en w3 ⟨rfl, hb3⟩
      have HB3 := Lib.hid (HB2.out.trans (hb3.mono HB2.out.size))
      have HD3 := Lib.hid (HD2.out.below hb3)
      have HE3 := Lib.hid (HE2.out.below hb3)
      clear hb3 HD2 HE2
      go_wp2_with fail
      refine (Same_c wr.heap.size w1.heap.size p p2 a a c c2 han han HNM w3 HD3 HE3 true (Lib.hid (decide_eq_true rfl))).mono ?_
      rintro en w4 ⟨rfl, hb4⟩
      have HB4 := Lib.hid (HB3.out.trans (hb4.mono HB3.out.size))
      have HD4 := Lib.hid (HD3.out.below hb4)
      have HE4 := Lib.hid (HE3.out.below hb4)
      clear hb4 HD3 HE3
      go_upto_region 11 with fail
      go_loopw [18] (fun i wx => ∃ x : Nat, x ≤ a.length ∧ i = .int .i64 x ∧ Hid (Below w4.heap.size w4 wx)) (fun i _ => a.length - (intOf i).toNat)
      case atStart => exact ⟨0, Nat.zero_le _, rfl, Below.refl _ _⟩
      case round =>
      obtain ⟨x, hx, rfl, HX⟩ := hrel
      by_cases hxl : x < a.length
      · have hxi : (x : Int) < (a.length : Int) := by omega
        obtain ⟨b1, o1, rfl, hb1, hc1⟩ := (HD4.out.below HX.out) (by omega)
        obtain ⟨b2, o2, rfl, hb2, hc2⟩ := (HE4.out.below HX.out) (by omega)
        obtain ⟨np, nc, ht1, _⟩ := hc1 x hxl
        obtain ⟨mp, mc, ht2, _⟩ := hc2 x hxl
        have s0 := ht1.1
        have t0 := ht2.1
        clear hc1 hc2 ht1 ht2
        go_upto_region 13 with fail
        go_quiet (fail)
        go_wp2_with fail
        go_round
        case rel => exact ⟨x + 1, by omega, by go_num, below_drewN HX.out _⟩
        case measure => simp [intOf] <;> omega
      · have hxi : ¬ (x : Int) < (a.length : Int) := by omega
        have HB5 := Lib.hid (HB4.out.trans (HX.out.mono HB4.out.size))
        clear HD4 HE4 HX hx
        obtain ⟨cap5, w5, hconv, hown, hb5, hzw⟩ := Mem.conv_bytes (P := Tryz.prog) wr 9 33 5 S Tryz.underlying9 Tryz.underlying33 Tryz.underlying5 (by unfold maxLen; omega)
        have HO6 := Lib.hid (hown.mono HB5.out.size)
        have HB6 := Lib.hid (HB5.out.trans (hb5.mono HB5.out.size))
        have HL6 := Lib.hid (HL.out.below HB6.out)
        obtain ⟨g5, hg5⟩ : ∃ g5, wr.heap.size = g5 := ⟨_, rfl⟩
        rw [hg5] at hconv HO6
        clear hown hb5 hzw hg5
        by_cases hj0 : j = 0
        · subst hj0
          go_wp2_with fail
          refine (file19_c lp l lc hlH.out hlcH.out x4 w5 HL6).mono ?_
          rintro en w6 ⟨⟨T, rfl, hT2⟩, hb6⟩
          have HB7 := Lib.hid (HB6.out.trans (hb6.mono HB6.out.size))
          obtain ⟨cap7, w7, hconv7, hown7, hb7, _⟩ := Mem.conv_bytes (P := Tryz.prog) w6 9 33 5 T Tryz.underlying9 Tryz.underlying33 Tryz.underlying5 (by unfold maxLen; omega)
          have HO7 := Lib.hid (hown7.mono HB7.out.size)
          have HB8 := Lib.hid (HB7.out.trans (hb7.mono HB7.out.size))
          clear hown7 hb7 hb6 HO6 HB6 HB7
          obtain ⟨g7, hg7⟩ : ∃ g7, w6.heap.size = g7 := ⟨_, rfl⟩
          rw [hg7] at hconv7 HO7
          have s7 := HO7.out.reads.str (P := Tryz.prog) 33 5 9 Tryz.underlying33 Tryz.underlying5 Tryz.underlying9 T.size cap7 (len_list T).symm
          obtain ⟨S7, hS7⟩ : ∃ S7, (⟨T.data.toList.toArray⟩ : ByteArray) = S7 := ⟨_, rfl⟩
          have hS7b : S7.size ≤ 2800 := by
            rw [← hS7]
            show T.data.toList.toArray.size ≤ 2800
            simpa using hT2
          rw [hS7] at s7
          clear hS7 HO7 HL6
          go_wp2_with fail
          go_round
          case rel => exact ⟨S7, 1, rfl, hS7b, by omega, by go_num, HB8.out⟩
          case measure => simp [intOf]
        · have hjn : ((j : Int) == 0) = false := by rw [beq_eq_false_iff_ne]; omega
          have hj3 : j < 3 := by omega
          by_cases hz : 0 < S.size
          · have hzi : (0 : Int) < (S.size : Int) := by omega
            obtain ⟨I, hI, hI16⟩ : ∃ I : Nat, bits .and .i64 x2 65535 = (I : Int) ∧ I < 65536 := ⟨(x2 % 65536).toNat, by rw [Bits.and65535]; omega, by omega⟩
            obtain ⟨J, hJ, hJN⟩ : ∃ J : Nat, (I : Int) % (S.size : Int) = (J : Int) ∧ J < S.size := ⟨I % S.size, by simp, Nat.mod_lt _ (by omega)⟩
            have hJL : J < S.data.toList.length := by rw [len_list]; exact hJN
            obtain ⟨Z, hZ⟩ : ∃ Z, bits .and .u8 x3 127 = Z := ⟨_, rfl⟩
            obtain ⟨Y, hY⟩ : ∃ Y, (S.data.toList[J].toNat : Int) = Y := ⟨_, rfl⟩
            obtain ⟨x, hx⟩ := xor8 Y Z
            have hc5 : w5.cell? ⟨g5, J, none⟩ = some (.int .u8 Y) := by rw [← hY]; have := HO6.out.reads.cell J hJL; rwa [Nat.zero_add] at this
            have hf5 : w5.frozen? ⟨g5, J, none⟩ = false := HO6.out.unfrozen J (by have := HO6.out.cap_le.1; omega)
            have HO7 := Lib.hid (HO6.out.set J x)
            have HB7 : Hid (Below w.heap.size w (w5.setCell ⟨g5, J, none⟩ (.int .u8 (x.toNat : Int)))) := HB6.out.setCell HO6.out.ge _
            have s7 := HO7.out.reads.str (P := Tryz.prog) 33 5 9 Tryz.underlying33 Tryz.underlying5 Tryz.underlying9 S.size cap5 (by rw [List.length_set]; exact (len_list S).symm)
            obtain ⟨S7, hS7⟩ : ∃ S7, (⟨(S.data.toList.set J x).toArray⟩ : ByteArray) = S7 := ⟨_, rfl⟩
            have hS7b : S7.size ≤ 2800 := by
              rw [← hS7]
              show (S.data.toList.set J x).toArray.size ≤ 2800
              simpa using hS
            rw [hS7] at s7
            clear hY hS7 HO7 HO6 HB6 HL6
            go_wp2_with fail
            go_round
            case rel => exact ⟨S7, j + 1, rfl, hS7b, by omega, by go_num, HB7.out⟩
            case measure => simp [intOf] <;> omega
          · have hzi : ¬ (0 : Int) < (S.size : Int) := by omega
            have s7 := HO6.out.reads.str (P := Tryz.prog) 33 5 9 Tryz.underlying33 Tryz.underlying5 Tryz.underlying9 S.size cap5 (len_list S).symm
            obtain ⟨S7, hS7⟩ : ∃ S7, (⟨S.data.toList.toArray⟩ : ByteArray) = S7 := ⟨_, rfl⟩
            have hS7b : S7.size ≤ 2800 := by
              rw [← hS7]
              show S.data.toList.toArray.size ≤ 2800
              simpa using hS
            rw [hS7] at s7
            clear hS7 HO6 HL6
            go_wp2_with fail
            go_round
            case rel => exact ⟨S7, j + 1, rfl, hS7b, by omega, by go_num, HB6.out⟩
            case measure => simp [intOf] <;> omega
    · go_wp2_with fail
      refine (awake_c wr (Lib.hid (HT.out.below HB.out)) (Lib.hid (HM.out.below HB.out))).mono ?_
      rintro en w1 ⟨rfl, hb1⟩
      go_wp2_with fail
      go_ret
      exact ⟨rfl, HB.out.trans (hb1.mono HB.out.size)⟩
end Go.Proofs.YtecpmnkgikcpnaaGreatDoor.ExceTells
