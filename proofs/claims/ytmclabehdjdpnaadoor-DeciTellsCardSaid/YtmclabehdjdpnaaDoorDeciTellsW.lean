/-
  Proved: for every text and every number, deci's Ok, Parse and Text return what the document's own answer returns (heliographlaw2.DeciTells returns true). Conditions: the row's own (the package-level tables read as the program's text lays them, tied by the card).
-/
import Derived.Test.YtmclabehdjdpnaaDoorRefP
import Derived.Test.YtmclabehdjdpnaaDoorRefD
import Derived.Test.YtmclabehdjdpnaaDoorDeciA
import Derived.ProofKit
namespace Go.Proofs.YtmclabehdjdpnaaDoor.DeciTells
open Go.ChangeShapes Go.WideShapes Go.ChangeAt Go.WideMaps Go.WideElems Go.RowKit
open Go.ChangeMaps (open_string)
open Go.Proofs.YtmclabehdjdpnaaDoor.Dp Go.Proofs.YtmclabehdjdpnaaDoor.Base Go.Proofs.YtmclabehdjdpnaaDoor.DeciW

set_option maxRecDepth 100000 in
set_option maxHeartbeats 800000 in
theorem walk (s : ByteArray) (hs : s.size ≤ maxLen) (n : Int) (hn0 : -9223372036854775808 ≤ n) (hn1 : n ≤ 9223372036854775807) (w : World) (hT : Tab w) :
    Calls Tryd.prog 8 #[.string s, .int .i64 n] w fun e w' => e = .returned (.bool true) ∧ Below w.heap.size w w' := by
  have hs' : s.size ≤ 9223372036854775807 := hs
  have hsm : s.size ≤ maxLen := hs
  have HN0 := Lib.hid hn0
  have HN1 := Lib.hid hn1
  clear hn0 hn1 hs
  by_cases h100 : 100 < s.size
  · go_enter Tryd.func8, Tryd.ntmps8
    go_wp2_with fail
    with_reducible refine (awake_any _ hT).mono ?_
    rintro e w1 ⟨rfl, hb1⟩
    go_wp2_with fail
    go_ret
    exact ⟨rfl, hb1⟩
  · obtain ⟨v, hv⟩ : ∃ v, (dec s.data.toList).getD 0 = v := ⟨_, rfl⟩
    obtain ⟨b, hb⟩ : ∃ b, (dec s.data.toList).isSome = b := ⟨_, rfl⟩
    obtain ⟨c, hc⟩ : ∃ c, okN n = c := ⟨_, rfl⟩
    obtain ⟨S, hS⟩ := str_ex (textL n)
    have HS := Lib.hid hS
    have HV := Lib.hid hv
    have HB := Lib.hid hb
    have HC := Lib.hid hc
    clear hS hv hb hc
    go_enter Tryd.func8, Tryd.ntmps8
    go_wp2_with fail
    with_reducible refine (parse_any s _ hsm).mono ?_
    rintro e w' ⟨rfl, rfl⟩
    rw [HV.out, HB.out]
    go_wp2_with fail
    with_reducible refine (rdec_any s _ hs').mono ?_
    rintro e w' ⟨rfl, rfl⟩
    rw [HV.out, HB.out]
    go_wp2_with fail
    with_reducible refine (ok_any n _).mono ?_
    rintro e w' ⟨rfl, rfl⟩
    rw [HC.out]
    go_wp2_with fail
    with_reducible refine (rok_any n _).mono ?_
    rintro e w' ⟨rfl, rfl⟩
    rw [HC.out]
    go_wp2_with fail
    with_reducible refine (text_any n HN0.out HN1.out S HS _ hT).mono ?_
    rintro e w1 ⟨rfl, hb1⟩
    go_wp2_with fail
    with_reducible refine (rtext_any n HN0.out HN1.out S HS _).mono ?_
    rintro e w' ⟨rfl, rfl⟩
    go_wp2_with fail
    with_reducible refine (awake_any _ (hT.below hb1)).mono ?_
    rintro e w2 ⟨rfl, hb2⟩
    go_wp2_with fail
    go_ret
    exact ⟨rfl, hb1.trans (hb2.mono hb1.size)⟩
end Go.Proofs.YtmclabehdjdpnaaDoor.DeciTells
