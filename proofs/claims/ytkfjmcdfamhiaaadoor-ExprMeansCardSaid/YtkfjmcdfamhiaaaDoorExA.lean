/-
  The walk of the expression statements' awake.
-/
import Derived.Test.YtkfjmcdfamhiaaaDoorExP
import Derived.Test.YtkfjmcdfamhiaaaDoorEvalW
namespace Go.Proofs.YtkfjmcdfamhiaaaDoor.ExW
open Go.RowKit Go.Proofs.YtkfjmcdfamhiaaaDoor.Base Go.Proofs.YtkfjmcdfamhiaaaDoor.Dp Go.Proofs.YtkfjmcdfamhiaaaDoor.Ep Go.Proofs.YtkfjmcdfamhiaaaDoor.Fr Go.Proofs.YtkfjmcdfamhiaaaDoor.Tx Go.Proofs.YtkfjmcdfamhiaaaDoor.FrW Go.Proofs.YtkfjmcdfamhiaaaDoor.TxW Go.Proofs.YtkfjmcdfamhiaaaDoor.RdW

theorem eval_v (p q : Option Addr) (l vars : List (Int × Int)) (c b d : Nat) (hb : b = vars.length) (hl : l.length ≤ 300) (hv : vars.length ≤ 100) (w : World) (HL : Hid (PairsIn w p l)) (HV : Hid (PairsIn w q vars)) (r : Int × Int × Nat) (hr : Hid (evalV vars l = r)) :
    Calls Tryd.prog 8 #[.slice p l.length c, .slice q b d] w (RatOut r w) := by
  subst hb; exact eval_w p q l vars c d hl hv w HL HV r hr
set_option maxRecDepth 100000 in
set_option maxHeartbeats 1600000 in
theorem awake_any (w : World) (hT : Tab w) : Calls Tryd.prog 9 #[] w fun e w' => e = .returned (.bool true) ∧ Below w.heap.size w w' := by
  obtain ⟨L, hL⟩ : ∃ L, L = L9 := ⟨_, rfl⟩
  have HP : Hid (parseV (⟨#[36, 49, 120, 50, 45, 40, 51, 45, 46, 53, 41, 47, 52]⟩ : ByteArray).data.toList = (L, 0, 0)) := by show _ = _; rw [hL]; exact a_parse
  have HP2 : Hid (parseV (⟨#[49, 43]⟩ : ByteArray).data.toList = ([], 2, 3)) := a_parse2
  have HE : Hid (evalV [(5, 2)] L = (35, 8, 0)) := by show _ = _; rw [hL]; exact a_eval
  have HF : Hid (Fit L 0) := by show Fit _ _; rw [hL]; exact (back_text a_parse).1
  have HX : Hid (textOut (textV L) = (⟨#[36, 49, 120, 50, 45, 40, 51, 45, 48, 46, 53, 41, 47, 52]⟩, true)) := by show _ = _; rw [hL, a_text]; rfl
  have HM : Hid (makeV 1 0 = (0, 0, 10)) := by show _ = _; decide
  have hll : ((L.length : Int) == 9) = true := by rw [hL]; rfl
  have hl300 : L.length ≤ 300 := by rw [hL]; decide
  have HT := Lib.hid hT
  clear hL hT
  go_enter Tryd.func9, Tryd.ntmps9
  go_wp2_with fail
  with_reducible refine (parse_w _ (by decide) _ L 0 0 HP).mono ?_
  intro en w1 h1
  obtain ⟨p, c, rfl, hp1, hb1⟩ := parse_p h1
  have HP1 := Lib.hid hp1
  have HB1 := Lib.hid hb1
  clear h1 hp1 hb1
  go_wp2_with fail
  with_reducible refine (text_w p L c hl300 _ HP1 (Lib.hid (HT.out.below HB1.out)) HF _ true HX).mono ?_
  rintro en w2 ⟨rfl, hb2⟩
  have HB2 := Lib.hid (HB1.out.trans (hb2.mono HB1.out.size))
  have HPP : Hid (PairsIn (w2.alloc (ratObj 5 2)) p L) := (HP1.out.below hb2).below ((Below.refl _ _).alloc (Nat.le_refl _) _)
  clear hb2 HP1 HB1
  go_wp2_with fail
  refine (eval_v p _ L [(5, 2)] c 1 1 rfl hl300 (by decide) _ HPP (pairs_new w2 5 2 _) (35, 8, 0) HE).mono ?_
  rintro en w3 ⟨rfl, hb3⟩
  have HB3 : Hid (Below w.heap.size w w3) := (HB2.out.alloc HB2.out.size _).trans (hb3.mono (by have := HB2.out.size; simp; omega))
  have HC : Hid ((w3.alloc (ratObj 35 8)).heap[w3.heap.size]? = some (ratObj 35 8)) := heap_alloc_new w3 _
  have HB4 : Hid (Below w.heap.size w (w3.alloc (ratObj 35 8))) := HB3.out.alloc HB3.out.size _
  clear hb3 HB2 HPP
  go_upto_region 4 with fail
  obtain ⟨g, hg⟩ : ∃ g, w3.heap.size = g := ⟨_, rfl⟩
  rw [hg] at HC
  rw [hg]
  clear HB3 hg
  generalize w3.alloc (ratObj 35 8) = W3 at HC HB4 ⊢
  go_wp2_with fail
  with_reducible refine (make_c 1 0 (by decide) (by decide) (by decide) (by decide) (0, 0, 10) HM _).mono ?_
  rintro en w4 ⟨rfl, hb4⟩
  have hal : Below w4.heap.size w4 (w4.alloc (ratObj 0 0)) := (Below.refl _ _).alloc (Nat.le_refl _) _
  have HC4 : Hid ((w4.alloc (ratObj 0 0)).heap[g]? = some (ratObj 35 8)) := one_below (one_below HC.out hb4) hal
  have HB5 : Hid (Below w.heap.size w (w4.alloc (ratObj 0 0))) := (HB4.out.trans (hb4.mono HB4.out.size)).trans (hal.mono (HB4.out.trans (hb4.mono HB4.out.size)).size)
  clear hb4 HC HB4 hal
  go_upto_region 5 with fail
  generalize w4.alloc (ratObj 0 0) = W4 at HC4 HB5 ⊢
  go_wp2_with fail
  with_reducible refine (parse_w _ (by decide) _ [] 2 3 HP2).mono ?_
  intro en w5 h5
  obtain ⟨p5, c5, rfl, hp5, hb5⟩ := parse_p h5
  obtain ⟨⟨v0, v1⟩, _⟩ := rat_at (one_below HC4.out hb5)
  have HB6 := Lib.hid (HB5.out.trans (hb5.mono HB5.out.size))
  clear h5 hp5 hb5 HC4 HB5
  go_wp2_with fail
  go_ret
  exact ⟨rfl, HB6.out⟩
end Go.Proofs.YtkfjmcdfamhiaaaDoor.ExW
