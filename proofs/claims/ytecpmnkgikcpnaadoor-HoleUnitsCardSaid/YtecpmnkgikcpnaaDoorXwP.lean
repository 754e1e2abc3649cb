/-
  What the statements of the drill layer ask beside (awake): the reader and the writer at one text.
-/
import Derived.Test.YtecpmnkgikcpnaaDoorXwO
import Derived.Test.YtecpmnkgikcpnaaDoorXwF
import Derived.Test.YtecpmnkgikcpnaaDoorXc
set_option linter.unusedVariables false
namespace Go.Proofs.YtecpmnkgikcpnaaDoor.XW
open Go.RowKit Go.Proofs.YtecpmnkgikcpnaaDoor.Base Go.Proofs.YtecpmnkgikcpnaaDoor.Dp Go.Proofs.YtecpmnkgikcpnaaDoor.DeciW Go.Proofs.YtecpmnkgikcpnaaDoor.Xp

def t9 : List UInt8 := [77, 52, 56, 10, 77, 69, 84, 82, 73, 67, 44, 76, 90, 13, 10, 84, 49, 67, 48, 46, 56, 10, 37, 10, 84, 49, 10, 88, 49, 46, 53, 89, 45, 50, 10, 88, 49, 71, 56, 53, 89, 50, 10, 82, 51, 88, 49, 10, 77, 51, 48]
def l9 : List (Nat × D) := [(0, kd 2), (4, { kd 3 with n := 1 }), (15, { kd 4 with n := 1, nums := [800000] }), (22, kd 5), (24, { kd 6 with n := 1 }), (27, { kd 7 with x := [49, 46, 53], y := [45, 50] }), (35, { kd 8 with x := [49], v := [50] }), (43, { kd 12 with n := 3, x := [49] }), (48, kd 15)]
theorem p9 : parseX t9 = (l9, 0, 0) := by decide +kernel
def s9 : List UInt8 := (textX (l9.map Prod.snd)).getD []
def m9 : List (Nat × D) := (parseX s9).1
theorem x9 : (textX (l9.map Prod.snd)).getD [] = s9 ∧ (textX (l9.map Prod.snd)).isSome = true := ⟨rfl, by decide +kernel⟩
theorem p9b : parseX s9 = (m9, 0, 0) ∧ decide (l9.map Prod.snd = m9.map Prod.snd) = true := by decide +kernel
theorem q9 : parseX [77, 52, 56, 10, 81, 10] = ([], 4, 3) := by decide +kernel
theorem s9len : s9.length ≤ 200 ∧ m9.length ≤ 100 := by decide +kernel
theorem fits_okd {d : D} {n : Nat} (h : Okd d n) (hn : n ≤ 1000000000) : Fits d := by
  have f := h.fields.mono hn
  exact ⟨by have := h.n0; omega, by have := h.n1; omega, f.1, f.2.1, f.2.2.1, f.2.2.2.1, f.2.2.2.2, fun z hz => by have := h.z z hz; omega⟩
theorem fits9 : ∀ x ∈ l9, Fits x.2 := fun x hx => fits_okd ((parse_known p9).1 x hx) (by decide)
theorem nums9 : ∀ x ∈ l9, x.2.nums.length ≤ 1000000000 := fun x hx => Nat.le_trans ((parse_known p9).1 x hx).nums (by decide)

set_option maxRecDepth 100000 in
set_option maxHeartbeats 6400000 in
theorem awake_c (w : World) (hT : Hid (Tab w)) (hM : Hid (MaxIs w)) : Calls Tryd.prog 15 #[] w fun e w' => e = .returned (.bool true) ∧ Below w.heap.size w w' := by
  go_enter Tryd.func15, Tryd.ntmps15
  go_wp2_with fail
  refine (parse_c ⟨#[77, 52, 56, 10, 77, 69, 84, 82, 73, 67, 44, 76, 90, 13, 10, 84, 49, 67, 48, 46, 56, 10, 37, 10, 84, 49, 10, 88, 49, 46, 53, 89, 45, 50, 10, 88, 49, 71, 56, 53, 89, 50, 10, 82, 51, 88, 49, 10, 77, 51, 48]⟩ (by decide) w hM l9 0 0 (Lib.hid p9)).mono ?_
  rintro en w1 ⟨v, rfl, hp⟩
  obtain ⟨p, c, rfl, hd⟩ := hp.reads
  have HB1 := Lib.hid hp.bel
  have HD1 := Lib.hid hd
  have HT1 := Lib.hid (hT.out.below hp.bel)
  have HM1 := Lib.hid (hM.out.below hp.bel)
  clear hp hd
  rw [show l9.length = 9 from rfl]
  go_wp2_with fail
  obtain ⟨S9, hS9⟩ := str_ex s9
  refine (text_c w.heap.size p l9 c (by decide) (Lib.hid fits9) w1 HT1 HD1 S9 true (Lib.hid (by rw [hS9]; exact x9))).mono ?_
  rintro en w2 ⟨rfl, hb2⟩
  have HB2 := Lib.hid (HB1.out.trans (hb2.mono HB1.out.size))
  have HD2 := Lib.hid (HD1.out.below hb2)
  have HM2 := Lib.hid (HM1.out.below hb2)
  have hzS : S9.size ≤ 200 := by rw [← len_list, hS9]; exact s9len.1
  have HS9 := Lib.hid hS9
  clear hb2 hS9
  go_wp2_with fail
  refine (parse_c S9 (by unfold maxLen; omega) w2 HM2 m9 0 0 (Lib.hid (by rw [HS9.out]; exact p9b.1))).mono ?_
  rintro en w3 ⟨v3, rfl, hp⟩
  obtain ⟨p3, c3, rfl, hd⟩ := hp.reads
  have HB3 := Lib.hid (HB2.out.trans (hp.bel.mono HB2.out.size))
  have HD3 := Lib.hid (HD2.out.below hp.bel)
  have HE3 := Lib.hid hd
  have HM3 := Lib.hid (HM2.out.below hp.bel)
  clear hp hd
  obtain ⟨L, hL⟩ : ∃ L, m9.length = L := ⟨_, rfl⟩
  rw [hL]
  go_wp2_with fail
  refine (parse_c ⟨#[77, 52, 56, 10, 81, 10]⟩ (by decide) w3 HM3 [] 4 3 (Lib.hid q9)).mono ?_
  rintro en w4 ⟨v4, rfl, hp⟩
  have HB4 := Lib.hid (HB3.out.trans (hp.bel.mono HB3.out.size))
  have HD4 := Lib.hid (HD3.out.below hp.bel)
  have HE4 := Lib.hid (HE3.out.below hp.bel)
  clear hp
  obtain ⟨b, o, rfl, hlt, hc⟩ := HD4.out (by decide)
  obtain ⟨n2, d2, ⟨_, k2, _, _, _, _, _, _, _, j2⟩, hn2⟩ := hc 2 (by decide)
  obtain ⟨n5, d5, ⟨_, _, _, _, _, k5, _⟩, _⟩ := hc 5 (by decide)
  obtain ⟨n6, d6, ⟨_, k6, _, _, _, _, _, _, j6, _⟩, _⟩ := hc 6 (by decide)
  obtain ⟨n7, d7, ⟨_, _, k7, _⟩, _⟩ := hc 7 (by decide)
  obtain ⟨b2, o2, cs, rfl, _, hh, hcs⟩ := hn2 (by decide)
  have g2 : w4.cell? ⟨b2, o2, none⟩ = some (.int .i64 800000) := by
    have := hcs 0 (by decide)
    rw [Nat.add_zero] at this
    simp [World.cell?, hh, this]
    rfl
  have f2 : w4.cell? ⟨b, o + 20 + 1, none⟩ = some (.int .i64 4) := k2
  have f2n : w4.cell? ⟨b, o + 20 + 9, none⟩ = some (.slice (some ⟨b2, o2, none⟩) 1 d2) := j2
  have f5 : w4.cell? ⟨b, o + 50 + 5, none⟩ = some (.string ⟨#[49, 46, 53]⟩) := k5
  have f6 : w4.cell? ⟨b, o + 60 + 1, none⟩ = some (.int .i64 8) := k6
  have f6v : w4.cell? ⟨b, o + 60 + 8, none⟩ = some (.string ⟨#[50]⟩) := j6
  have f7 : w4.cell? ⟨b, o + 70 + 2, none⟩ = some (.int .i64 3) := k7
  clear hc hn2 k2 j2 k5 k6 j6 k7 hh hcs
  go_wp2_with fail
  rw [← hL]
  refine (Same_c w.heap.size w2.heap.size (some ⟨b, o, none⟩) p3 l9 m9 c c3 (by decide) (by have := s9len.2; omega) (Lib.hid nums9) w4 HD4 HE4 true (Lib.hid p9b.2)).mono ?_
  rintro en w5 ⟨rfl, hb5⟩
  have HB5 := Lib.hid (HB4.out.trans (hb5.mono HB4.out.size))
  clear hb5
  go_wp2_with fail
  go_ret
  exact ⟨rfl, HB5.out⟩
end Go.Proofs.YtecpmnkgikcpnaaDoor.XW
