/-
  The walk of exce's toolLine.
-/
import Derived.Test.YtecpmnkgikcpnaaDoorXwH
import Derived.Test.YtecpmnkgikcpnaaDoorDeciT
import Derived.Deep.RegionHeld3
namespace Go.Proofs.YtecpmnkgikcpnaaDoor.XW
open Go.RowKit Go.Proofs.YtecpmnkgikcpnaaDoor.Base Go.Proofs.YtecpmnkgikcpnaaDoor.Dp Go.Proofs.YtecpmnkgikcpnaaDoor.DeciW Go.Proofs.YtecpmnkgikcpnaaDoor.Xp

theorem itoa_b (n : Int) (h0 : -9223372036854775808 ≤ n) (h1 : n ≤ 9223372036854775807) (S : ByteArray) (hS : Hid (S.data.toList = Lib.itoa n)) (w : World) (hT : Tab w) :
    Calls Tryd.prog 48 #[.int .i64 n] w fun e w' => e = .returned (.string S) ∧ Below w.heap.size w w' := by
  refine (Tryd.strconv_Itoa n h0 h1 w hT).mono fun e w' ⟨he, k, os, hw⟩ => ⟨?_, ?_⟩
  · rw [he]; exact ret_str (by rw [hS.out])
  · rw [hw]; exact Lib.below_grow _ _ (Nat.le_refl _) _ _
theorem textL_len (n : Int) : (textL n).length ≤ 14 := by
  cases h : okN n with
  | true => exact text_length h
  | false => unfold textL; rw [h]; simp
/-- What is held while a tool's line is made. -/
abbrev TlP (w : World) (g b o : Nat) (n z : Int) (q : Value) (x : World) : Prop :=
  x.cell? ⟨g, 2, none⟩ = some (.int .i64 n) ∧ x.cell? ⟨g, 9, none⟩ = some q ∧ x.cell? ⟨b, o, none⟩ = some (.int .i64 z) ∧ Tab x ∧ Below w.heap.size w x ∧ g < x.heap.size ∧ b < x.heap.size ∧ w.heap.size ≤ x.heap.size
theorem tl_keep {w v x : World} {g b o : Nat} {n z : Int} {q : Value} (hx : Below v.heap.size v x) (h : TlP w g b o n z q v) : TlP w g b o n z q x := by
  obtain ⟨h1, h2, h3, h4, h5, h6, h7, h8⟩ := h
  exact ⟨(hx.cell h6).trans h1, (hx.cell h6).trans h2, (hx.cell h7).trans h3, h4.below hx, h5.trans (hx.mono h8), Nat.lt_of_lt_of_le h6 hx.size, Nat.lt_of_lt_of_le h7 hx.size, Nat.le_trans h8 hx.size⟩
theorem tl_drew {w x : World} {g b o : Nat} {n z : Int} {q : Value} (h : TlP w g b o n z q x) : TlP w g b o n z q x.drew := tl_keep (Below.refl _ _).drew h
theorem tl_tab {w x : World} {g b o : Nat} {n z : Int} {q : Value} (h : TlP w g b o n z q x) : Tab x := h.2.2.2.1

def toolL (n : Int) (l : List Int) : List UInt8 := match l with
  | [v] => 84 :: (intL n ++ 67 :: textL v)
  | _ => []

set_option maxRecDepth 100000 in
set_option maxHeartbeats 1600000 in
theorem tool1_c (k n z : Int) (on : Bool) (t x y u v : ByteArray) (a : Int) (b o c : Nat) (hn0 : -9223372036854775808 ≤ n) (hn1 : n ≤ 9223372036854775807) (hz0 : -9223372036854775808 ≤ z) (hz1 : z ≤ 9223372036854775807) (S : ByteArray) (hS : Hid (S.data.toList = toolL n [z])) (w : World) (hT : Tab w) (hb : w.cell? ⟨b, o, none⟩ = some (.int .i64 z)) (hbl : b < w.heap.size) :
    Calls Tryd.prog 47 #[.agg #[.int .i64 a, .int .i64 k, .int .i64 n, .bool on, .string t, .string x, .string y, .string u, .string v, .slice (some ⟨b, o, none⟩) 1 c]] w fun e w' => e = .returned (.string S) ∧ Below w.heap.size w w' := by
  obtain ⟨A, hA⟩ : ∃ A : ByteArray, A.data.toList = Lib.itoa n := ⟨⟨(Lib.itoa n).toArray⟩, rfl⟩
  obtain ⟨T, hTt⟩ : ∃ T : ByteArray, T.data.toList = textL z := ⟨⟨(textL z).toArray⟩, rfl⟩
  have hzA : A.size ≤ 21 := by rw [← len_list, hA]; exact Lib.itoa_length_le _ hn0 hn1
  have hzT : T.size ≤ 14 := by rw [← len_list, hTt]; exact textL_len z
  have hE : S = (⟨#[84]⟩ : ByteArray) ++ A ++ ⟨#[67]⟩ ++ T := str_eq (by rw [hS.out]; simp [toolL, intL, hA, hTt])
  subst hE
  have HA := Lib.hid hA
  have HTt := Lib.hid hTt
  have HT : Hid (TlP w w.heap.size b o n z (.slice (some ⟨b, o, none⟩) 1 c) (w.alloc (.cells #[.int .i64 a, .int .i64 k, .int .i64 n, .bool on, .string t, .string x, .string y, .string u, .string v, .slice (some ⟨b, o, none⟩) 1 c] 39))) := by
    have hB := (Below.refl w.heap.size w).alloc (Nat.le_refl _) (.cells #[.int .i64 a, .int .i64 k, .int .i64 n, .bool on, .string t, .string x, .string y, .string u, .string v, .slice (some ⟨b, o, none⟩) 1 c] 39)
    have hO := heap_alloc_new w (.cells #[.int .i64 a, .int .i64 k, .int .i64 n, .bool on, .string t, .string x, .string y, .string u, .string v, .slice (some ⟨b, o, none⟩) 1 c] 39)
    obtain ⟨⟨d0, d1, d2, d3, d4, d5, d6, d7, d8, d9⟩, _⟩ := dr_at hO
    exact ⟨d2, d9, (hB.cell hbl).trans hb, hT.below hB, hB, (Array.getElem?_eq_some_iff.1 hO).1, Nat.lt_of_lt_of_le hbl hB.size, hB.size⟩
  clear hA hTt hS hT hb hbl
  go_enter Tryd.func47, Tryd.ntmps47
  go_upto_region 1 with fail
  generalize w.alloc (.cells #[.int .i64 a, .int .i64 k, .int .i64 n, .bool on, .string t, .string x, .string y, .string u, .string v, .slice (some ⟨b, o, none⟩) 1 c] 39) = W1 at HT ⊢
  have f9 := HT.out.2.1
  go_wp2_with fail
  clear f9
  have s1 : ¬ 9223372036854775807 < 1 + A.size := by omega
  have s2 : ¬ 9223372036854775807 < 1 + A.size + 1 := by omega
  have s3 : ¬ 9223372036854775807 < 1 + A.size + 1 + T.size := by omega
  go_region_held3 (fun x => TlP w w.heap.size b o n z (.slice (some ⟨b, o, none⟩) 1 c) x) (first | exact HT.out | exact tl_drew HT.out | exact tl_keep (by assumption) (by assumption) | exact tl_drew (by assumption)) (first | (go_at_call 48; refine (itoa_b n hn0 hn1 A HA _ (tl_tab (by assumption))).mono ?_; rintro e w' ⟨rfl, hbw⟩) | (go_at_call 65; refine (text_any z hz0 hz1 T HTt _ (tl_tab (by assumption))).mono ?_; rintro e w' ⟨rfl, hbw⟩))
  rename_i hHeld
  have HH := Lib.hid hHeld
  clear hHeld
  go_wp2_with fail
  go_ret
  exact ⟨rfl, HH.out.2.2.2.2.1⟩
end Go.Proofs.YtecpmnkgikcpnaaDoor.XW
