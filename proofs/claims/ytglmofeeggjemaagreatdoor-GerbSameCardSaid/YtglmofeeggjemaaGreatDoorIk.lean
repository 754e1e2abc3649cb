/-
  The walk of the statements' macro Lines.
-/
import Derived.Test.YtglmofeeggjemaaGreatDoorIj
import Derived.Test.YtglmofeeggjemaaGreatDoorIa
import Derived.Deep.AppendLies
import Derived.Deep.RegionHeld3
set_option linter.unusedVariables false
namespace Go.Proofs.YtglmofeeggjemaaGreatDoor.GW
open Go.RowKit Go.Proofs.YtglmofeeggjemaaGreatDoor.Base Go.Proofs.YtglmofeeggjemaaGreatDoor.Dp Go.Proofs.YtglmofeeggjemaaGreatDoor.DeciW Go.Proofs.YtglmofeeggjemaaGreatDoor.Mem Go.Proofs.YtglmofeeggjemaaGreatDoor.RdW Go.Proofs.YtglmofeeggjemaaGreatDoor.Gp

/-- What Lines returns. -/
def LinesOut (w : World) (e : Ending) (w' : World) : Prop := Below w.heap.size w w' ∧ ∃ p c ls, e = .returned (.slice p ls.length c) ∧ StrsIn w' p ls ∧ ls.length ≤ 12 ∧ ∀ s ∈ ls, (∀ c ∈ s, wc c = true) ∧ s ≠ [] ∧ s.length ≤ 200

theorem str_step {w wr w5 w4 : World} {pv : Option Addr} {cv gg cap2 : Nat} {ls : List (List UInt8)} {R : ByteArray} {o : Obj} (hx : wr.ownsRow w.heap.size 9 1 (.slice pv ls.length cv) ls.length (strVs ls)) (hB : Below w.heap.size w wr) (h5 : Below wr.heap.size wr.drew w5) (hg : (w5.alloc o).grownBy w4 (Value.ownBlock (.slice pv ls.length cv)))
    (ho : w4.ownsRow w.heap.size 9 1 (.slice (some ⟨gg, 0, none⟩) (ls.length + 1) cap2) (ls.length + 1) (strVs ls ++ [.string R])) : w4.ownsRow w.heap.size 9 1 (.slice (some ⟨gg, 0, none⟩) (ls.length + 1) cap2) (ls ++ [R.data.toList]).length (strVs (ls ++ [R.data.toList])) ∧ Below w.heap.size w w4 := by
  refine ⟨?_, ?_⟩
  · rw [show (ls ++ [R.data.toList]).length = ls.length + 1 by simp, show strVs (ls ++ [R.data.toList]) = strVs ls ++ [.string R] by simp [strVs]]
    exact ho
  · have h6 : Below w.heap.size w (w5.alloc o) := (hB.drew.trans (h5.mono hB.size)).alloc (Nat.le_trans hB.size h5.size) _
    exact h6.grown hg h6.size (fun k hk => (hx.lt _ hk).1)

set_option maxRecDepth 100000 in
set_option maxHeartbeats 3200000 in
theorem lines_c (p : Option Addr) (l : List Int) (c : Nat) (hl : l.length ≤ 100) (w : World) (hz : Hid (Zs w p l)) :
    Calls Tryz.prog 31 #[.slice p l.length c] w (LinesOut w) := by
  go_enter Tryz.func31, Tryz.ntmps31
  go_wp2_with fail
  go_loopw [3, 4] (fun u x wr => ∃ (k : Nat) (ls : List (List UInt8)), k ≤ 44 ∧ ls.length * 4 ≤ k ∧ x = .int .i64 (k : Int) ∧ Hid (wr.ownsRow w.heap.size 9 1 u ls.length (strVs ls)) ∧ Hid (Below w.heap.size w wr) ∧ Hid (∀ s ∈ ls, (∀ c ∈ s, wc c = true) ∧ s ≠ [] ∧ s.length ≤ 200)) (fun _ x _ => 44 - (intOf x).toNat)
  case atStart => exact ⟨0, [], by decide, by decide, rfl, World.ownsRow_nil _ _ _ _, Below.refl _ _, fun s hs => absurd hs (by simp)⟩
  case round =>
  obtain ⟨k, ls, hk, hlk, rfl, HX, HB, HS⟩ := hrel
  obtain ⟨pv, cv, rfl⟩ := row_form HX.out
  have HSI : Hid (StrsIn wr pv ls) := by
    obtain ⟨p9, c9, e9, h9⟩ := strs_row HX.out
    injection e9 with e1 _ _
    rw [e1]
    exact h9
  by_cases hlt : k + 3 < l.length
  · have hlti : (k : Int) + 3 < (l.length : Int) := by omega
    by_cases h40 : k < 40
    · have h40i : (k : Int) < 40 := by omega
      obtain ⟨b, o, rfl, hb, hc⟩ := hz.out (by omega)
      have cell : ∀ i (hi : i < l.length), wr.cell? ⟨b, o + i, none⟩ = some (.int .i64 l[i]) := fun i hi => (HB.out.cell (p := ⟨b, o + i, none⟩) hb).trans (hc i hi)
      obtain ⟨v0, hv0⟩ : ∃ v, l[k] = v := ⟨_, rfl⟩
      obtain ⟨v1, hv1⟩ : ∃ v, l[k + 1] = v := ⟨_, rfl⟩
      obtain ⟨v2, hv2⟩ : ∃ v, l[k + 2] = v := ⟨_, rfl⟩
      obtain ⟨v3, hv3⟩ : ∃ v, l[k + 3] = v := ⟨_, rfl⟩
      have x0 := cell k (by omega)
      have x1 := cell (k + 1) (by omega)
      have x2 := cell (k + 2) (by omega)
      have x3 := cell (k + 3) hlt
      rw [hv0] at x0
      rw [hv1] at x1
      rw [hv2] at x2
      rw [hv3] at x3
      have hlti1 : (k : Int) + 1 < (l.length : Int) := by omega
      have hlti2 : (k : Int) + 2 < (l.length : Int) := by omega
      have hlti0 : (k : Int) < (l.length : Int) := by omega
      have hw1 : IntKind.i64.wrap ((k : Int) + 1) = ((k + 1 : Nat) : Int) := by rw [IntKind.wrap_i64]; omega
      have hw2 : IntKind.i64.wrap ((k : Int) + 2) = ((k + 2 : Nat) : Int) := by rw [IntKind.wrap_i64]; omega
      have hw3 : IntKind.i64.wrap ((k : Int) + 3) = ((k + 3 : Nat) : Int) := by rw [IntKind.wrap_i64]; omega
      have ht1 : ((k : Int) + 1).toNat = k + 1 := by omega
      have hp1 : 0 ≤ (k : Int) + 1 := by omega
      have ht2 : ((k : Int) + 2).toNat = k + 2 := by omega
      have hp2 : 0 ≤ (k : Int) + 2 := by omega
      have ht3 : ((k : Int) + 3).toNat = k + 3 := by omega
      have hp3 : 0 ≤ (k : Int) + 3 := by omega
      have hn1 : k + 1 < l.length := by omega
      have hn2 : k + 2 < l.length := by omega
      have HXC := Lib.hid (And.intro x0 (And.intro x1 (And.intro x2 x3)))
      have HBW := Lib.hid hb
      clear hc cell hv0 hv1 hv2 hv3 x0 x1 x2 x3
      obtain ⟨i0, hi0, hz0, hz1, hz2⟩ := info_parts info_str
      have HI := Lib.hid (And.intro hi0 (And.intro hz0 (And.intro hz1 hz2)))
      clear hi0 hz0 hz1 hz2
      have KS : Hid (∀ x, Below w.heap.size w x → x.cell? ⟨b, o + k, none⟩ = some (.int .i64 v0) ∧ x.cell? ⟨b, o + (k + 1), none⟩ = some (.int .i64 v1) ∧ x.cell? ⟨b, o + (k + 2), none⟩ = some (.int .i64 v2) ∧ x.cell? ⟨b, o + (k + 3), none⟩ = some (.int .i64 v3) ∧ Below w.heap.size w x) := fun x h => by
        have key : ∀ i u, wr.cell? ⟨b, i, none⟩ = some u → x.cell? ⟨b, i, none⟩ = some u := fun i u hu => by
          rw [h.cell (p := ⟨b, i, none⟩) HBW.out, ← HB.out.cell (p := ⟨b, i, none⟩) HBW.out]; exact hu
        exact ⟨key _ _ HXC.out.1, key _ _ HXC.out.2.1, key _ _ HXC.out.2.2.1, key _ _ HXC.out.2.2.2, h⟩
      have KA : Hid (∀ v x, (v.cell? ⟨b, o + k, none⟩ = some (.int .i64 v0) ∧ v.cell? ⟨b, o + (k + 1), none⟩ = some (.int .i64 v1) ∧ v.cell? ⟨b, o + (k + 2), none⟩ = some (.int .i64 v2) ∧ v.cell? ⟨b, o + (k + 3), none⟩ = some (.int .i64 v3) ∧ Below w.heap.size w v) → Below v.heap.size v x → x.cell? ⟨b, o + k, none⟩ = some (.int .i64 v0) ∧ x.cell? ⟨b, o + (k + 1), none⟩ = some (.int .i64 v1) ∧ x.cell? ⟨b, o + (k + 2), none⟩ = some (.int .i64 v2) ∧ x.cell? ⟨b, o + (k + 3), none⟩ = some (.int .i64 v3) ∧ Below w.heap.size w x) := fun v x h hb => KS.out x (h.2.2.2.2.trans (hb.mono h.2.2.2.2.size))
      have KO : Hid (∀ v oo, (v.cell? ⟨b, o + k, none⟩ = some (.int .i64 v0) ∧ v.cell? ⟨b, o + (k + 1), none⟩ = some (.int .i64 v1) ∧ v.cell? ⟨b, o + (k + 2), none⟩ = some (.int .i64 v2) ∧ v.cell? ⟨b, o + (k + 3), none⟩ = some (.int .i64 v3) ∧ Below w.heap.size w v) → (v.alloc oo).cell? ⟨b, o + k, none⟩ = some (.int .i64 v0) ∧ (v.alloc oo).cell? ⟨b, o + (k + 1), none⟩ = some (.int .i64 v1) ∧ (v.alloc oo).cell? ⟨b, o + (k + 2), none⟩ = some (.int .i64 v2) ∧ (v.alloc oo).cell? ⟨b, o + (k + 3), none⟩ = some (.int .i64 v3) ∧ Below w.heap.size w (v.alloc oo)) := fun v oo h => KS.out _ (h.2.2.2.2.alloc h.2.2.2.2.size oo)
      go_upto_region 5 with fail
      go_region_held3 (fun x => x.cell? ⟨b, o + k, none⟩ = some (.int .i64 v0) ∧ x.cell? ⟨b, o + (k + 1), none⟩ = some (.int .i64 v1) ∧ x.cell? ⟨b, o + (k + 2), none⟩ = some (.int .i64 v2) ∧ x.cell? ⟨b, o + (k + 3), none⟩ = some (.int .i64 v3) ∧ Below w.heap.size w x) ((first | exact KS.out _ HB.out | exact KS.out _ HB.out.drew | exact KS.out _ HN.out.2 | exact KA.out _ _ (by assumption) (by assumption) | exact KO.out _ _ (by assumption))) (first | (go_at_call 51; refine (line13_c _ _ _ _ _).mono ?_; rintro e w5 ⟨⟨R, rfl, hR, hR1⟩, hb5⟩; have HR := Lib.hid (And.intro hR hR1); clear hR hR1) | (refine step_append_lies _ (by rfl) _ _ _ (by rfl) w.heap.size 9 i0 (.string ⟨#[]⟩) 1 16 Tryz.underlying43 HI.out.1 HI.out.2.1 HI.out.2.2.1 HI.out.2.2.2 rfl (by omega) (.slice pv ls.length cv) ls.length (strVs ls) (by rfl) ((row_below (w := wr.drew) HX.out (by assumption)).alloc _) ⟨_, 0, none⟩ 1 1 [.string R] (by rfl) (by rfl) (World.news_of_block (cs := #[.string R]) (t := 9) (fr := (0, 0)) (heap_alloc_new _ _)) (by simp [Value.oneCell']) (by omega) (by unfold maxLen; omega) (by omega) (by have h1 := HB.out.size; have h2 : wr.heap.size ≤ w5.heap.size := hb5.size; simp; omega) _ rfl ?_; intro gg cap2 w4 hown hgrow hat hltt; have HN := Lib.hid (str_step HX.out HB.out (by assumption) hgrow hown); clear hown hgrow hat hltt))
      all_goals
        go_wp2_with fail
        go_roundw
        case rel =>
          refine ⟨k + 4, ls ++ [R.data.toList], by omega, (by rw [List.length_append]; simp only [List.length_singleton]; omega), by go_num, HN.out.1, HN.out.2, fun s hs => ?_⟩
          rcases List.mem_append.1 hs with hs | hs
          · exact HS.out s hs
          · rw [List.mem_singleton.1 hs]
            refine ⟨HR.out.1.1, fun e => ?_, by rw [len_list]; exact HR.out.1.2⟩
            have h1 := HR.out.2
            rw [← len_list, e] at h1
            exact absurd h1 (by decide)
        case measure => simp [intOf] <;> omega
    · have h40i : ¬ (k : Int) < 40 := by omega
      go_wp2_with fail
      go_ret
      exact ⟨HB.out, pv, cv, ls, rfl, HSI.out, by omega, HS.out⟩
  · have hlti : ¬ (k : Int) + 3 < (l.length : Int) := by omega
    go_wp2_with fail
    go_ret
    exact ⟨HB.out, pv, cv, ls, rfl, HSI.out, by omega, HS.out⟩
end Go.Proofs.YtglmofeeggjemaaGreatDoor.GW
