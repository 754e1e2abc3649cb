/-
  The walk of word.Words.
-/
import Derived.Test.YtglmofeeggjemaaGreatDoorGc
set_option linter.unusedVariables false
namespace Go.Proofs.YtglmofeeggjemaaGreatDoor.GW
open Go.RowKit Go.Proofs.YtglmofeeggjemaaGreatDoor.Base Go.Proofs.YtglmofeeggjemaaGreatDoor.Dp Go.Proofs.YtglmofeeggjemaaGreatDoor.DeciW Go.Proofs.YtglmofeeggjemaaGreatDoor.Mem Go.Proofs.YtglmofeeggjemaaGreatDoor.RdW Go.Proofs.YtglmofeeggjemaaGreatDoor.Gp

/-- What Words returns. -/
def WordsOut (ws : List Wd) (i e : Nat) (w : World) (en : Ending) (w' : World) : Prop :=
  ∃ v, en = .returned (.tuple #[v, .int .i64 (i : Int), .int .i64 (e : Int)]) ∧ w'.ownsRow w.heap.size 39 4 v ws.length (wdsV ws) ∧ Below w.heap.size w w'
theorem words_nil (w : World) (B : Nat) : w.ownsRow B 39 4 (.slice none 0 0) ([] : List Wd).length (wdsV []) := ⟨rfl, .inl ⟨rfl, rfl⟩⟩
def after (k : Nat) (r : List UInt8) : Except Nat Ws → Except (Nat × Nat) Ws
  | .error e => .error (k, e)
  | .ok s' => goW r (k + 1) s'
theorem goW_at {l : List UInt8} {k : Nat} (h : k < l.length) (s : Ws) : goW (l.drop k) k s = after k (l.drop (k + 1)) (takeW s l[k] k) := by
  rw [List.drop_eq_getElem_cons h]
  unfold after
  rfl
theorem takeW_er {s : Ws} {c : UInt8} {i e : Nat} (h : takeW s c i = .error e) : 0 < e := by
  unfold takeW endW addW at h
  repeat' split at h
  all_goals first | (injection h with h; omega) | cases h
theorem rw_new (w : World) : Rw w.heap.size w.heap.size (.slice none 0 0) (.slice none 0 0) ws0 (w.alloc (wrObj (.slice none 0 0) (.slice none 0 0) 0 false 0)) :=
  ⟨Nat.le_refl _, heap_alloc_new w _, ⟨rfl, .inl ⟨rfl, rfl⟩⟩, ⟨rfl, .inl ⟨rfl, rfl⟩⟩⟩
theorem wf0 : Wf ws0 := ⟨by decide, fun h => absurd rfl h, by decide, Nat.le_refl _⟩

set_option maxRecDepth 100000 in
set_option maxHeartbeats 3200000 in
theorem words_c (S : ByteArray) (hm : S.size ≤ maxLen) (w : World) (ws : List Wd) (i e : Nat) (hw : Hid (wordsV S.data.toList = (ws, i, e))) :
    Calls Tryz.prog 10 #[.string S] w (WordsOut ws i e w) := by
  unfold maxLen at hm
  have hlen : S.data.toList.length = S.size := len_list S
  have hx := hw.out
  unfold wordsV at hx
  by_cases hbig : 1000000 < (S.size : Int)
  · rw [if_pos (by omega)] at hx
    simp only [Prod.mk.injEq] at hx
    obtain ⟨rfl, rfl, rfl⟩ := hx
    clear hlen
    go_enter Tryz.func10, Tryz.ntmps10
    go_wp2_with fail
    go_ret3
    exact ⟨_, rfl, words_nil w _, Below.refl _ _⟩
  · rw [if_neg (by omega)] at hx
    have HX := Lib.hid hx
    have hS : S.size ≤ 1000000 := by omega
    have HR : Hid (Rw w.heap.size w.heap.size (.slice none 0 0) (.slice none 0 0) ws0 (w.alloc (wrObj (.slice none 0 0) (.slice none 0 0) 0 false 0))) := rw_new w
    have HB : Hid (Below w.heap.size w (w.alloc (wrObj (.slice none 0 0) (.slice none 0 0) 0 false 0))) := (Below.refl _ _).alloc (Nat.le_refl _) _
    clear hx hlen hw
    go_enter Tryz.func10, Tryz.ntmps10
    go_wp2_with fail
    go_loopw [6] (fun x wr => ∃ (k : Nat) (s : Ws) (vw vt : Value), k ≤ S.size ∧ Hid (Wf s ∧ Rw w.heap.size w.heap.size vw vt s wr ∧ Below w.heap.size w wr ∧ goW (S.data.toList.drop k) k s = goW S.data.toList 0 ws0) ∧ x = .int .i64 (k : Int)) (fun x _ => S.size - (intOf x).toNat)
    case atStart => exact ⟨0, ws0, _, _, Nat.zero_le _, ⟨wf0, HR.out, HB.out, rfl⟩, rfl⟩
    case round =>
    obtain ⟨k, s, vw, vt, hk, H, rfl⟩ := hrel
    by_cases hlt : k < S.size
    · have hkl : k < S.data.toList.length := by rw [len_list]; exact hlt
      obtain ⟨x, hxx⟩ : ∃ x, (S[k].toNat : Int) = x := ⟨_, rfl⟩
      have HXX := Lib.hid hxx
      obtain ⟨res, hres⟩ : ∃ res, takeW s S[k] k = res := ⟨_, rfl⟩
      have HRES := Lib.hid hres
      have hgo : goW S.data.toList 0 ws0 = after k (S.data.toList.drop (k + 1)) res := by
        rw [← H.out.2.2.2, goW_at hkl, getl S k hlt, hres]
      have HGO := Lib.hid hgo
      have hlti : (k : Int) < (S.size : Int) := by omega
      clear hgo hres
      go_wp2_with fail
      with_reducible refine (take_c w.heap.size w.heap.size s vw vt _ H.out.2.2.1.size (Lib.hid H.out.2.1) H.out.1 S[k] x HXX k (by omega) res HRES).mono ?_
      rintro en w2 ⟨hb, hr⟩
      cases res with
      | error ec =>
        obtain rfl := hr
        have hec := takeW_er HRES.out
        have hx2 := HX.out
        rw [HGO.out] at hx2
        simp only [after, Prod.mk.injEq] at hx2
        obtain ⟨rfl, rfl, rfl⟩ := hx2
        have HB2 := Lib.hid (H.out.2.2.1.trans hb)
        have hne : ((ec : Int) == 0) = false := by simp; omega
        have hne2 : ((ec : Int) != 0) = true := by simp; omega
        clear hb hec
        go_wp2_with fail
        go_ret3
        exact ⟨_, rfl, words_nil _ _, HB2.out⟩
      | ok s' =>
        obtain ⟨rfl, hwf, vw', vt', hrw⟩ := hr
        have HN : Hid (Wf s' ∧ Rw w.heap.size w.heap.size vw' vt' s' w2 ∧ Below w.heap.size w w2 ∧ goW (S.data.toList.drop (k + 1)) (k + 1) s' = goW S.data.toList 0 ws0) := ⟨hwf, hrw, H.out.2.2.1.trans hb, HGO.out.symm⟩
        clear hb hwf hrw
        go_wp2_with fail
        go_round <;> first | exact ⟨k + 1, s', vw', vt', by omega, HN.out, by go_num⟩ | (simp [intOf] <;> omega)
    · have hk2 : k = S.size := by omega
      have hgo : goW S.data.toList 0 ws0 = .ok s := by
        rw [← H.out.2.2.2, List.drop_eq_nil_of_le (by rw [len_list]; omega)]
        rfl
      have hx2 := HX.out
      rw [hgo] at hx2
      obtain ⟨c0, c1, c2, c3, c4⟩ := H.out.2.1.cells
      obtain ⟨p, cap, rfl, hrd, hln⟩ := row_reads H.out.2.1.tx
      obtain ⟨pw, capw, rfl⟩ := row_form H.out.2.1.ws
      have hlti : ¬ ((k : Int) < (S.size : Int)) := by omega
      clear hrd hln hgo
      by_cases hbad : s.text ≠ [] ∨ s.group = true
      · simp only [] at hx2
        rw [if_pos hbad, len_list] at hx2
        simp only [Prod.mk.injEq] at hx2
        obtain ⟨rfl, rfl, rfl⟩ := hx2
        have HE : Hid (Below w.heap.size w wr) := H.out.2.2.1
        by_cases ht : s.text.length = 0
        · have hg : s.group = true := hbad.resolve_left (fun h => h (List.eq_nil_of_length_eq_zero ht))
          rw [hg] at c3
          rw [ht] at c1
          clear hbad hg ht
          go_wp2_with fail
          go_ret3
          exact ⟨_, rfl, words_nil _ _, HE.out⟩
        · have hpos : 0 < s.text.length := by omega
          clear hbad ht
          go_wp2_with fail
          go_ret3
          exact ⟨_, rfl, words_nil _ _, HE.out⟩
      · simp only [] at hx2
        rw [if_neg hbad] at hx2
        simp only [Prod.mk.injEq] at hx2
        obtain ⟨rfl, rfl, rfl⟩ := hx2
        have ht : s.text.length = 0 := by
          rw [List.length_eq_zero_iff]
          exact Classical.byContradiction fun h => hbad (.inl h)
        have hg : s.group = false := Bool.eq_false_iff.2 fun h => hbad (.inr h)
        rw [hg] at c3
        rw [ht] at c1
        clear hbad hg ht
        go_wp2_with fail
        go_ret3
        exact ⟨_, rfl, H.out.2.1.ws, H.out.2.2.1⟩
end Go.Proofs.YtglmofeeggjemaaGreatDoor.GW
