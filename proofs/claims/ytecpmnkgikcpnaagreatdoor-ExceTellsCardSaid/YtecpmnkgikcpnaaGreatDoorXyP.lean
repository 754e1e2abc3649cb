/-
  The walk of the document's own reader of drill files, whole: Parse is parseX.
-/
import Derived.Test.YtecpmnkgikcpnaaGreatDoorXyC
import Derived.Test.YtecpmnkgikcpnaaGreatDoorXwF
import Derived.Test.YtecpmnkgikcpnaaGreatDoorXa
import Derived.Test.YtecpmnkgikcpnaaGreatDoorMem
import Derived.Deep.AppendLies
import Derived.Deep.RegionLaw
import Derived.Deep.Onto
set_option linter.unusedVariables false
set_option linter.unusedSimpArgs false
namespace Go.Proofs.YtecpmnkgikcpnaaGreatDoor.YW
open Go.RowKit Go.Proofs.YtecpmnkgikcpnaaGreatDoor.Base Go.Proofs.YtecpmnkgikcpnaaGreatDoor.Dp Go.Proofs.YtecpmnkgikcpnaaGreatDoor.DeciW Go.Proofs.YtecpmnkgikcpnaaGreatDoor.Xp Go.Proofs.YtecpmnkgikcpnaaGreatDoor.XW

/-- How many lines the first j bytes begin. -/
def nlV (s : List UInt8) (j : Nat) : Nat := if j = s.length then linesV s else (s.take j).count 10
/-- Where the first byte that can't stand is, among the first j. -/
def bdV (s : List UInt8) (j : Nat) : Int := if sp lineC s < j then (sp lineC s : Int) else -1
theorem nl_zero (s : List UInt8) : nlV s 0 = 0 := by
  unfold nlV
  split
  · rename_i h
    have : s = [] := List.eq_nil_of_length_eq_zero h.symm
    subst this; rfl
  · rfl
theorem nl_step {s : List UInt8} {j : Nat} (h : j < s.length) : nlV s (j + 1) = nlV s j + (if s[j] = 10 ∨ j + 1 = s.length then 1 else 0) := by
  have e : s.take (j + 1) = s.take j ++ [s[j]] := by rw [List.take_succ_eq_append_getElem h]
  have h1 : nlV s j = (s.take j).count 10 := by unfold nlV; rw [if_neg (by omega)]
  rw [h1]
  by_cases hj : j + 1 = s.length
  · have h2 : s.take (j + 1) = s := by rw [hj]; exact List.take_length
    have h3 : s.getLast? = some s[j] := by rw [List.getLast?_eq_getElem?, ← hj, Nat.add_sub_cancel]; exact List.getElem?_eq_getElem h
    have hne : s ≠ [] := by intro e; rw [e] at h; simp at h
    unfold nlV
    rw [if_pos hj, if_pos (.inr hj)]
    unfold linesV
    rw [h3]
    have hc : s.count 10 = (s.take j).count 10 + [s[j]].count 10 := by
      conv => lhs; rw [← h2, e, List.count_append]
    rw [hc]
    by_cases h10 : s[j] = 10
    · rw [h10]; simp
    · rw [List.count_cons_of_ne h10, if_pos ⟨hne, by simp [h10]⟩]; simp
  · unfold nlV
    rw [if_neg hj, e, List.count_append]
    by_cases h10 : s[j] = 10
    · rw [if_pos (.inl h10), h10]; simp
    · rw [if_neg (by rintro (h | h); exact h10 h; exact hj h), List.count_cons_of_ne h10]; simp
theorem bd_step_ok {s : List UInt8} {j : Nat} (h : j < s.length) (hc : lineC s[j] = true) : bdV s (j + 1) = bdV s j := by
  unfold bdV
  by_cases hs : sp lineC s < j
  · rw [if_pos hs, if_pos (by omega)]
  · have := sp_lt (p := lineC) (k := j) (by omega) h hc
    rw [if_neg hs, if_neg (by omega)]
theorem bd_step_old {s : List UInt8} {j : Nat} (hb : ¬ bdV s j < 0) : bdV s (j + 1) = bdV s j := by
  unfold bdV at hb ⊢
  by_cases hs : sp lineC s < j
  · rw [if_pos hs, if_pos (by omega)]
  · rw [if_neg hs] at hb; omega
theorem bd_step_new {s : List UInt8} {j : Nat} (h : j < s.length) (hc : lineC s[j] = false) (hb : bdV s j < 0) : bdV s (j + 1) = (j : Int) := by
  unfold bdV at hb ⊢
  by_cases hs : sp lineC s < j
  · rw [if_pos hs] at hb; omega
  · have := sp_stop (p := lineC) (k := j) (by omega) h hc
    rw [if_pos (by omega), this]
theorem lineC_of {c : UInt8} (h10 : c ≠ 10) (h13 : c ≠ 13) : lineC c = okC c := by
  unfold lineC; rw [beq_eq_false_iff_ne.2 h13, beq_eq_false_iff_ne.2 h10]; rfl
/-- What is left to read. -/
def Rest (s : List UInt8) (j : Nat) (buf : List UInt8) (at0 : Nat) (acc : List (Nat × D)) (r : List (Nat × D) × Nat × Nat) : Prop := if j ≤ s.length then autV (s.drop j) j buf at0 acc = r else (acc, 0, 0) = r
theorem line_end {s : List UInt8} {j : Nat} {buf : List UInt8} {at0 : Nat} {acc : List (Nat × D)} {r : List (Nat × D) × Nat × Nat} (hj : j = s.length ∨ ∃ h : j < s.length, s[j] = 10) (hR : Rest s j buf at0 acc r) :
    (buf = [] → Rest s (j + 1) [] at0 acc r) ∧ (buf ≠ [] → cmdV buf = none → ([], at0, 3) = r) ∧ (buf ≠ [] → ∀ d, cmdV buf = some d → Rest s (j + 1) [] at0 (acc ++ [(at0, d)]) r) := by
  unfold Rest at hR ⊢
  rcases hj with rfl | ⟨h, h10⟩
  · rw [if_pos (Nat.le_refl _), List.drop_eq_nil_of_le (Nat.le_refl _)] at hR
    rw [if_neg (by omega)]
    refine ⟨fun hb => ?_, fun hb hc => ?_, fun hb d hc => ?_⟩
    · subst hb; simpa [autV] using hR
    · simpa [autV, hb, hc] using hR
    · rw [if_neg (by omega)]; simpa [autV, hb, hc] using hR
  · rw [if_pos (by omega), List.drop_eq_getElem_cons h, h10] at hR
    rw [if_pos (by omega)]
    refine ⟨fun hb => ?_, fun hb hc => ?_, fun hb d hc => ?_⟩
    · subst hb; simpa [autV] using hR
    · simpa [autV, hb, hc] using hR
    · rw [if_pos (by omega)]; simpa [autV, hb, hc] using hR
/-- The line so far, in memory. -/
structure TB (B : Nat) (t : Value) (buf : List UInt8) (w : World) : Prop where
  nil : buf = [] → t = .slice none 0 0
  own : w.ownsRow B 5 1 t buf.length (Lib.byteCells buf)
theorem info_u8 : (Tryz.prog.info? 5).map (fun i => (i.zero, i.size, i.bytes)) = some (some (.int .u8 0), 1, 1) := by kernel_rfl
theorem TB.below {B : Nat} {t : Value} {buf : List UInt8} {w w' : World} (h : TB B t buf w) (hb : Below w.heap.size w w') : TB B t buf w' :=
  ⟨h.nil, h.own.kept (row := none) ⟨hb.os, hb.tape, hb.output, hb.size, fun k hk _ => hb.block k hk⟩ (by cases t.ownBlock <;> simp)⟩

theorem two_aa (w : World) (o p : Obj) : (((w.alloc o).alloc p).drew).heap[w.heap.size]? = some o := one_below (heap_alloc_new w o) (((Below.refl (w.alloc o).heap.size (w.alloc o)).alloc (Nat.le_refl _) p).drew)
theorem two_bb (w : World) (o p : Obj) : (((w.alloc o).alloc p).drew).heap[w.heap.size + 1]? = some p := by
  have h := heap_alloc_new (w.alloc o) p
  have e : (w.alloc o).heap.size = w.heap.size + 1 := by simp
  rw [e] at h
  exact h
theorem two_cc (w : World) (o p : Obj) : Below w.heap.size w (((w.alloc o).alloc p).drew) := by
  have b1 := (Below.refl w.heap.size w).alloc (Nat.le_refl _) o
  exact (b1.alloc b1.size p).drew
theorem own_a (w : World) (c : UInt8) : (((w.alloc (.cells #[] 5)).alloc (.cells #[.int .u8 (c.toNat : Int)] 5)).drew).ownsRow w.heap.size 5 1 (.slice (some ⟨w.heap.size, 0, none⟩) 0 0) 0 [] :=
  ⟨rfl, .inr ⟨_, 0, #[], rfl, Nat.le_refl _, two_aa w _ _, Nat.le_refl _, by unfold maxLen; decide, rfl, rfl⟩⟩
theorem own_b (w : World) (c : UInt8) : (((w.alloc (.cells #[.int .u8 (c.toNat : Int)] 5)).alloc (.cells #[] 5)).drew).ownsRow w.heap.size 5 1 (.slice (some ⟨w.heap.size + 1, 0, none⟩) 0 0) 0 [] :=
  ⟨rfl, .inr ⟨_, 0, #[], rfl, Nat.le_succ _, two_bb w _ _, Nat.le_refl _, by unfold maxLen; decide, rfl, rfl⟩⟩
theorem tb_one {wr w' : World} {B g cap : Nat} {c : UInt8} (h : w'.ownsRow wr.heap.size 5 1 (.slice (some ⟨g, 0, none⟩) (0 + 1) cap) (0 + 1) ([] ++ [.int .u8 (c.toNat : Int)])) (hB : B ≤ wr.heap.size) (hb : Below wr.heap.size wr w') : Hid (TB B (.slice (some ⟨g, 0, none⟩) 1 cap) [c] w' ∧ Below wr.heap.size wr w') :=
  ⟨⟨fun e => by simp at e, h.mono hB⟩, hb⟩

theorem fin_a {wr w' : World} {B g cap : Nat} {c : UInt8} (hB : B ≤ wr.heap.size) (h : w'.ownsRow wr.heap.size 5 1 (.slice (some ⟨g, 0, none⟩) (0 + 1) cap) (0 + 1) ([] ++ [.int .u8 (c.toNat : Int)])) (hg : ((((wr.alloc (.cells #[] 5)).alloc (.cells #[.int .u8 (c.toNat : Int)] 5)).drew)).grownBy w' (Value.slice (some ⟨wr.heap.size, 0, none⟩) 0 0).ownBlock) : Hid (TB B (.slice (some ⟨g, 0, none⟩) 1 cap) [c] w' ∧ Below wr.heap.size wr w') :=
  tb_one h hB ((two_cc wr _ _).grown hg (two_cc wr _ _).size (fun k hk => by injection hk with hk; rw [← hk]; exact Nat.le_refl _))
theorem fin_b {wr w' : World} {B g cap : Nat} {c : UInt8} (hB : B ≤ wr.heap.size) (h : w'.ownsRow wr.heap.size 5 1 (.slice (some ⟨g, 0, none⟩) (0 + 1) cap) (0 + 1) ([] ++ [.int .u8 (c.toNat : Int)])) (hg : ((((wr.alloc (.cells #[.int .u8 (c.toNat : Int)] 5)).alloc (.cells #[] 5)).drew)).grownBy w' (Value.slice (some ⟨wr.heap.size + 1, 0, none⟩) 0 0).ownBlock) : Hid (TB B (.slice (some ⟨g, 0, none⟩) 1 cap) [c] w' ∧ Below wr.heap.size wr w') :=
  tb_one h hB ((two_cc wr _ _).grown hg (two_cc wr _ _).size (fun k hk => by injection hk with hk; rw [← hk]; exact Nat.le_succ _))

theorem row_ge {w : World} {B g n cap : Nat} {t : TypeId} {xs : List Value} (h : w.ownsRow B t 1 (.slice (some ⟨g, 0, none⟩) n cap) n xs) (hn : 0 < n) : B ≤ g := by
  obtain ⟨g', cap', e, hB, _⟩ := h.form hn
  injection e with e
  injection e with e
  injection e with e
  rw [e]; exact hB
abbrev E8 : Obj := .cells #[] 5
abbrev C8 (c : UInt8) : Obj := .cells #[.int .u8 (c.toNat : Int)] 5
theorem bc_one (l : List UInt8) : ∀ v ∈ Lib.byteCells l, v.oneCell' = true := by
  intro v hv
  simp only [Lib.byteCells, List.mem_map] at hv
  obtain ⟨c, _, rfl⟩ := hv
  rfl
theorem one_cc (w : World) (o : Obj) : Below w.heap.size w ((w.alloc o).drew) := ((Below.refl w.heap.size w).alloc (Nat.le_refl _) o).drew
theorem own_e (w : World) : ((w.alloc E8).drew).ownsRow w.heap.size 5 1 (.slice (some ⟨w.heap.size, 0, none⟩) 0 0) 0 [] :=
  ⟨rfl, .inr ⟨_, 0, #[], rfl, Nat.le_refl _, (one_below (heap_alloc_new w E8) ((Below.refl (w.alloc E8).heap.size (w.alloc E8)).drew)), Nat.le_refl _, by unfold maxLen; decide, rfl, rfl⟩⟩
theorem news_tb {B g cap : Nat} {buf : List UInt8} {w W : World} (h : TB B (.slice (some ⟨g, 0, none⟩) buf.length cap) buf w) (hb : Below w.heap.size w W) : ∀ j u, (Lib.byteCells buf)[j]? = some u → W.cell? ((⟨g, 0, none⟩ : Addr).add j) = some u := by
  intro j u hu
  have hrd := (Mem.own_ownsRow h.own).2.reads.below hb
  obtain ⟨hj, hu⟩ := List.getElem?_eq_some_iff.1 hu
  have hj' : j < buf.length := by simpa [Lib.byteCells] using hj
  have := hrd.cell j hj'
  have hadd : (⟨g, 0, none⟩ : Addr).add j = ⟨g, 0 + j, none⟩ := by unfold Addr.add; split <;> simp_all
  rw [hadd, this, ← hu]
  simp [Lib.byteCells]
/-- Behind the first of the two appends. -/
structure AF (wr : World) (g n cap : Nat) (buf : List UInt8) (w1 : World) : Prop where
  own : w1.ownsRow wr.heap.size 5 1 (.slice (some ⟨g, 0, none⟩) n cap) n (Lib.byteCells buf)
  bel : Below wr.heap.size wr w1
theorem af_of {wr W w1 : World} {b g n cap : Nat} {buf : List UInt8} (hW : Below wr.heap.size wr W) (hb : wr.heap.size ≤ b) (ho : w1.ownsRow wr.heap.size 5 1 (.slice (some ⟨g, 0, none⟩) (0 + n) cap) (0 + n) ([] ++ Lib.byteCells buf)) (hg : W.grownBy w1 (Value.slice (some ⟨b, 0, none⟩) 0 0).ownBlock) : Hid (AF wr g n cap buf w1) := by
  refine ⟨?_, hW.grown hg hW.size (fun k hk => by injection hk with hk; rw [← hk]; exact hb)⟩
  simpa using ho
theorem af_blk {W w1 : World} {b k : Nat} {o : Obj} (hk : W.heap[k]? = some o) (hne : k ≠ b) (hg : W.grownBy w1 (Value.slice (some ⟨b, 0, none⟩) 0 0).ownBlock) : Hid (w1.heap[k]? = some o) := by
  have hlt := (Array.getElem?_eq_some_iff.1 hk).1
  show _ = _
  rw [hg.block k hlt (fun e => by injection e with e; exact hne e)]
  exact hk
theorem af_fin {wr W w2 : World} {B g g2 n cap cap2 : Nat} {buf : List UInt8} {c : UInt8} (hB : B ≤ wr.heap.size) (hn : buf.length = n) (hW : Below wr.heap.size wr W) (hgw : wr.heap.size ≤ g) (ho : w2.ownsRow wr.heap.size 5 1 (.slice (some ⟨g2, 0, none⟩) (n + 1) cap2) (n + 1) (Lib.byteCells buf ++ [.int .u8 (c.toNat : Int)])) (hg : W.grownBy w2 (Value.slice (some ⟨g, 0, none⟩) n cap).ownBlock) : Hid (TB B (.slice (some ⟨g2, 0, none⟩) (n + 1) cap2) (buf ++ [c]) w2 ∧ Below wr.heap.size wr w2) := by
  refine ⟨⟨fun e => by simp at e, ?_⟩, hW.grown hg hW.size (fun k hk => by injection hk with hk; rw [← hk]; exact hgw)⟩
  have := ho.mono hB
  have e : (buf ++ [c]).length = n + 1 := by simp [hn]
  rw [e, show Lib.byteCells (buf ++ [c]) = Lib.byteCells buf ++ [.int .u8 (c.toNat : Int)] by simp [Lib.byteCells]]
  exact this

set_option maxRecDepth 100000 in
set_option maxHeartbeats 12800000 in
theorem rparse_c (S : ByteArray) (hs : S.size ≤ maxLen) (w : World) (l : List (Nat × D)) (a e : Nat) (hp : Hid (parseX S.data.toList = (l, a, e))) :
    Calls Tryz.prog 6 #[.string S] w (ParsOut l a e w) := by
  unfold maxLen at hs
  have hx := hp.out
  rw [parse_aut, len_list] at hx
  clear hp
  by_cases h1 : (1000000 : Int) < (S.size : Int)
  · rw [if_pos (.inl (by omega))] at hx
    simp only [Prod.mk.injEq] at hx
    obtain ⟨rfl, rfl, rfl⟩ := hx
    go_enter Tryz.func6, Tryz.ntmps6
    go_wp2_with fail
    go_ret3
    exact ⟨_, rfl, ps_nil w (Below.refl _ _)⟩
  · have hS1 : S.size ≤ 1000000 := by omega
    have HX := Lib.hid hx
    clear hx
    go_enter Tryz.func6, Tryz.ntmps6
    go_wp2_with fail
    go_loop [5, 6, 7] (fun n b i => ∃ (j N : Nat) (B : Int), j ≤ S.size ∧ N ≤ j ∧ -1 ≤ B ∧ B ≤ j ∧ n = .int .i64 (N : Int) ∧ b = .int .i64 B ∧ i = .int .i64 j ∧ Hid (nlV S.data.toList j = N) ∧ Hid (bdV S.data.toList j = B)) (fun _ _ i => S.size - (intOf i).toNat)
    case atStart => exact ⟨0, 0, -1, Nat.zero_le _, Nat.le_refl _, by omega, by omega, rfl, rfl, rfl, nl_zero _, rfl⟩
    case round =>
      obtain ⟨j, N, B, hj, hNj, hB0, hB1, rfl, rfl, rfl, HN, HB⟩ := hrel
      by_cases hlt : j < S.size
      · have hlti : (j : Int) < (S.size : Int) := by omega
        obtain ⟨c, hc⟩ : ∃ c, S[j] = c := ⟨_, rfl⟩
        obtain ⟨hl, hcl⟩ := byte_list S j hlt
        rw [hc] at hcl
        have hns := nl_step hl
        rw [hcl, HN.out, len_list] at hns
        have HNS := Lib.hid hns
        have HOK : Hid (lineC c = true → bdV S.data.toList (j + 1) = B) := fun h => by rw [bd_step_ok hl (by rw [hcl]; exact h)]; exact HB.out
        have HOLD : Hid (¬ B < 0 → bdV S.data.toList (j + 1) = B) := fun h => by rw [bd_step_old (by rw [HB.out]; exact h)]; exact HB.out
        have HNEW : Hid (lineC c = false → B < 0 → bdV S.data.toList (j + 1) = (j : Int)) := fun h hb => bd_step_new hl (by rw [hcl]; exact h) (by rw [HB.out]; exact hb)
        obtain ⟨Z, hZ⟩ : ∃ Z : Nat, (S.size : Int) - 1 = Z := ⟨S.size - 1, by omega⟩
        clear hns hl hcl
        by_cases h10 : c = 10
        · subst h10
          have hci : ((10 : UInt8).toNat : Int) = 10 := rfl
          have HN2 : Hid (nlV S.data.toList (j + 1) = N + 1) := by show _ = _; rw [HNS.out, if_pos (.inl rfl)]
          have HB2 := Lib.hid (HOK.out (by decide))
          clear HOK HOLD HNEW HNS
          go_wp2_with fail
          go_round <;> first | exact ⟨j + 1, (N + 1), B, by omega, by omega, by omega, by omega, by go_num, rfl, by go_num, HN2.out, HB2.out⟩ | (simp [intOf] <;> omega)
        · have g10 : ((c.toNat : Int) == 10) = false := by rw [beq_eq_false_iff_ne]; intro e; exact h10 (UInt8.toNat_inj.1 (by show c.toNat = 10; omega))
          have m10 : ((c.toNat : Int) != 10) = true := by rw [bne, g10]; rfl
          by_cases hla : j + 1 = S.size
          · have hjZ : ((j : Int) == (Z : Int)) = true := by rw [beq_iff_eq]; omega
            have HN2 : Hid (nlV S.data.toList (j + 1) = N + 1) := by show _ = _; rw [HNS.out, if_pos (.inr hla)]
            clear HNS
            by_cases h13 : c = 13
            · subst h13
              have hci : ((13 : UInt8).toNat : Int) = 13 := rfl
              have HB2 := Lib.hid (HOK.out (by decide))
              clear HOK HOLD HNEW
              go_wp2_with fail
              go_round <;> first | exact ⟨j + 1, (N + 1), B, by omega, by omega, by omega, by omega, by go_num, rfl, by go_num, HN2.out, HB2.out⟩ | (simp [intOf] <;> omega)
            · have g13 : ((c.toNat : Int) == 13) = false := by rw [beq_eq_false_iff_ne]; intro e; exact h13 (UInt8.toNat_inj.1 (by show c.toNat = 13; omega))
              have m13 : ((c.toNat : Int) != 13) = true := by rw [bne, g13]; rfl
              have hlo := lineC_of h10 h13
              clear h13
              by_cases hok : okC c = true
              · have hok2 : 32 ≤ c.toNat ∧ c.toNat ≤ 126 := by simpa [okC] using hok
                have e1 : ¬ (c.toNat : Int) < 32 := by omega
                have e2 : ¬ (126 : Int) < (c.toNat : Int) := by omega
                have HB2 := Lib.hid (HOK.out (by rw [hlo, hok]))
                clear HOK HOLD HNEW hlo hok hok2
                go_wp2_with fail
                go_round <;> first | exact ⟨j + 1, (N + 1), B, by omega, by omega, by omega, by omega, by go_num, rfl, by go_num, HN2.out, HB2.out⟩ | (simp [intOf] <;> omega)
              · have hok2 : c.toNat < 32 ∨ 126 < c.toNat := by
                  have : ¬ (32 ≤ c.toNat ∧ c.toNat ≤ 126) := by simpa [okC] using hok
                  omega
                have hlf : lineC c = false := by rw [hlo]; exact Bool.eq_false_iff.2 hok
                by_cases hb : B < 0
                · have HB2 := Lib.hid (HNEW.out hlf hb)
                  clear HOK HOLD HNEW hlo hok hlf
                  rcases hok2 with hok2 | hok2
                  · have e1 : (c.toNat : Int) < 32 := by omega
                    go_wp2_with fail
                    go_round <;> first | exact ⟨j + 1, (N + 1), (j : Int), by omega, by omega, by omega, by omega, by go_num, rfl, by go_num, HN2.out, HB2.out⟩ | (simp [intOf] <;> omega)
                  · have e1 : ¬ (c.toNat : Int) < 32 := by omega
                    have e2 : (126 : Int) < (c.toNat : Int) := by omega
                    go_wp2_with fail
                    go_round <;> first | exact ⟨j + 1, (N + 1), (j : Int), by omega, by omega, by omega, by omega, by go_num, rfl, by go_num, HN2.out, HB2.out⟩ | (simp [intOf] <;> omega)
                · have HB2 := Lib.hid (HOLD.out hb)
                  clear HOK HOLD HNEW hlo hok hlf
                  rcases hok2 with hok2 | hok2
                  · have e1 : (c.toNat : Int) < 32 := by omega
                    go_wp2_with fail
                    go_round <;> first | exact ⟨j + 1, (N + 1), B, by omega, by omega, by omega, by omega, by go_num, rfl, by go_num, HN2.out, HB2.out⟩ | (simp [intOf] <;> omega)
                  · have e1 : ¬ (c.toNat : Int) < 32 := by omega
                    have e2 : (126 : Int) < (c.toNat : Int) := by omega
                    go_wp2_with fail
                    go_round <;> first | exact ⟨j + 1, (N + 1), B, by omega, by omega, by omega, by omega, by go_num, rfl, by go_num, HN2.out, HB2.out⟩ | (simp [intOf] <;> omega)
          · have hjZ : ((j : Int) == (Z : Int)) = false := by rw [beq_eq_false_iff_ne]; omega
            have HN2 : Hid (nlV S.data.toList (j + 1) = N) := by show _ = _; rw [HNS.out, if_neg (by rintro (h | h); exact h10 h; exact hla h)]; rfl
            clear HNS
            by_cases h13 : c = 13
            · subst h13
              have hci : ((13 : UInt8).toNat : Int) = 13 := rfl
              have HB2 := Lib.hid (HOK.out (by decide))
              clear HOK HOLD HNEW
              go_wp2_with fail
              go_round <;> first | exact ⟨j + 1, N, B, by omega, by omega, by omega, by omega, by go_num, rfl, by go_num, HN2.out, HB2.out⟩ | (simp [intOf] <;> omega)
            · have g13 : ((c.toNat : Int) == 13) = false := by rw [beq_eq_false_iff_ne]; intro e; exact h13 (UInt8.toNat_inj.1 (by show c.toNat = 13; omega))
              have m13 : ((c.toNat : Int) != 13) = true := by rw [bne, g13]; rfl
              have hlo := lineC_of h10 h13
              clear h13
              by_cases hok : okC c = true
              · have hok2 : 32 ≤ c.toNat ∧ c.toNat ≤ 126 := by simpa [okC] using hok
                have e1 : ¬ (c.toNat : Int) < 32 := by omega
                have e2 : ¬ (126 : Int) < (c.toNat : Int) := by omega
                have HB2 := Lib.hid (HOK.out (by rw [hlo, hok]))
                clear HOK HOLD HNEW hlo hok hok2
                go_wp2_with fail
                go_round <;> first | exact ⟨j + 1, N, B, by omega, by omega, by omega, by omega, by go_num, rfl, by go_num, HN2.out, HB2.out⟩ | (simp [intOf] <;> omega)
              · have hok2 : c.toNat < 32 ∨ 126 < c.toNat := by
                  have : ¬ (32 ≤ c.toNat ∧ c.toNat ≤ 126) := by simpa [okC] using hok
                  omega
                have hlf : lineC c = false := by rw [hlo]; exact Bool.eq_false_iff.2 hok
                by_cases hb : B < 0
                · have HB2 := Lib.hid (HNEW.out hlf hb)
                  clear HOK HOLD HNEW hlo hok hlf
                  rcases hok2 with hok2 | hok2
                  · have e1 : (c.toNat : Int) < 32 := by omega
                    go_wp2_with fail
                    go_round <;> first | exact ⟨j + 1, N, (j : Int), by omega, by omega, by omega, by omega, by go_num, rfl, by go_num, HN2.out, HB2.out⟩ | (simp [intOf] <;> omega)
                  · have e1 : ¬ (c.toNat : Int) < 32 := by omega
                    have e2 : (126 : Int) < (c.toNat : Int) := by omega
                    go_wp2_with fail
                    go_round <;> first | exact ⟨j + 1, N, (j : Int), by omega, by omega, by omega, by omega, by go_num, rfl, by go_num, HN2.out, HB2.out⟩ | (simp [intOf] <;> omega)
                · have HB2 := Lib.hid (HOLD.out hb)
                  clear HOK HOLD HNEW hlo hok hlf
                  rcases hok2 with hok2 | hok2
                  · have e1 : (c.toNat : Int) < 32 := by omega
                    go_wp2_with fail
                    go_round <;> first | exact ⟨j + 1, N, B, by omega, by omega, by omega, by omega, by go_num, rfl, by go_num, HN2.out, HB2.out⟩ | (simp [intOf] <;> omega)
                  · have e1 : ¬ (c.toNat : Int) < 32 := by omega
                    have e2 : (126 : Int) < (c.toNat : Int) := by omega
                    go_wp2_with fail
                    go_round <;> first | exact ⟨j + 1, N, B, by omega, by omega, by omega, by omega, by go_num, rfl, by go_num, HN2.out, HB2.out⟩ | (simp [intOf] <;> omega)
      · have hlti : ¬ ((j : Int) < (S.size : Int)) := by omega
        obtain rfl : j = S.size := by omega
        have HNL : Hid (linesV S.data.toList = N) := by show _ = _; rw [← HN.out]; unfold nlV; rw [if_pos (len_list S).symm]
        by_cases h2 : (20000 : Int) < (N : Int)
        · have hx := HX.out
          rw [if_pos (.inr (by rw [HNL.out]; omega))] at hx
          simp only [Prod.mk.injEq] at hx
          obtain ⟨rfl, rfl, rfl⟩ := hx
          go_wp2_with fail
          go_ret3
          exact ⟨_, rfl, ps_nil w (Below.refl _ _)⟩
        · have hx : (if sp lineC S.data.toList < S.size then ([], sp lineC S.data.toList, 2) else autV S.data.toList 0 [] 0 []) = (l, a, e) := by
            have hx := HX.out
            rw [if_neg (by rw [HNL.out]; omega)] at hx
            exact hx
          by_cases h3 : (0 : Int) ≤ B
          · have hsp : sp lineC S.data.toList < S.size ∧ (sp lineC S.data.toList : Int) = B := by
              have := HB.out
              unfold bdV at this
              split at this
              · exact ⟨by assumption, this⟩
              · omega
            rw [if_pos hsp.1] at hx
            simp only [Prod.mk.injEq] at hx
            obtain ⟨rfl, ha, rfl⟩ := hx
            have hBa : B = (a : Int) := by rw [← hsp.2, ← ha]
            subst hBa
            go_wp2_with fail
            go_ret3
            exact ⟨_, rfl, ps_nil w (Below.refl _ _)⟩
          · have hsp : ¬ sp lineC S.data.toList < S.size := by
              intro h4
              have := HB.out
              unfold bdV at this
              rw [if_pos h4] at this
              omega
            rw [if_neg hsp] at hx
            have HRE : Hid (Rest S.data.toList 0 [] 0 [] (l, a, e)) := by
              show Rest _ _ _ _ _ _
              unfold Rest
              rw [if_pos (Nat.zero_le _)]
              exact hx
            clear hx hsp HX HN HB HNL
            have HP0 : Hid (PsAt w nils [] w) := ps_nil w (Below.refl _ _)
            have HT0 : Hid (TB w.heap.size nils [] w) := ⟨fun _ => rfl, rfl, .inl ⟨rfl, rfl⟩⟩
            obtain ⟨j0, hi, hz0, hz1, hz2⟩ := info_parts info_u8
            have HI := Lib.hid (And.intro hi (And.intro hz0 (And.intro hz1 hz2)))
            clear hi hz0 hz1 hz2
            obtain ⟨i1, hi, hz0, hz1, hz2⟩ := info_parts info_dr
            have HD := Lib.hid (And.intro hi (And.intro hz0 (And.intro hz1 hz2)))
            clear hi hz0 hz1 hz2
            clear hj hNj hB0 hB1 h1 hs
            go_wp2_with fail
            go_loopw [8, 9, 10, 11] (fun v t p i wr => ∃ (j at0 : Nat) (acc : List (Nat × D)) (buf : List UInt8), j ≤ S.size + 1 ∧ at0 ≤ j ∧ acc.length ≤ j ∧ buf.length ≤ j ∧ p = .int .i64 (at0 : Int) ∧ i = .int .i64 (j : Int) ∧ Hid (Rest S.data.toList j buf at0 acc (l, a, e)) ∧ Hid (PsAt w v acc wr) ∧ Hid (TB w.heap.size t buf wr)) (fun _ _ _ i _ => S.size + 1 - (intOf i).toNat)
            case atStart => exact ⟨0, 0, [], [], by omega, Nat.le_refl _, Nat.le_refl _, Nat.le_refl _, rfl, rfl, HRE.out, HP0.out, HT0.out⟩
            case round =>
            clear HRE HP0 HT0
            obtain ⟨j, at0, acc, buf, hj, haj, hacc, hbuf, rfl, rfl, HRE, HP, HT⟩ := hrel
            rename_i wr
            by_cases hle : (j : Int) ≤ (S.size : Int)
            · have hre := HRE.out
              unfold Rest at hre
              rw [if_pos (by rw [len_list]; omega)] at hre
              have HRA := Lib.hid hre
              clear hre
              by_cases hlt : j < S.size
              · have hlti : (j : Int) < (S.size : Int) := by omega
                obtain ⟨c, hc⟩ : ∃ c, S[j] = c := ⟨_, rfl⟩
                obtain ⟨hl, hcl⟩ := byte_list S j hlt
                rw [hc] at hcl
                have HRB : Hid (autV (c :: S.data.toList.drop (j + 1)) j buf at0 acc = (l, a, e)) := by
                  show _ = _
                  rw [← HRA.out, List.drop_eq_getElem_cons hl, hcl]
                have hle2 : j + 1 ≤ S.data.toList.length := by rw [len_list]; omega
                clear HRA
                by_cases h13 : c = 13
                · subst h13
                  have hci : ((13 : UInt8).toNat : Int) = 13 := rfl
                  have HR2 : Hid (Rest S.data.toList (j + 1) buf at0 acc (l, a, e)) := by
                    show Rest _ _ _ _ _ _
                    unfold Rest
                    rw [if_pos hle2]
                    have := HRB.out
                    simpa [autV] using this
                  clear HRB
                  go_wp2_with fail
                  go_round <;> first | exact ⟨j + 1, at0, acc, buf, by omega, by omega, by omega, by omega, rfl, by go_num, HR2.out, HP.out, HT.out⟩ | (simp [intOf] <;> omega)
                · have g13 : ((c.toNat : Int) == 13) = false := by rw [beq_eq_false_iff_ne]; intro e; exact h13 (UInt8.toNat_inj.1 (by show c.toNat = 13; omega))
                  by_cases h10 : c = 10
                  · subst h10
                    have hci : ((10 : UInt8).toNat : Int) = 10 := rfl
                    have HLE := Lib.hid (line_end (.inr ⟨hl, hcl⟩) HRE.out)
                    clear hl hcl HRB HRE
                    by_cases hb0 : buf = []
                    · subst hb0
                      obtain rfl := HT.out.nil rfl
                      have HR2 := Lib.hid (HLE.out.1 rfl)
                      clear HLE
                      go_wp2_with fail
                      go_round <;> first | exact ⟨j + 1, at0, acc, [], by omega, by omega, by omega, by simp, rfl, by go_num, HR2.out, HP.out, HT.out⟩ | (simp [intOf] <;> omega)
                    · have hbp : 0 < buf.length := List.length_pos_iff.2 hb0
                      obtain ⟨g, cap, rfl, hgB, hgl⟩ := HT.out.own.form hbp
                      have hrd := (Mem.own_ownsRow HT.out.own).2.reads
                      have s1 := hrd.str (P := Tryz.prog) 33 5 9 Tryz.underlying33 Tryz.underlying5 Tryz.underlying9 buf.length cap rfl
                      obtain ⟨R, hR⟩ : ∃ R : ByteArray, R = ⟨buf.toArray⟩ := ⟨_, rfl⟩
                      rw [← hR] at s1
                      have hRl : R.data.toList = buf := by rw [hR]
                      have hRz : R.size = buf.length := by rw [← len_list, hRl]
                      have hRs : R.size ≤ maxLen := by rw [hRz]; unfold maxLen; omega
                      have hRp : 0 < R.size := by omega
                      obtain ⟨od, hod⟩ : ∃ od, cmdV buf = od := ⟨_, rfl⟩
                      have HOD : Hid (rlineV R.data.toList = od) := by show _ = _; rw [hRl, line_rel, hod]
                      have HLN := Lib.hid (HLE.out.2.1 hb0)
                      have HLS := Lib.hid (HLE.out.2.2 hb0)
                      rw [hod] at HLN HLS
                      clear HLE hrd hR hRl hod HT hgB hgl
                      obtain ⟨n, hn⟩ : ∃ n, buf.length = n := ⟨_, rfl⟩
                      rw [hn] at s1 hRz hbp hbuf ⊢
                      have hn0 : ((n : Int) == 0) = false := by rw [beq_eq_false_iff_ne]; omega
                      clear hn hb0
                      go_wp2_with fail
                      with_reducible refine (rline_c R hRs hRp od HOD _).mono ?_
                      intro en w2 hco
                      have HP2 := Lib.hid (HP.out.below hco.1)
                      have hsz1 := HP.out.bel.size
                      have hres := hco.2
                      clear hco HP s1
                      cases od with
                      | none =>
                        obtain ⟨d, p, c', rfl⟩ := hres
                        have HEE : Hid (l = [] ∧ a = at0 ∧ e = 3) := by
                          have h3 := HLN.out rfl
                          simp only [Prod.mk.injEq] at h3
                          exact ⟨h3.1.symm, h3.2.1.symm, h3.2.2.symm⟩
                        obtain ⟨rfl, rfl, rfl⟩ := HEE.out
                        clear HLN HLS HEE
                        dsimp only [drVal, drCells]
                        go_wp2_with fail
                        go_ret3
                        exact ⟨_, rfl, ps_nil _ (HP2.out.bel.alloc HP2.out.bel.size _)⟩
                      | some d =>
                        obtain ⟨p, c', rfl, hn⟩ := hres
                        have HN : Hid (NumsIn w.heap.size w2 p d.nums) := hn.mono hsz1
                        have HR2 := Lib.hid (HLS.out d rfl)
                        clear hn HLN HLS
                        dsimp only [drVal, drCells]
                        go_upto_region 31 with fail
                        obtain ⟨g3, hg3⟩ : ∃ g3, w2.heap.size = g3 := ⟨_, rfl⟩
                        have HO3 : Hid (_ = _) := heap_alloc_new w2 (.cells #[.int .i64 (at0 : Int), .int .i64 d.k, .int .i64 d.n, .bool d.on, .string ⟨d.t.toArray⟩, .string ⟨d.x.toArray⟩, .string ⟨d.y.toArray⟩, .string ⟨d.u.toArray⟩, .string ⟨d.v.toArray⟩, .slice p d.nums.length c'] 32)
                        have hal := (Below.refl w2.heap.size w2).alloc (Nat.le_refl _) (.cells #[.int .i64 (at0 : Int), .int .i64 d.k, .int .i64 d.n, .bool d.on, .string ⟨d.t.toArray⟩, .string ⟨d.x.toArray⟩, .string ⟨d.y.toArray⟩, .string ⟨d.u.toArray⟩, .string ⟨d.v.toArray⟩, .slice p d.nums.length c'] 32)
                        have HP3 := Lib.hid (HP2.out.below hal)
                        have HN3 := Lib.hid (HN.out.below hal)
                        rw [hg3] at HO3
                        rw [hg3]
                        clear HP2 HN hal hg3
                        generalize w2.alloc (.cells #[.int .i64 (at0 : Int), .int .i64 d.k, .int .i64 d.n, .bool d.on, .string ⟨d.t.toArray⟩, .string ⟨d.x.toArray⟩, .string ⟨d.y.toArray⟩, .string ⟨d.u.toArray⟩, .string ⟨d.v.toArray⟩, .slice p d.nums.length c'] 32) = W3 at HO3 HP3 HN3 ⊢
                        obtain ⟨⟨c0, c1, c2, c3, c4, c5, c6, c7, c8, c9⟩, _⟩ := dr_at HO3.out
                        obtain ⟨xs, hx, hrw⟩ := HP3.out.own
                        have HXS := Lib.hid (And.intro hx hrw)
                        have hbel := Lib.hid HP3.out.bel
                        clear HP3 hx hrw HO3
                        go_wp2_with (at_builtin; refine wpList_append_own _ rfl _ _ _ rfl w.heap.size 32 i1 (.agg #[.int .i64 0, .int .i64 0, .int .i64 0, .bool false, .string ⟨#[]⟩, .string ⟨#[]⟩, .string ⟨#[]⟩, .string ⟨#[]⟩, .string ⟨#[]⟩, .slice none 0 0]) 10 136 Tryz.underlying24 HD.out.1 HD.out.2.1 HD.out.2.2.1 HD.out.2.2.2 rfl (by omega) u8 acc.length xs (by rfl) (HXS.out.1.alloc _) ⟨W3.heap.size, 0, none⟩ 1 1 [.int .i64 (at0 : Int), .int .i64 d.k, .int .i64 d.n, .bool d.on, .string ⟨d.t.toArray⟩, .string ⟨d.x.toArray⟩, .string ⟨d.y.toArray⟩, .string ⟨d.u.toArray⟩, .string ⟨d.v.toArray⟩, .slice p d.nums.length c'] (by rfl) rfl (World.news_of_block (heap_alloc_new W3 _)) (by simp [Value.oneCell']) (by unfold maxLen; omega) (by omega) (by have := hbel.out.size; simp; omega) ?_; intro v' w' hown' hgrow' hnn'; skip)
                        have HPN := Lib.hid (PsAt.push (x := (at0, d)) (c := c') HXS.out.1 HXS.out.2 hbel.out HN3.out hgrow' hown')
                        clear hown' hgrow' hnn'
                        go_round <;> first | exact ⟨j + 1, at0, acc ++ [(at0, d)], [], by omega, by omega, by simp; omega, by simp, rfl, by go_num, HR2.out, HPN.out, ⟨fun _ => rfl, rfl, .inl ⟨rfl, rfl⟩⟩⟩ | (simp [intOf] <;> omega)
                  · have g10 : ((c.toNat : Int) == 10) = false := by rw [beq_eq_false_iff_ne]; intro e; exact h10 (UInt8.toNat_inj.1 (by show c.toNat = 10; omega))
                    have m10 : ((c.toNat : Int) != 10) = true := by rw [bne, g10]; rfl
                    by_cases hb0 : buf = []
                    · subst hb0
                      obtain rfl := HT.out.nil rfl
                      have HR2 : Hid (Rest S.data.toList (j + 1) [c] j acc (l, a, e)) := by
                        show Rest _ _ _ _ _ _
                        unfold Rest
                        rw [if_pos hle2]
                        have := HRB.out
                        simpa [autV, h13, h10] using this
                      clear HRB
                      go_upto_region 25 with fail
                      go_cut [9] (fun u wx => Hid (TB w.heap.size u [c] wx) ∧ Hid (Below wr.heap.size wr wx))
                      case first =>
                        have hwr : w.heap.size ≤ wr.heap.size := HP.out.bel.size
                        have HOA := Lib.hid (own_a wr c)
                        have HNA := Lib.hid (two_bb wr (.cells #[] 5) (.cells #[.int .u8 (c.toNat : Int)] 5))
                        have HBA := Lib.hid (two_cc wr (.cells #[] 5) (.cells #[.int .u8 (c.toNat : Int)] 5))
                        have HOB := Lib.hid (own_b wr c)
                        have HNB := Lib.hid (two_aa wr (.cells #[.int .u8 (c.toNat : Int)] 5) (.cells #[] 5))
                        have HBB := Lib.hid (two_cc wr (.cells #[.int .u8 (c.toNat : Int)] 5) (.cells #[] 5))
                        go_region_law (first | (refine step_append_lies _ (by rfl) (.tmp 102) (.tmp 106) 33 (by rfl) wr.heap.size 5 j0 (.int .u8 0) 1 1 Tryz.underlying33 HI.out.1 HI.out.2.1 HI.out.2.2.1 HI.out.2.2.2 rfl (by decide) (.slice (some ⟨wr.heap.size, 0, none⟩) 0 0) 0 [] (by rfl) HOA.out ⟨wr.heap.size + 1, 0, none⟩ 1 1 [.int .u8 (c.toNat : Int)] (by rfl) rfl (World.news_of_block HNA.out) (by simp [Value.oneCell']) (by decide) (by unfold maxLen; decide) (by decide) HBA.out.size _ rfl ?_; intro g2 cap2 w2' hown2 hgrow2 hat2 hlt2; have hfin := fin_a (c := c) hwr hown2 hgrow2; clear hown2 hgrow2 hat2 hlt2; skip) | (refine step_append_lies _ (by rfl) (.tmp 102) (.tmp 106) 33 (by rfl) wr.heap.size 5 j0 (.int .u8 0) 1 1 Tryz.underlying33 HI.out.1 HI.out.2.1 HI.out.2.2.1 HI.out.2.2.2 rfl (by decide) (.slice (some ⟨wr.heap.size + 1, 0, none⟩) 0 0) 0 [] (by rfl) HOB.out ⟨wr.heap.size, 0, none⟩ 1 1 [.int .u8 (c.toNat : Int)] (by rfl) rfl (World.news_of_block HNB.out) (by simp [Value.oneCell']) (by decide) (by unfold maxLen; decide) (by decide) HBB.out.size _ rfl ?_; intro g2 cap2 w2' hown2 hgrow2 hat2 hlt2; have hfin := fin_b (c := c) hwr hown2 hgrow2; clear hown2 hgrow2 hat2 hlt2; skip) | fail)
                        all_goals
                          go_wp2_with fail
                          go_meet
                          exact ⟨Lib.hid hfin.out.1, Lib.hid hfin.out.2⟩
                      case rest =>
                        obtain ⟨HT2, HB2⟩ := hcut
                        have HP2 := Lib.hid (HP.out.below HB2.out)
                        clear HT HP HB2
                        go_wp2_with fail
                        go_round <;> first | exact ⟨j + 1, j, acc, [c], by omega, by omega, by omega, by simp, rfl, by go_num, HR2.out, HP2.out, HT2.out⟩ | (simp [intOf] <;> omega)
                    · obtain ⟨gt, capt, rfl, hgB, hgl⟩ := HT.out.own.form (List.length_pos_iff.2 hb0)
                      have HTT := HT
                      have hwr : w.heap.size ≤ wr.heap.size := HP.out.bel.size
                      have HR2 : Hid (Rest S.data.toList (j + 1) (buf ++ [c]) at0 acc (l, a, e)) := by
                        show Rest _ _ _ _ _ _
                        unfold Rest
                        rw [if_pos hle2]
                        have := HRB.out
                        simpa [autV, h13, h10, hb0] using this
                      have hbp : 0 < buf.length := List.length_pos_iff.2 hb0
                      have HNW : ∀ W, Below wr.heap.size wr W → ∀ j u, (Lib.byteCells buf)[j]? = some u → W.cell? ((⟨gt, 0, none⟩ : Addr).add j) = some u := fun W hW => news_tb HTT.out hW
                      have HNW := Lib.hid HNW
                      obtain ⟨n, hn⟩ : ∃ n, buf.length = n := ⟨_, rfl⟩
                      have HNN := Lib.hid hn
                      rw [hn] at hbp hbuf ⊢
                      have hn0 : ((n : Int) == 0) = false := by rw [beq_eq_false_iff_ne]; omega
                      clear HRB HT HTT hgB hgl hn hb0
                      go_upto_region 25 with fail
                      go_cut [9] (fun u wx => Hid (TB w.heap.size u (buf ++ [c]) wx) ∧ Hid (Below wr.heap.size wr wx))
                      case first =>
                        have HO1 := Lib.hid (own_e wr)
                        have HB1 := Lib.hid (one_cc wr E8)
                        have HO2 := Lib.hid (own_a wr c)
                        have HB2 := Lib.hid (two_cc wr E8 (C8 c))
                        have HC2 := Lib.hid (two_bb wr E8 (C8 c))
                        have HO3 := Lib.hid (own_b wr c)
                        have HB3 := Lib.hid (two_cc wr (C8 c) E8)
                        have HC3 := Lib.hid (two_aa wr (C8 c) E8)
                        go_region_law (first
                          | (refine step_append_lies _ (by rfl) (.tmp 100) (.tmp 101) 33 (by rfl) wr.heap.size 5 j0 (.int .u8 0) 1 1 Tryz.underlying33 HI.out.1 HI.out.2.1 HI.out.2.2.1 HI.out.2.2.2 rfl (by decide) (.slice (some ⟨wr.heap.size, 0, none⟩) 0 0) 0 [] (by rfl) HO1.out ⟨gt, 0, none⟩ n capt (Lib.byteCells buf) (by rfl) (by simp [Lib.byteCells, HNN.out]) (HNW.out _ HB1.out) (bc_one buf) (by omega) (by unfold maxLen; omega) (by omega) HB1.out.size _ rfl ?_; intro g1 cap1 w1 hown1 hgrow1 hat1 hlt1; have HF := af_of (buf := buf) HB1.out (Nat.le_refl _) hown1 hgrow1; clear hown1 hgrow1 hat1 hlt1; skip)
                          | (refine step_append_lies _ (by rfl) (.tmp 100) (.tmp 101) 33 (by rfl) wr.heap.size 5 j0 (.int .u8 0) 1 1 Tryz.underlying33 HI.out.1 HI.out.2.1 HI.out.2.2.1 HI.out.2.2.2 rfl (by decide) (.slice (some ⟨wr.heap.size, 0, none⟩) 0 0) 0 [] (by rfl) HO2.out ⟨gt, 0, none⟩ n capt (Lib.byteCells buf) (by rfl) (by simp [Lib.byteCells, HNN.out]) (HNW.out _ HB2.out) (bc_one buf) (by omega) (by unfold maxLen; omega) (by omega) HB2.out.size _ rfl ?_; intro g1 cap1 w1 hown1 hgrow1 hat1 hlt1; have HF := af_of (buf := buf) HB2.out (Nat.le_refl _) hown1 hgrow1; have HCC := af_blk HC2.out (by omega) hgrow1; clear hown1 hgrow1 hat1 hlt1; skip)
                          | (refine step_append_lies _ (by rfl) (.tmp 100) (.tmp 101) 33 (by rfl) wr.heap.size 5 j0 (.int .u8 0) 1 1 Tryz.underlying33 HI.out.1 HI.out.2.1 HI.out.2.2.1 HI.out.2.2.2 rfl (by decide) (.slice (some ⟨wr.heap.size + 1, 0, none⟩) 0 0) 0 [] (by rfl) HO3.out ⟨gt, 0, none⟩ n capt (Lib.byteCells buf) (by rfl) (by simp [Lib.byteCells, HNN.out]) (HNW.out _ HB3.out) (bc_one buf) (by omega) (by unfold maxLen; omega) (by omega) HB3.out.size _ rfl ?_; intro g1 cap1 w1 hown1 hgrow1 hat1 hlt1; have HF := af_of (buf := buf) HB3.out (Nat.le_succ _) hown1 hgrow1; have HCC := af_blk HC3.out (by omega) hgrow1; clear hown1 hgrow1 hat1 hlt1; skip)
                          | (refine step_append_lies _ (by rfl) (.tmp 102) (.tmp 106) 33 (by rfl) wr.heap.size 5 j0 (.int .u8 0) 1 1 Tryz.underlying33 HI.out.1 HI.out.2.1 HI.out.2.2.1 HI.out.2.2.2 rfl (by decide) (.slice (some ⟨g1, 0, none⟩) n cap1) n (Lib.byteCells buf) (by rfl) (HF.out.own.alloc _) ⟨w1.heap.size, 0, none⟩ 1 1 [.int .u8 (c.toNat : Int)] (by rfl) rfl (World.news_of_block (heap_alloc_new w1 (C8 c))) (by simp [Value.oneCell']) (by decide) (by unfold maxLen; omega) (by omega) (HF.out.bel.alloc HF.out.bel.size _).size _ rfl ?_; intro g2 cap2 w2' hown2 hgrow2 hat2 hlt2; have hfin := af_fin (buf := buf) (c := c) hwr HNN.out (HF.out.bel.alloc HF.out.bel.size _) (row_ge HF.out.own (by omega)) hown2 hgrow2; clear hown2 hgrow2 hat2 hlt2; skip)
                          | (refine step_append_lies _ (by rfl) (.tmp 102) (.tmp 106) 33 (by rfl) wr.heap.size 5 j0 (.int .u8 0) 1 1 Tryz.underlying33 HI.out.1 HI.out.2.1 HI.out.2.2.1 HI.out.2.2.2 rfl (by decide) (.slice (some ⟨g1, 0, none⟩) n cap1) n (Lib.byteCells buf) (by rfl) HF.out.own ⟨wr.heap.size + 1, 0, none⟩ 1 1 [.int .u8 (c.toNat : Int)] (by rfl) rfl (World.news_of_block HCC.out) (by simp [Value.oneCell']) (by decide) (by unfold maxLen; omega) (by omega) (HF.out.bel).size _ rfl ?_; intro g2 cap2 w2' hown2 hgrow2 hat2 hlt2; have hfin := af_fin (buf := buf) (c := c) hwr HNN.out (HF.out.bel) (row_ge HF.out.own (by omega)) hown2 hgrow2; clear hown2 hgrow2 hat2 hlt2; skip)
                          | (refine step_append_lies _ (by rfl) (.tmp 102) (.tmp 106) 33 (by rfl) wr.heap.size 5 j0 (.int .u8 0) 1 1 Tryz.underlying33 HI.out.1 HI.out.2.1 HI.out.2.2.1 HI.out.2.2.2 rfl (by decide) (.slice (some ⟨g1, 0, none⟩) n cap1) n (Lib.byteCells buf) (by rfl) HF.out.own ⟨wr.heap.size, 0, none⟩ 1 1 [.int .u8 (c.toNat : Int)] (by rfl) rfl (World.news_of_block HCC.out) (by simp [Value.oneCell']) (by decide) (by unfold maxLen; omega) (by omega) (HF.out.bel).size _ rfl ?_; intro g2 cap2 w2' hown2 hgrow2 hat2 hlt2; have hfin := af_fin (buf := buf) (c := c) hwr HNN.out (HF.out.bel) (row_ge HF.out.own (by omega)) hown2 hgrow2; clear hown2 hgrow2 hat2 hlt2; skip)
                          | fail)
                        all_goals
                          go_wp2_with fail
                          go_meet
                          exact ⟨Lib.hid hfin.out.1, Lib.hid hfin.out.2⟩
                      case rest =>
                        obtain ⟨HT2, HB2⟩ := hcut
                        have HP2 := Lib.hid (HP.out.below HB2.out)
                        clear HP HB2
                        go_wp2_with fail
                        go_round <;> first | exact ⟨j + 1, at0, acc, buf ++ [c], by omega, by omega, by omega, by simp [HNN.out]; omega, rfl, by go_num, HR2.out, HP2.out, HT2.out⟩ | (simp [intOf] <;> omega)
              · have hlti : ¬ ((j : Int) < (S.size : Int)) := by omega
                have HLE := Lib.hid (line_end (.inl (by rw [len_list]; omega)) HRE.out)
                clear HRA HRE
                by_cases hb0 : buf = []
                · subst hb0
                  obtain rfl := HT.out.nil rfl
                  have HR2 := Lib.hid (HLE.out.1 rfl)
                  clear HLE
                  go_wp2_with fail
                  go_round <;> first | exact ⟨j + 1, at0, acc, [], by omega, by omega, by omega, by simp, rfl, by go_num, HR2.out, HP.out, HT.out⟩ | (simp [intOf] <;> omega)
                · have hbp : 0 < buf.length := List.length_pos_iff.2 hb0
                  obtain ⟨g, cap, rfl, hgB, hgl⟩ := HT.out.own.form hbp
                  have hrd := (Mem.own_ownsRow HT.out.own).2.reads
                  have s1 := hrd.str (P := Tryz.prog) 33 5 9 Tryz.underlying33 Tryz.underlying5 Tryz.underlying9 buf.length cap rfl
                  obtain ⟨R, hR⟩ : ∃ R : ByteArray, R = ⟨buf.toArray⟩ := ⟨_, rfl⟩
                  rw [← hR] at s1
                  have hRl : R.data.toList = buf := by rw [hR]
                  have hRz : R.size = buf.length := by rw [← len_list, hRl]
                  have hRs : R.size ≤ maxLen := by rw [hRz]; unfold maxLen; omega
                  have hRp : 0 < R.size := by omega
                  obtain ⟨od, hod⟩ : ∃ od, cmdV buf = od := ⟨_, rfl⟩
                  have HOD : Hid (rlineV R.data.toList = od) := by show _ = _; rw [hRl, line_rel, hod]
                  have HLN := Lib.hid (HLE.out.2.1 hb0)
                  have HLS := Lib.hid (HLE.out.2.2 hb0)
                  rw [hod] at HLN HLS
                  clear HLE hrd hR hRl hod HT hgB hgl
                  obtain ⟨n, hn⟩ : ∃ n, buf.length = n := ⟨_, rfl⟩
                  rw [hn] at s1 hRz hbp hbuf ⊢
                  have hn0 : ((n : Int) == 0) = false := by rw [beq_eq_false_iff_ne]; omega
                  clear hn hb0
                  go_wp2_with fail
                  with_reducible refine (rline_c R hRs hRp od HOD _).mono ?_
                  intro en w2 hco
                  have HP2 := Lib.hid (HP.out.below hco.1)
                  have hsz1 := HP.out.bel.size
                  have hres := hco.2
                  clear hco HP s1
                  cases od with
                  | none =>
                    obtain ⟨d, p, c', rfl⟩ := hres
                    have HEE : Hid (l = [] ∧ a = at0 ∧ e = 3) := by
                      have h3 := HLN.out rfl
                      simp only [Prod.mk.injEq] at h3
                      exact ⟨h3.1.symm, h3.2.1.symm, h3.2.2.symm⟩
                    obtain ⟨rfl, rfl, rfl⟩ := HEE.out
                    clear HLN HLS HEE
                    dsimp only [drVal, drCells]
                    go_wp2_with fail
                    go_ret3
                    exact ⟨_, rfl, ps_nil _ (HP2.out.bel.alloc HP2.out.bel.size _)⟩
                  | some d =>
                    obtain ⟨p, c', rfl, hn⟩ := hres
                    have HN : Hid (NumsIn w.heap.size w2 p d.nums) := hn.mono hsz1
                    have HR2 := Lib.hid (HLS.out d rfl)
                    clear hn HLN HLS
                    dsimp only [drVal, drCells]
                    go_upto_region 31 with fail
                    obtain ⟨g3, hg3⟩ : ∃ g3, w2.heap.size = g3 := ⟨_, rfl⟩
                    have HO3 : Hid (_ = _) := heap_alloc_new w2 (.cells #[.int .i64 (at0 : Int), .int .i64 d.k, .int .i64 d.n, .bool d.on, .string ⟨d.t.toArray⟩, .string ⟨d.x.toArray⟩, .string ⟨d.y.toArray⟩, .string ⟨d.u.toArray⟩, .string ⟨d.v.toArray⟩, .slice p d.nums.length c'] 32)
                    have hal := (Below.refl w2.heap.size w2).alloc (Nat.le_refl _) (.cells #[.int .i64 (at0 : Int), .int .i64 d.k, .int .i64 d.n, .bool d.on, .string ⟨d.t.toArray⟩, .string ⟨d.x.toArray⟩, .string ⟨d.y.toArray⟩, .string ⟨d.u.toArray⟩, .string ⟨d.v.toArray⟩, .slice p d.nums.length c'] 32)
                    have HP3 := Lib.hid (HP2.out.below hal)
                    have HN3 := Lib.hid (HN.out.below hal)
                    rw [hg3] at HO3
                    rw [hg3]
                    clear HP2 HN hal hg3
                    generalize w2.alloc (.cells #[.int .i64 (at0 : Int), .int .i64 d.k, .int .i64 d.n, .bool d.on, .string ⟨d.t.toArray⟩, .string ⟨d.x.toArray⟩, .string ⟨d.y.toArray⟩, .string ⟨d.u.toArray⟩, .string ⟨d.v.toArray⟩, .slice p d.nums.length c'] 32) = W3 at HO3 HP3 HN3 ⊢
                    obtain ⟨⟨c0, c1, c2, c3, c4, c5, c6, c7, c8, c9⟩, _⟩ := dr_at HO3.out
                    obtain ⟨xs, hx, hrw⟩ := HP3.out.own
                    have HXS := Lib.hid (And.intro hx hrw)
                    have hbel := Lib.hid HP3.out.bel
                    clear HP3 hx hrw HO3
                    go_wp2_with (at_builtin; refine wpList_append_own _ rfl _ _ _ rfl w.heap.size 32 i1 (.agg #[.int .i64 0, .int .i64 0, .int .i64 0, .bool false, .string ⟨#[]⟩, .string ⟨#[]⟩, .string ⟨#[]⟩, .string ⟨#[]⟩, .string ⟨#[]⟩, .slice none 0 0]) 10 136 Tryz.underlying24 HD.out.1 HD.out.2.1 HD.out.2.2.1 HD.out.2.2.2 rfl (by omega) u8 acc.length xs (by rfl) (HXS.out.1.alloc _) ⟨W3.heap.size, 0, none⟩ 1 1 [.int .i64 (at0 : Int), .int .i64 d.k, .int .i64 d.n, .bool d.on, .string ⟨d.t.toArray⟩, .string ⟨d.x.toArray⟩, .string ⟨d.y.toArray⟩, .string ⟨d.u.toArray⟩, .string ⟨d.v.toArray⟩, .slice p d.nums.length c'] (by rfl) rfl (World.news_of_block (heap_alloc_new W3 _)) (by simp [Value.oneCell']) (by unfold maxLen; omega) (by omega) (by have := hbel.out.size; simp; omega) ?_; intro v' w' hown' hgrow' hnn'; skip)
                    have HPN := Lib.hid (PsAt.push (x := (at0, d)) (c := c') HXS.out.1 HXS.out.2 hbel.out HN3.out hgrow' hown')
                    clear hown' hgrow' hnn'
                    go_round <;> first | exact ⟨j + 1, at0, acc ++ [(at0, d)], [], by omega, by omega, by simp; omega, by simp, rfl, by go_num, HR2.out, HPN.out, ⟨fun _ => rfl, rfl, .inl ⟨rfl, rfl⟩⟩⟩ | (simp [intOf] <;> omega)
            · have HE : Hid (l = acc ∧ a = 0 ∧ e = 0) := by
                have h3 := HRE.out
                unfold Rest at h3
                rw [if_neg (by rw [len_list]; omega)] at h3
                simp only [Prod.mk.injEq] at h3
                exact ⟨h3.1.symm, h3.2.1.symm, h3.2.2.symm⟩
              obtain ⟨rfl, rfl, rfl⟩ := HE.out
              go_wp2_with fail
              go_ret3
              exact ⟨_, rfl, HP.out⟩
end Go.Proofs.YtecpmnkgikcpnaaGreatDoor.YW
