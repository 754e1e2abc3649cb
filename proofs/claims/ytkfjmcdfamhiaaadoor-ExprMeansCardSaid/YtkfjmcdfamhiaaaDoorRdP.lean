/-
  The walks of the reader's product, sum, inner and factor.
-/
import Derived.Test.YtkfjmcdfamhiaaaDoorRdN
import Derived.Test.YtkfjmcdfamhiaaaDoorEr
namespace Go.Proofs.YtkfjmcdfamhiaaaDoor.RdW
open Go.RowKit Go.Proofs.YtkfjmcdfamhiaaaDoor.Dp Go.Proofs.YtkfjmcdfamhiaaaDoor.Base Go.Proofs.YtkfjmcdfamhiaaaDoor.Ep Go.Proofs.YtkfjmcdfamhiaaaDoor.Mem

/-- The place that lies in memory. -/
def atOf (R : Nat) (w : World) : Nat := match w.cell? ⟨R, 1, none⟩ with | some (.int _ q) => q.toNat | _ => 0
theorem atOf_rd {w0 w : World} {S : ByteArray} {R deep k : Nat} {st : St} {v : Value} (h : Rd w0 S R deep st k v w) : atOf R w = k := by
  unfold atOf
  rw [h.cells.2.1]
  simp
/-- What the walk of a factor shows. -/
def FacC (d : Nat) : Prop := ∀ (w0 : World) (S : ByteArray) (R deep : Nat) (st : St) (w : World), S.size ≤ 300 → deep + d = 30 → RdA w0 S R deep st w → st.e = 0 → st.ops.length + st.r.length ≤ 300 →
  Calls Tryd.prog 39 #[.pointer (some ⟨R, 0, none⟩)] w (Left w0 S R deep (factorV d st))
def ProdC (d : Nat) : Prop := ∀ (w0 : World) (S : ByteArray) (R deep : Nat) (st : St) (w : World), S.size ≤ 300 → deep + d = 30 → RdA w0 S R deep st w → st.e = 0 → st.ops.length + st.r.length ≤ 300 →
  Calls Tryd.prog 32 #[.pointer (some ⟨R, 0, none⟩)] w (Left w0 S R deep (prodV (factorV d) st))
def SumC (d : Nat) : Prop := ∀ (w0 : World) (S : ByteArray) (R deep : Nat) (st : St) (w : World), S.size ≤ 300 → deep + d = 30 → RdA w0 S R deep st w → st.e = 0 → st.ops.length + st.r.length ≤ 300 →
  Calls Tryd.prog 19 #[.pointer (some ⟨R, 0, none⟩)] w (Left w0 S R deep (sumV (factorV d) st))
theorem FacC.use {d : Nat} (hF : FacC d) {w0 : World} {S : ByteArray} {R deep : Nat} {st : St} {w : World} (hS : S.size ≤ 300) (hd : deep + d = 30) (h : RdA w0 S R deep st w) (he : st.e = 0) (hc : st.ops.length + st.r.length ≤ 300) :
    Calls Tryd.prog 39 #[.pointer (some ⟨R, 0, none⟩)] w (Left w0 S R deep (factorV d st)) := hF w0 S R deep st w hS hd h he hc
theorem ProdC.use {d : Nat} (hF : ProdC d) {w0 : World} {S : ByteArray} {R deep : Nat} {st : St} {w : World} (hS : S.size ≤ 300) (hd : deep + d = 30) (h : RdA w0 S R deep st w) (he : st.e = 0) (hc : st.ops.length + st.r.length ≤ 300) :
    Calls Tryd.prog 32 #[.pointer (some ⟨R, 0, none⟩)] w (Left w0 S R deep (prodV (factorV d) st)) := hF w0 S R deep st w hS hd h he hc
theorem SumC.use {d : Nat} (hF : SumC d) {w0 : World} {S : ByteArray} {R deep : Nat} {st : St} {w : World} (hS : S.size ≤ 300) (hd : deep + d = 30) (h : RdA w0 S R deep st w) (he : st.e = 0) (hc : st.ops.length + st.r.length ≤ 300) :
    Calls Tryd.prog 19 #[.pointer (some ⟨R, 0, none⟩)] w (Left w0 S R deep (sumV (factorV d) st)) := hF w0 S R deep st w hS hd h he hc
/-- A loop's state. -/
def LoopAt (op : UInt8 → Option Nat) (f : St → St) (goal : St) (st : St) (K : Nat) : Prop := goal = loopV op f K st ∧ st.r.length < K ∧ st.ops.length + st.r.length ≤ 300
theorem loop_done {op : UInt8 → Option Nat} {f : St → St} {goal st : St} {K : Nat} (h : LoopAt op f goal st K) (hs : st.e = 0 → op (hd st.r) = none) : goal = st := by rw [h.1, loop_stop _ hs]
theorem loop_next {op : UInt8 → Option Nat} (h0 : op 0 = none) {f : St → St} (hf : Cnt f) (hd1 : Down f) {goal st : St} {K q : Nat} (h : LoopAt op f goal st K) (he : st.e = 0) (hq : op (hd st.r) = some q) :
    LoopAt op f goal (put (f ⟨st.r.drop 1, st.ops, 0⟩) q 0) (K - 1) ∧ (put (f ⟨st.r.drop 1, st.ops, 0⟩) q 0).r.length < st.r.length ∧ st.r ≠ [] := by
  have hne := op_ne h0 hq
  have hp := List.length_pos_iff.2 hne
  have h1 := hd1 ⟨st.r.drop 1, st.ops, 0⟩
  have h2 := hf ⟨st.r.drop 1, st.ops, 0⟩
  have h3 := put_len (f ⟨st.r.drop 1, st.ops, 0⟩) q 0
  simp only [List.length_drop] at h1 h2
  have h4 := h.2.1
  have h5 := h.2.2
  obtain ⟨K', rfl⟩ : ∃ j, K = j + 1 := ⟨K - 1, by omega⟩
  refine ⟨⟨?_, ?_, ?_⟩, ?_, hne⟩
  · rw [h.1, loop_step _ he hq]; rfl
  · rw [put_r]; omega
  · rw [put_r]; omega
  · rw [put_r]; omega
theorem Rd.next1 {w0 w : World} {S : ByteArray} {R deep k : Nat} {st : St} {v : Value} (h : Rd w0 S R deep st k v w) (hne : st.r ≠ []) (he : st.e = 0) : Rd w0 S R deep ⟨st.r.drop 1, st.ops, 0⟩ (k + 1) v (w.setCell ⟨R, 1, none⟩ (.int .i64 ((k : Int) + 1))) := by
  obtain ⟨h1, h2⟩ := rest_head h.rest hne
  have := h.step (m := k + 1) (by omega) h2
  rw [he] at this
  exact this
theorem hdI_eq {r : List UInt8} {c : UInt8} (h : hd r = c) : hdI r = (c.toNat : Int) := by unfold hdI; rw [h]
theorem hdI_ne {r : List UInt8} {c : UInt8} (h : hd r ≠ c) : (hdI r == (c.toNat : Int)) = false := by
  rw [beq_eq_false_iff_ne]
  unfold hdI
  intro e
  apply h
  apply UInt8.toNat_inj.1
  omega

set_option maxRecDepth 100000 in
set_option maxHeartbeats 1600000 in
theorem product_c (d : Nat) (hF : FacC d) : ProdC d := by
  intro w0 S R deep st w hS hdd h he hcnt
  go_enter Tryd.func32, Tryd.ntmps32
  go_wp2_with fail
  with_reducible refine (hF.use hS hdd h he hcnt).mono ?_
  rintro e w1 ⟨rfl, h1⟩
  have HL : Hid (LoopAt opP (factorV d) (prodV (factorV d) st) (factorV d st) (st.r.length + 1)) := ⟨rfl, by have := factorV_le d st; omega, by have := factor_cnt d st; omega⟩
  have HR := Lib.hid h1
  clear h he hcnt h1
  go_wp2_with fail
  go_loopw [2] (fun _ wr => ∃ (st' : St) (K : Nat), Hid (RdA w0 S R deep st' wr) ∧ Hid (LoopAt opP (factorV d) (prodV (factorV d) st) st' K)) (fun _ wr => S.size - atOf R wr)
  case atStart => exact ⟨_, _, HR, HL⟩
  case round =>
    obtain ⟨st', K, HR', HL'⟩ := hrel
    clear HR HL
    obtain ⟨k, v, h⟩ := HR'.out
    have H := Lib.hid h
    obtain ⟨c0, c1, c2, c3, c4⟩ := h.cells
    have f1 := h.frozen 1
    have hk300 : k ≤ 300 := Nat.le_trans h.k_le hS
    clear h
    by_cases he : st'.e = 0
    · have te : ((st'.e : Int) == 0) = true := by rw [he]; rfl
      have HE := Lib.hid he
      clear he
      obtain ⟨c, hc⟩ : ∃ c, hdI st'.r = c := ⟨_, rfl⟩
      have HC := Lib.hid hc
      by_cases b120 : hd st'.r = 120
      · have t120 : (c == 120) = true := by rw [← hc, hdI_eq b120]; rfl
        have HB := b120
        have HQ : Hid (opP (hd st'.r) = some 5) := by show _ = _; rw [HB]; rfl
        have h1 := loop_next rfl (factor_cnt d) (factorV_le d) HL'.out HE.out HQ.out
        have HLN := Lib.hid h1
        have HNE : Hid (st'.r ≠ []) := h1.2.2
        have HCN : Hid ((⟨st'.r.drop 1, st'.ops, 0⟩ : St).ops.length + (⟨st'.r.drop 1, st'.ops, 0⟩ : St).r.length ≤ 300) := by
          show st'.ops.length + (st'.r.drop 1).length ≤ 300
          have := HL'.out.2.2
          rw [List.length_drop]; omega
        have HCP : Hid (((factorV d) ⟨st'.r.drop 1, st'.ops, 0⟩).ops.length ≤ 1000) := by
          show _ ≤ _
          have g1 := (factor_cnt d) ⟨st'.r.drop 1, st'.ops, 0⟩
          have g2 := HCN.out
          omega
        clear HB hc b120
        clear h1
        go_wp2_with fail
        with_reducible refine (next_c _ H c HC).mono ?_
        rintro e w' ⟨nn, rfl, rfl⟩
        have HN := Lib.hid ((H.out.drewN nn).next1 HNE.out HE.out).any
        go_wp2_with fail
        with_reducible refine (hF.use (st := ⟨st'.r.drop 1, st'.ops, 0⟩) hS hdd HN.out rfl HCN.out).mono ?_
        rintro e w2 ⟨rfl, h2⟩
        go_wp2_with fail
        with_reducible refine (put_c _ h2 HCP.out 5 0).mono ?_
        rintro e w3 ⟨rfl, h3⟩
        go_wp2_with fail
        have HM : Hid (S.size - atOf R w3 < S.size - atOf R wr) := by
          show _ < _
          obtain ⟨k3, v3, h3'⟩ := h3
          rw [atOf_rd h3', atOf_rd H.out]
          have g1 := h3'.len
          have g2 := H.out.len
          have g3 := HLN.out.2.1
          have g4 := List.length_pos_iff.2 HNE.out
          rw [put_r] at g1 g3
          omega
        go_roundw
        case rel => exact ⟨_, _, h3, HLN.out.1⟩
        case measure => exact HM.out
      · have t120 : (c == 120) = false := by rw [← hc]; exact hdI_ne b120
        by_cases b88 : hd st'.r = 88
        · have t88 : (c == 88) = true := by rw [← hc, hdI_eq b88]; rfl
          have HB := b88
          have HQ : Hid (opP (hd st'.r) = some 5) := by show _ = _; rw [HB]; rfl
          have h1 := loop_next rfl (factor_cnt d) (factorV_le d) HL'.out HE.out HQ.out
          have HLN := Lib.hid h1
          have HNE : Hid (st'.r ≠ []) := h1.2.2
          have HCN : Hid ((⟨st'.r.drop 1, st'.ops, 0⟩ : St).ops.length + (⟨st'.r.drop 1, st'.ops, 0⟩ : St).r.length ≤ 300) := by
            show st'.ops.length + (st'.r.drop 1).length ≤ 300
            have := HL'.out.2.2
            rw [List.length_drop]; omega
          have HCP : Hid (((factorV d) ⟨st'.r.drop 1, st'.ops, 0⟩).ops.length ≤ 1000) := by
            show _ ≤ _
            have g1 := (factor_cnt d) ⟨st'.r.drop 1, st'.ops, 0⟩
            have g2 := HCN.out
            omega
          clear HB hc b88
          clear h1
          go_wp2_with fail
          with_reducible refine (next_c _ H c HC).mono ?_
          rintro e w' ⟨nn, rfl, rfl⟩
          have HN := Lib.hid ((H.out.drewN nn).next1 HNE.out HE.out).any
          go_wp2_with fail
          with_reducible refine (hF.use (st := ⟨st'.r.drop 1, st'.ops, 0⟩) hS hdd HN.out rfl HCN.out).mono ?_
          rintro e w2 ⟨rfl, h2⟩
          go_wp2_with fail
          with_reducible refine (put_c _ h2 HCP.out 5 0).mono ?_
          rintro e w3 ⟨rfl, h3⟩
          go_wp2_with fail
          have HM : Hid (S.size - atOf R w3 < S.size - atOf R wr) := by
            show _ < _
            obtain ⟨k3, v3, h3'⟩ := h3
            rw [atOf_rd h3', atOf_rd H.out]
            have g1 := h3'.len
            have g2 := H.out.len
            have g3 := HLN.out.2.1
            have g4 := List.length_pos_iff.2 HNE.out
            rw [put_r] at g1 g3
            omega
          go_roundw
          case rel => exact ⟨_, _, h3, HLN.out.1⟩
          case measure => exact HM.out
        · have t88 : (c == 88) = false := by rw [← hc]; exact hdI_ne b88
          by_cases b47 : hd st'.r = 47
          · have t47 : (c == 47) = true := by rw [← hc, hdI_eq b47]; rfl
            have HB := b47
            have HQ : Hid (opP (hd st'.r) = some 6) := by show _ = _; rw [HB]; rfl
            have h1 := loop_next rfl (factor_cnt d) (factorV_le d) HL'.out HE.out HQ.out
            have HLN := Lib.hid h1
            have HNE : Hid (st'.r ≠ []) := h1.2.2
            have HCN : Hid ((⟨st'.r.drop 1, st'.ops, 0⟩ : St).ops.length + (⟨st'.r.drop 1, st'.ops, 0⟩ : St).r.length ≤ 300) := by
              show st'.ops.length + (st'.r.drop 1).length ≤ 300
              have := HL'.out.2.2
              rw [List.length_drop]; omega
            have HCP : Hid (((factorV d) ⟨st'.r.drop 1, st'.ops, 0⟩).ops.length ≤ 1000) := by
              show _ ≤ _
              have g1 := (factor_cnt d) ⟨st'.r.drop 1, st'.ops, 0⟩
              have g2 := HCN.out
              omega
            clear HB hc b47
            clear h1
            go_wp2_with fail
            with_reducible refine (next_c _ H c HC).mono ?_
            rintro e w' ⟨nn, rfl, rfl⟩
            have HN := Lib.hid ((H.out.drewN nn).next1 HNE.out HE.out).any
            go_wp2_with fail
            with_reducible refine (hF.use (st := ⟨st'.r.drop 1, st'.ops, 0⟩) hS hdd HN.out rfl HCN.out).mono ?_
            rintro e w2 ⟨rfl, h2⟩
            go_wp2_with fail
            with_reducible refine (put_c _ h2 HCP.out 6 0).mono ?_
            rintro e w3 ⟨rfl, h3⟩
            go_wp2_with fail
            have HM : Hid (S.size - atOf R w3 < S.size - atOf R wr) := by
              show _ < _
              obtain ⟨k3, v3, h3'⟩ := h3
              rw [atOf_rd h3', atOf_rd H.out]
              have g1 := h3'.len
              have g2 := H.out.len
              have g3 := HLN.out.2.1
              have g4 := List.length_pos_iff.2 HNE.out
              rw [put_r] at g1 g3
              omega
            go_roundw
            case rel => exact ⟨_, _, h3, HLN.out.1⟩
            case measure => exact HM.out
          · have t47 : (c == 47) = false := by rw [← hc]; exact hdI_ne b47
            have HD : Hid (prodV (factorV d) st = st') := loop_done HL'.out (fun _ => by unfold opP; simp [b120, b88, b47])
            clear hc b120 b88 b47
            go_wp2_with fail
            with_reducible refine (next_c _ H c HC).mono ?_
            rintro e w' ⟨nn, rfl, rfl⟩
            go_wp2_with fail
            refine bodyPost_ret (results_none rfl _ _ _) rfl ?_
            exact ⟨rfl, by rw [HD.out]; exact (H.out.drewN nn).any⟩
    · have te : ((st'.e : Int) == 0) = false := by simp; omega
      have HD : Hid (prodV (factorV d) st = st') := loop_done HL'.out (fun h => absurd h he)
      clear he
      go_wp2_with fail
      go_end0
      exact ⟨rfl, by rw [HD.out]; exact H.out.any⟩
set_option maxRecDepth 100000 in
set_option maxHeartbeats 1600000 in
theorem sum_c (d : Nat) (hF : ProdC d) : SumC d := by
  intro w0 S R deep st w hS hdd h he hcnt
  go_enter Tryd.func19, Tryd.ntmps19
  go_wp2_with fail
  with_reducible refine (hF.use hS hdd h he hcnt).mono ?_
  rintro e w1 ⟨rfl, h1⟩
  have HL : Hid (LoopAt opS (prodV (factorV d)) (sumV (factorV d) st) (prodV (factorV d) st) (st.r.length + 1)) := ⟨rfl, by have := prodV_le (factorV_le d) st; omega, by have := prod_cnt (factor_cnt d) st; omega⟩
  have HR := Lib.hid h1
  clear h he hcnt h1
  go_wp2_with fail
  go_loopw [2] (fun _ wr => ∃ (st' : St) (K : Nat), Hid (RdA w0 S R deep st' wr) ∧ Hid (LoopAt opS (prodV (factorV d)) (sumV (factorV d) st) st' K)) (fun _ wr => S.size - atOf R wr)
  case atStart => exact ⟨_, _, HR, HL⟩
  case round =>
    obtain ⟨st', K, HR', HL'⟩ := hrel
    clear HR HL
    obtain ⟨k, v, h⟩ := HR'.out
    have H := Lib.hid h
    obtain ⟨c0, c1, c2, c3, c4⟩ := h.cells
    have f1 := h.frozen 1
    have hk300 : k ≤ 300 := Nat.le_trans h.k_le hS
    clear h
    by_cases he : st'.e = 0
    · have te : ((st'.e : Int) == 0) = true := by rw [he]; rfl
      have HE := Lib.hid he
      clear he
      obtain ⟨c, hc⟩ : ∃ c, hdI st'.r = c := ⟨_, rfl⟩
      have HC := Lib.hid hc
      by_cases b43 : hd st'.r = 43
      · have t43 : (c == 43) = true := by rw [← hc, hdI_eq b43]; rfl
        have HB := b43
        have HQ : Hid (opS (hd st'.r) = some 3) := by show _ = _; rw [HB]; rfl
        have h1 := loop_next rfl (prod_cnt (factor_cnt d)) (prodV_le (factorV_le d)) HL'.out HE.out HQ.out
        have HLN := Lib.hid h1
        have HNE : Hid (st'.r ≠ []) := h1.2.2
        have HCN : Hid ((⟨st'.r.drop 1, st'.ops, 0⟩ : St).ops.length + (⟨st'.r.drop 1, st'.ops, 0⟩ : St).r.length ≤ 300) := by
          show st'.ops.length + (st'.r.drop 1).length ≤ 300
          have := HL'.out.2.2
          rw [List.length_drop]; omega
        have HCP : Hid (((prodV (factorV d)) ⟨st'.r.drop 1, st'.ops, 0⟩).ops.length ≤ 1000) := by
          show _ ≤ _
          have g1 := (prod_cnt (factor_cnt d)) ⟨st'.r.drop 1, st'.ops, 0⟩
          have g2 := HCN.out
          omega
        clear HB hc b43
        clear h1
        go_wp2_with fail
        with_reducible refine (next_c _ H c HC).mono ?_
        rintro e w' ⟨nn, rfl, rfl⟩
        have HN := Lib.hid ((H.out.drewN nn).next1 HNE.out HE.out).any
        go_wp2_with fail
        with_reducible refine (hF.use (st := ⟨st'.r.drop 1, st'.ops, 0⟩) hS hdd HN.out rfl HCN.out).mono ?_
        rintro e w2 ⟨rfl, h2⟩
        go_wp2_with fail
        with_reducible refine (put_c _ h2 HCP.out 3 0).mono ?_
        rintro e w3 ⟨rfl, h3⟩
        go_wp2_with fail
        have HM : Hid (S.size - atOf R w3 < S.size - atOf R wr) := by
          show _ < _
          obtain ⟨k3, v3, h3'⟩ := h3
          rw [atOf_rd h3', atOf_rd H.out]
          have g1 := h3'.len
          have g2 := H.out.len
          have g3 := HLN.out.2.1
          have g4 := List.length_pos_iff.2 HNE.out
          rw [put_r] at g1 g3
          omega
        go_roundw
        case rel => exact ⟨_, _, h3, HLN.out.1⟩
        case measure => exact HM.out
      · have t43 : (c == 43) = false := by rw [← hc]; exact hdI_ne b43
        by_cases b45 : hd st'.r = 45
        · have t45 : (c == 45) = true := by rw [← hc, hdI_eq b45]; rfl
          have HB := b45
          have HQ : Hid (opS (hd st'.r) = some 4) := by show _ = _; rw [HB]; rfl
          have h1 := loop_next rfl (prod_cnt (factor_cnt d)) (prodV_le (factorV_le d)) HL'.out HE.out HQ.out
          have HLN := Lib.hid h1
          have HNE : Hid (st'.r ≠ []) := h1.2.2
          have HCN : Hid ((⟨st'.r.drop 1, st'.ops, 0⟩ : St).ops.length + (⟨st'.r.drop 1, st'.ops, 0⟩ : St).r.length ≤ 300) := by
            show st'.ops.length + (st'.r.drop 1).length ≤ 300
            have := HL'.out.2.2
            rw [List.length_drop]; omega
          have HCP : Hid (((prodV (factorV d)) ⟨st'.r.drop 1, st'.ops, 0⟩).ops.length ≤ 1000) := by
            show _ ≤ _
            have g1 := (prod_cnt (factor_cnt d)) ⟨st'.r.drop 1, st'.ops, 0⟩
            have g2 := HCN.out
            omega
          clear HB hc b45
          clear h1
          go_wp2_with fail
          with_reducible refine (next_c _ H c HC).mono ?_
          rintro e w' ⟨nn, rfl, rfl⟩
          have HN := Lib.hid ((H.out.drewN nn).next1 HNE.out HE.out).any
          go_wp2_with fail
          with_reducible refine (hF.use (st := ⟨st'.r.drop 1, st'.ops, 0⟩) hS hdd HN.out rfl HCN.out).mono ?_
          rintro e w2 ⟨rfl, h2⟩
          go_wp2_with fail
          with_reducible refine (put_c _ h2 HCP.out 4 0).mono ?_
          rintro e w3 ⟨rfl, h3⟩
          go_wp2_with fail
          have HM : Hid (S.size - atOf R w3 < S.size - atOf R wr) := by
            show _ < _
            obtain ⟨k3, v3, h3'⟩ := h3
            rw [atOf_rd h3', atOf_rd H.out]
            have g1 := h3'.len
            have g2 := H.out.len
            have g3 := HLN.out.2.1
            have g4 := List.length_pos_iff.2 HNE.out
            rw [put_r] at g1 g3
            omega
          go_roundw
          case rel => exact ⟨_, _, h3, HLN.out.1⟩
          case measure => exact HM.out
        · have t45 : (c == 45) = false := by rw [← hc]; exact hdI_ne b45
          have HD : Hid (sumV (factorV d) st = st') := loop_done HL'.out (fun _ => by unfold opS; simp [b43, b45])
          clear hc b43 b45
          go_wp2_with fail
          with_reducible refine (next_c _ H c HC).mono ?_
          rintro e w' ⟨nn, rfl, rfl⟩
          go_wp2_with fail
          refine bodyPost_ret (results_none rfl _ _ _) rfl ?_
          exact ⟨rfl, by rw [HD.out]; exact (H.out.drewN nn).any⟩
    · have te : ((st'.e : Int) == 0) = false := by simp; omega
      have HD : Hid (sumV (factorV d) st = st') := loop_done HL'.out (fun h => absurd h he)
      clear he
      go_wp2_with fail
      go_end0
      exact ⟨rfl, by rw [HD.out]; exact H.out.any⟩
end Go.Proofs.YtkfjmcdfamhiaaaDoor.RdW
