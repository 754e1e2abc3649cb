/-
  Plain: an argument of bytes, opened.
-/
import Derived.Test.YtmclabehdjdpnaaDoorMem
import Derived.ProofKit
namespace Go.Proofs.YtmclabehdjdpnaaDoor.Mem
open Go.ChangeShapes Go.WideShapes Go.ChangeAt Go.RowKit

theorem byte_wf {x : Int} (h : (Lit.int .u8 x).wf = true) : 0 ≤ x ∧ x ≤ 255 := by
  have h1 : IntKind.u8.min = 0 := rfl
  have h2 : IntKind.u8.max = 255 := rfl
  simp only [Lit.wf, Bool.and_eq_true, decide_eq_true_eq] at h
  omega
theorem open_bytes_cell {H : Type} {enc : TypeId × Value → H} {P : Program} {t e : TypeId} (ht : P.underlying t = some (.slice e)) (he : P.underlying e = some (.int .u8)) (hc : P.cellsOf e = 1) {W : World} {v : Value} {fuel : Nat} {x : DataW H × List MemPlace}
    (h : DataW.trod enc P W 0 (fun _ => true) true fuel t [v] = some x) :
    ∃ (a : Option Addr) (len cap : Nat) (l : List UInt8), v = .slice a len cap ∧ Hid (len = l.length) ∧ len ≤ cap ∧ cap ≤ maxLen ∧ RB W a l := by
  rcases open_ints ht he hc h with ⟨hcs, _⟩ | ⟨a, len, cap, zs, hcs, _, hl, hm, hz, _, hcell, hwz⟩
  · simp only [List.cons.injEq, and_true] at hcs
    exact ⟨none, 0, 0, [], hcs, rfl, Nat.le_refl _, Nat.zero_le _, RB.nil _ _⟩
  · simp only [List.cons.injEq, and_true] at hcs
    simp only [if_true] at hz
    have hlen : (zs.take len).length = len := by simp; omega
    refine ⟨some a, len, cap, Lib.bytesOf (zs.take len), hcs, ?_, hl, hm, RB.of_ints hlen (fun i hi => ?_) (fun x hx => byte_wf (hwz x (List.mem_of_mem_take hx)))⟩
    · show _ = _
      simp [Lib.bytesOf]; omega
    · rw [hcell i (by omega)]; simp [List.getD, hi]
theorem open_bytes {H : Type} {enc : TypeId × Value → H} {P : Program} {r : Reach} {b0 : Nat} {t e : TypeId} (ht : P.underlying t = some (.slice e)) (he : P.underlying e = some (.int .u8)) (hc : P.cellsOf e = 1) {W : World} {v : Value} {d : DataW H} {p : List MemPlace}
    (hv : Value.okWide P W r b0 t v) (h : DataW.Trod enc P W 0 (fun _ => true) true t v d p) :
    ∃ (a : Option Addr) (len cap : Nat) (l : List UInt8), v = .slice a len cap ∧ Hid (len = l.length) ∧ len ≤ cap ∧ cap ≤ maxLen ∧ RB W a l := by
  obtain ⟨a, len, cap, rfl⟩ := okWide_slice ht hv
  obtain ⟨fuel, hf⟩ := h
  have hcl : (Value.slice a len cap).cells.toList = [.slice a len cap] := by simp [Value.cells]
  rw [hcl] at hf
  exact open_bytes_cell ht he hc hf
end Go.Proofs.YtmclabehdjdpnaaDoor.Mem
