/-
  What Parse returns, as pairs; the numbers of the expression statements' awake.
-/
import Derived.Test.YtkfjmcdfamhiaaaDoorParW
import Derived.Test.YtkfjmcdfamhiaaaDoorTextW
namespace Go.Proofs.YtkfjmcdfamhiaaaDoor.ExW
open Go.RowKit Go.Proofs.YtkfjmcdfamhiaaaDoor.Base Go.Proofs.YtkfjmcdfamhiaaaDoor.Dp Go.Proofs.YtkfjmcdfamhiaaaDoor.Ep Go.Proofs.YtkfjmcdfamhiaaaDoor.Fr Go.Proofs.YtkfjmcdfamhiaaaDoor.Tx Go.Proofs.YtkfjmcdfamhiaaaDoor.FrW Go.Proofs.YtkfjmcdfamhiaaaDoor.TxW Go.Proofs.YtkfjmcdfamhiaaaDoor.RdW

theorem pairs_new (w : World) (n d : Int) (t : TypeId) : PairsIn (w.alloc (.cells #[.int .i64 n, .int .i64 d] t)) (some ⟨w.heap.size, 0, none⟩) [(n, d)] := by
  intro _
  refine ⟨w.heap.size, 0, rfl, fun i hi => ?_⟩
  obtain rfl : i = 0 := by simp at hi; omega
  have h := heap_alloc_new w (.cells #[.int .i64 n, .int .i64 d] t)
  generalize w.alloc (.cells #[.int .i64 n, .int .i64 d] t) = W at h ⊢
  refine ⟨?_, ?_⟩ <;> simp [World.cell?, h]
/-- What Parse returns, as pairs. -/
theorem parse_p {l : List (Int × Int)} {a e : Nat} {w : World} {en : Ending} {w' : World} (h : ParseOut l a e w en w') : ∃ p c, en = .returned (.tuple #[.slice p l.length c, .int .i64 (a : Int), .int .i64 (e : Int)]) ∧ PairsIn w' p l ∧ Below w.heap.size w w' := by
  obtain ⟨v, rfl, ho, hb⟩ := h
  obtain ⟨p, c, rfl, hp, _, _⟩ := own_pairs ho
  exact ⟨p, c, rfl, hp, hb⟩

def L9 : List (Int × Int) := [(2, 1), (1, 2000000), (5, 0), (1, 3000000), (1, 500000), (4, 0), (1, 4000000), (6, 0), (4, 0)]
theorem a_parse : parseV [36, 49, 120, 50, 45, 40, 51, 45, 46, 53, 41, 47, 52] = (L9, 0, 0) := by decide +kernel
theorem a_parse2 : parseV [49, 43] = ([], 2, 3) := by decide +kernel
theorem a_eval : evalV [(5, 2)] L9 = (35, 8, 0) := by decide +kernel
theorem dd1 (n : Nat) (h : n < 10) : Lib.decDigits n = [UInt8.ofNat (48 + n)] := Lib.decDigits_one h
theorem tx (n : Nat) (h : n < 10) : textL ((n * 1000000 : Nat) : Int) = [UInt8.ofNat (48 + n)] := by
  rw [textL_nonneg _ (by omega)]
  unfold bodyL
  rw [Nat.mul_div_cancel _ (by decide), Nat.mul_mod_left, if_pos rfl, dd1 n h, List.append_nil]
theorem a_text : textV L9 = some [36, 49, 120, 50, 45, 40, 51, 45, 48, 46, 53, 41, 47, 52] := by
  have h2 : textL 2000000 = [50] := tx 2 (by decide)
  have h3 : textL 3000000 = [51] := tx 3 (by decide)
  have h4 : textL 4000000 = [52] := tx 4 (by decide)
  have h5 : textL 500000 = [48, 46, 53] := by
    rw [show (500000 : Int) = ((500000 : Nat) : Int) from rfl, textL_nonneg _ (by decide)]
    unfold bodyL
    rw [show 500000 / 1000000 = 0 from rfl, dd1 0 (by decide)]
    decide +kernel
  have h1 : Lib.decDigits 1 = [49] := dd1 1 (by decide)
  have e : textV L9 = textV (opsT (.bin 4 (.bin 5 (.var 1) (.num 2000000)) (.bin 6 (.bin 4 (.num 3000000) (.num 500000)) (.num 4000000)))) := rfl
  rw [e, text_T _ (by simp [WF])]
  simp [pcT, allFit, pairV, insideV, fits, Tx.rk, sign, h1, h2, h3, h4, h5]
  decide
end Go.Proofs.YtkfjmcdfamhiaaaDoor.ExW
