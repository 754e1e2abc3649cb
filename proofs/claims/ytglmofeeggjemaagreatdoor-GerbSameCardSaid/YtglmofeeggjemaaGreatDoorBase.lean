/-
  Base: the table of powers of ten that strconv reads; strings by their lists of bytes; the decimal numeral's contract over a named string.
-/
import Derived.Test.YtglmofeeggjemaaGreatDoorShelf
import Derived.WalkKit
import Derived.WalkSpells
import Derived.WalkLawsBesides
import Derived.Lib.Hide
import Derived.Lib.Strings
import Derived.Lib.ItoaLen
import Derived.Lib.AppendIntMem
import Derived.Deep.DeepCutAuto
import Derived.Deep.CutRange
import Derived.BigQuiet
import Derived.Deep.QuietTactic
import Derived.Outline
namespace Go.Proofs.YtglmofeeggjemaaGreatDoor.Base
open Go.RowKit

/-- The table of powers of ten lies as the program's text lays it. -/
def Tab (w : World) : Prop := Lib.TabIs Tryz.prog w "internal/strconv.uint64pow10" .u64 Lib.pow10Tab
theorem gTab : Tryz.prog.globalNamed "internal/strconv.uint64pow10" = some 3 := by kernel_rfl
theorem Tab.below {w w' : World} (h : Tab w) (hb : Below w.heap.size w w') : Tab w' := by
  unfold Tab Lib.TabIs at h ⊢
  have hlt : 3 < w.heap.size := by
    unfold World.var? at h
    simp only [gTab, Option.bind_some] at h
    apply Classical.byContradiction
    intro hn
    have : w.heap[3]? = none := by rw [Array.getElem?_eq_none_iff]; omega
    rw [this] at h
    simp at h
  exact var?_below hb gTab hlt h
theorem Tab.of_heap {w w' : World} (h : Tab w) (hh : w'.heap = w.heap) : Tab w' := by
  unfold Tab Lib.TabIs World.var? at h ⊢
  rw [hh]; exact h
theorem Tab.drewN {w : World} (h : Tab w) (n : Nat) : Tab (w.drewN n) := h.of_heap rfl
theorem Tab.drew {w : World} (h : Tab w) : Tab w.drew := h.of_heap rfl
theorem Tab.alloc {w : World} (h : Tab w) (o : Obj) : Tab (w.alloc o) := h.below ((Below.refl _ _).alloc (Nat.le_refl _) _)
theorem below_drewN {B : Nat} {a w : World} (h : Below B a w) (n : Nat) : Below B a (w.drewN n) := ⟨h.os, h.tape, h.output, h.size, h.block⟩

/-! ### Strings by their bytes -/
theorem str_eq {a b : ByteArray} (h : a.data.toList = b.data.toList) : a = b := by
  cases a; cases b; simp only [ByteArray.mk.injEq]; exact Array.toList_inj.1 h
theorem val_str {a b : ByteArray} (h : a.data.toList = b.data.toList) : Value.string a = Value.string b := by rw [str_eq h]
theorem ret_str {a b : ByteArray} (h : a.data.toList = b.data.toList) : Ending.returned (.string a) = Ending.returned (.string b) := by rw [str_eq h]
theorem len_list (s : ByteArray) : s.data.toList.length = s.size := by simp
theorem app_list (a b : ByteArray) : (a ++ b).data.toList = a.data.toList ++ b.data.toList := by simp
theorem mk_list (l : List UInt8) : (⟨l.toArray⟩ : ByteArray).data.toList = l := rfl
theorem ext_list (s : ByteArray) (k : Nat) : (s.extract k s.size).data.toList = s.data.toList.drop k := by
  rw [Lib.extract_data]
  exact List.take_of_length_le (by simp)
theorem str_ex (l : List UInt8) : ∃ S : ByteArray, S.data.toList = l := ⟨⟨l.toArray⟩, rfl⟩

end Go.Proofs.YtglmofeeggjemaaGreatDoor.Base
