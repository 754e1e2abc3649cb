/-
  The walk of gerb's one.
-/
import Derived.Test.YtglmofeeggjemaaGreatDoorGj
set_option linter.unusedVariables false
namespace Go.Proofs.YtglmofeeggjemaaGreatDoor.GW
open Go.RowKit Go.Proofs.YtglmofeeggjemaaGreatDoor.Base Go.Proofs.YtglmofeeggjemaaGreatDoor.Dp Go.Proofs.YtglmofeeggjemaaGreatDoor.DeciW Go.Proofs.YtglmofeeggjemaaGreatDoor.Mem Go.Proofs.YtglmofeeggjemaaGreatDoor.RdW Go.Proofs.YtglmofeeggjemaaGreatDoor.Gp

def at0 (l : List C) : List (Nat × C) := l.map fun c => (0, c)
/-- What plain returns. -/
def PlainOut (res : Except Nat (List C)) (w : World) (e : Ending) (w' : World) : Prop := Below w.heap.size w w' ∧ match res with
  | .ok l => ∃ v, e = .returned (.tuple #[v, .int .i64 0]) ∧ CmdsAt w.heap.size w' v (at0 l)
  | .error k => e = .returned (.tuple #[nils, .int .i64 (k : Int)])

set_option maxRecDepth 100000 in
set_option maxHeartbeats 800000 in
theorem one_c (c : C) (hn : c.nums = []) (hb : c.blocks = []) (w : World) :
    Calls Tryz.prog 23 #[cmVal c 0 nils nils] w (PlainOut (.ok [c]) w) := by
  have HN := Lib.hid hn
  have HB := Lib.hid hb
  clear hn hb
  unfold cmVal cmCells
  have HW : Hid (CmdsAt w.heap.size ((w.alloc (.cells #[.int .i64 0, .int .i64 c.k, .int .i64 c.n, .int .i64 c.m, .bool c.on, .string ⟨c.t.toArray⟩, .string ⟨c.x.toArray⟩, .string ⟨c.y.toArray⟩, .string ⟨c.i.toArray⟩, .string ⟨c.j.toArray⟩, nils, nils] 32)).alloc (.cells #[.int .i64 0, .int .i64 c.k, .int .i64 c.n, .int .i64 c.m, .bool c.on, .string ⟨c.t.toArray⟩, .string ⟨c.x.toArray⟩, .string ⟨c.y.toArray⟩, .string ⟨c.i.toArray⟩, .string ⟨c.j.toArray⟩, nils, nils] 32)) (.slice (some ⟨w.heap.size + 1, 0, none⟩) 1 1) (at0 [c])) := by
    have h := heap_alloc_new (w.alloc (.cells #[.int .i64 0, .int .i64 c.k, .int .i64 c.n, .int .i64 c.m, .bool c.on, .string ⟨c.t.toArray⟩, .string ⟨c.x.toArray⟩, .string ⟨c.y.toArray⟩, .string ⟨c.i.toArray⟩, .string ⟨c.j.toArray⟩, nils, nils] 32)) (.cells #[.int .i64 0, .int .i64 c.k, .int .i64 c.n, .int .i64 c.m, .bool c.on, .string ⟨c.t.toArray⟩, .string ⟨c.x.toArray⟩, .string ⟨c.y.toArray⟩, .string ⟨c.i.toArray⟩, .string ⟨c.j.toArray⟩, nils, nils] 32)
    rw [show (w.alloc (.cells #[.int .i64 0, .int .i64 c.k, .int .i64 c.n, .int .i64 c.m, .bool c.on, .string ⟨c.t.toArray⟩, .string ⟨c.x.toArray⟩, .string ⟨c.y.toArray⟩, .string ⟨c.i.toArray⟩, .string ⟨c.j.toArray⟩, nils, nils] 32)).heap.size = w.heap.size + 1 by simp] at h
    refine ⟨_, ⟨rfl, .inr ⟨w.heap.size + 1, 1, _, rfl, Nat.le_succ _, h, Nat.le_refl _, by unfold maxLen; omega, rfl, ?_⟩⟩, .cons (p := none) (q := none) (k := 0) (m := 0) (by rw [HN.out]; exact NumsIn.nil _ _ _) (by rw [HB.out]; exact BlksIn.nil _ _ _) .nil⟩
    simp only [HN.out, HB.out]
    rfl
  have HBB : Hid (Below w.heap.size w ((w.alloc (.cells #[.int .i64 0, .int .i64 c.k, .int .i64 c.n, .int .i64 c.m, .bool c.on, .string ⟨c.t.toArray⟩, .string ⟨c.x.toArray⟩, .string ⟨c.y.toArray⟩, .string ⟨c.i.toArray⟩, .string ⟨c.j.toArray⟩, nils, nils] 32)).alloc (.cells #[.int .i64 0, .int .i64 c.k, .int .i64 c.n, .int .i64 c.m, .bool c.on, .string ⟨c.t.toArray⟩, .string ⟨c.x.toArray⟩, .string ⟨c.y.toArray⟩, .string ⟨c.i.toArray⟩, .string ⟨c.j.toArray⟩, nils, nils] 32))) := ((Below.refl _ _).alloc (Nat.le_refl _) _).alloc (by simp) _
  go_enter Tryz.func23, Tryz.ntmps23
  go_wp2_with fail
  go_ret2
  exact ⟨HBB.out, _, rfl, HW.out⟩
/-- The same, the cells spelled out. -/
theorem one_at (k n m : Int) (on : Bool) (t x y i j : List UInt8) (w : World) :
    Calls Tryz.prog 23 #[.agg #[.int .i64 0, .int .i64 k, .int .i64 n, .int .i64 m, .bool on, .string ⟨t.toArray⟩, .string ⟨x.toArray⟩, .string ⟨y.toArray⟩, .string ⟨i.toArray⟩, .string ⟨j.toArray⟩, .slice none 0 0, .slice none 0 0]] w (PlainOut (.ok [⟨k, n, m, on, t, x, y, i, j, [], []⟩]) w) :=
  one_c ⟨k, n, m, on, t, x, y, i, j, [], []⟩ rfl rfl w
end Go.Proofs.YtglmofeeggjemaaGreatDoor.GW
