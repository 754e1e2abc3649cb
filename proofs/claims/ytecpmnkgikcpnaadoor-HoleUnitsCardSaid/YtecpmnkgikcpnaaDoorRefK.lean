/-
  The walk of the reference's DecOk.
-/
import Derived.Test.YtecpmnkgikcpnaaDoorDeciV
import Derived.Test.YtecpmnkgikcpnaaDoorBase
namespace Go.Proofs.YtecpmnkgikcpnaaDoor.DeciW
open Go.RowKit Go.Proofs.YtecpmnkgikcpnaaDoor.Dp Go.Proofs.YtecpmnkgikcpnaaDoor.Base

set_option maxHeartbeats 400000 in
theorem rok_any (n : Int) (w : World) : Calls Tryd.prog 19 #[.int .i64 n] w fun e w' => e = .returned (.bool (okN n)) ∧ w = w' := by
  go_enter Tryd.func19, Tryd.ntmps19
  by_cases h1 : -1000000000000 < n
  · by_cases h2 : n < 1000000000000
    · have hb : okN n = true := by simp [okN, h1, h2]
      have HB := Lib.hid hb
      clear hb
      go_wp2
      go_ret
      rw [HB.out]; exact ⟨rfl, rfl⟩
    · have hb : okN n = false := by simp [okN, h2]
      have HB := Lib.hid hb
      clear hb
      go_wp2
      go_ret
      rw [HB.out]; exact ⟨rfl, rfl⟩
  · have hb : okN n = false := by simp [okN, h1]
    have HB := Lib.hid hb
    clear hb
    go_wp2
    go_ret
    rw [HB.out]; exact ⟨rfl, rfl⟩

end Go.Proofs.YtecpmnkgikcpnaaDoor.DeciW
