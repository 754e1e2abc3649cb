/-
  Plain: the lines of the statement ExceForms, and what each is (chapter 19.1). No program in sight.
-/
import Derived.Test.YtecpmnkgikcpnaaDoorXp
namespace Go.Proofs.YtecpmnkgikcpnaaDoor.Xp

def forms : List (List UInt8 × Option D) := [
  ([77, 52, 56], some (kd 2)),
  ([77, 69, 84, 82, 73, 67], some { kd 3 with n := 1 }),
  ([73, 78, 67, 72, 44, 84, 90], some { kd 3 with n := 2, on := true }),
  ([73, 78, 67, 72, 44, 84, 88], none),
  ([84, 55], some { kd 6 with n := 7 }),
  ([84, 48], some (kd 6)),
  ([84, 48, 55], none),
  ([84, 49, 48, 48], none),
  ([84, 49, 50, 67, 49, 46, 53], some { kd 4 with n := 12, nums := [1500000] }),
  ([84, 49, 50, 67], none),
  ([84, 48, 67, 49], none),
  ([88, 49], some { kd 7 with x := [49] }),
  ([89, 45, 46, 53], some { kd 7 with y := [45, 46, 53] }),
  ([88], none),
  ([88, 43], none),
  ([88, 49, 88, 50], none),
  ([89, 49, 88, 50], none),
  ([88, 49, 50, 51, 52, 53, 54, 55, 56, 57, 48, 49, 50, 51], none),
  ([88, 49, 50, 51, 52, 53, 54, 55, 46, 49], none),
  ([88, 49, 89, 50, 71, 56, 53, 88, 51], some { kd 8 with x := [49], y := [50], u := [51] }),
  ([88, 49, 71, 56, 53], none),
  ([71, 56, 53, 88, 49], none),
  ([71, 48, 48, 88, 49, 89, 50], some { kd 9 with x := [49], y := [50] }),
  ([71, 48, 48], none),
  ([71, 48, 49, 89, 50], some { kd 11 with y := [50] }),
  ([82, 53, 88, 49], some { kd 12 with n := 5, x := [49] }),
  ([82, 48, 88, 49], none),
  ([82, 49, 48, 48, 48, 48, 88, 49], none),
  ([82, 53], none),
  ([77, 49, 53], some { kd 10 with on := true }),
  ([77, 49, 54], some (kd 10)),
  ([37], some (kd 5)),
  ([37, 37], none),
  ([59, 32, 97, 32, 110, 111, 116, 101], some { kd 1 with t := [32, 97, 32, 110, 111, 116, 101] }),
  ([32, 88, 49], none),
  ([77, 51, 48], some (kd 15)),
  ([77, 48, 48], none)]
def formOut (o : Option D) : List (Nat × D) × Nat × Nat := match o with
  | some d => ([(1, d)], 0, 0)
  | none => ([], 1, 3)
theorem forms_all : ∀ i : Fin 37, parseX (10 :: ((forms.getD i.val ([], none)).1 ++ [10])) = formOut (forms.getD i.val ([], none)).2 := by decide +kernel
end Go.Proofs.YtecpmnkgikcpnaaDoor.Xp
