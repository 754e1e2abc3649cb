/-
  Proved: every error, limit and kind has the number that the document gives (heliographlaw0.NamesNumbers returns true). Conditions: the row's own (the package-level tables read as the program's text lays them, tied by the card).
-/
import Derived.Test.YtmclabehdjdpnaaDoorBase
import Derived.ProofKit
import Derived.Great.CaseRows
namespace Go.Proofs.YtmclabehdjdpnaaDoor.NamesNumbers
open Go.ChangeShapes Go.WideShapes Go.ChangeAt Go.WideMaps Go.WideElems Go.RowKit
open Go.ChangeMaps (open_string)
open Go.Great
open Go.Proofs.YtmclabehdjdpnaaDoor.Base

def tbl : List Int := [0, 1, 2, 3, 4, 5, 6, 7, 8, 9, 10, 11, 536870912, 1073741824, 300, 500, 1100, 1000, 1000000, 20000, 10000, 16, 10000, 100000, 100000000, 6, 256, 32, 1, 2, 0, 1, 2, 1, 2, 3, 4, 5, 6, 1, 2, 3, 4, 5, 6, 7, 1, 2, 3, 1, 2, 3, 4, 5, 6, 7, 8, 9, 10, 11, 12, 13, 14, 15, 16, 17, 18, 19, 1, 2, 3, 4, 5, 6, 7, 8, 9, 10, 11, 12, 13, 14, 15, 1, 2]
def flat : Array Value := (tbl.flatMap fun v => [Value.int .i64 v, Value.int .i64 v]).toArray
def pr (x : Int) : Value := .agg #[.int .i64 x, .int .i64 x]
def pairOps (T : TypeId) (pos : String) : Nat → List Int → List Oper
  | _, [] => []
  | d, x :: xs => { dst := some d, op := .build T #[(0, .const (.int .i64 x)), (1, .const (.int .i64 x))], type := T, pos := pos, after := #[], guard := none } :: pairOps T pos (d + 1) xs

theorem wpList_pairs {P : Program} {ops : Array Oper} {rest : List Oper} {w : World} {Q : Exit → Act → World → Prop} (T : TypeId) (pos : String)
    (hb : ∀ x y : Int, P.built T [(0, .int .i64 x), (1, .int .i64 y)] = some #[.int .i64 x, .int .i64 y]) :
    ∀ (xs : List Int) (d : Nat) (a : Act), d + xs.length ≤ a.tmps.size →
      (∀ a' : Act, a'.tmps.size = a.tmps.size → a'.defers = a.defers → (∀ i (h : i < xs.length), a'.eval (.tmp (d + i)) = pr xs[i]) → wpList P ops Q rest a' w) →
      wpList P ops Q (pairOps T pos d xs ++ rest) a w := by
  have main : ∀ (xs : List Int) (d : Nat) (a : Act), d + xs.length ≤ a.tmps.size →
      (∀ a' : Act, a'.tmps.size = a.tmps.size → a'.defers = a.defers → (∀ i (h : i < xs.length), a'.eval (.tmp (d + i)) = pr xs[i]) → (∀ j, j < d → a'.eval (.tmp j) = a.eval (.tmp j)) → wpList P ops Q rest a' w) →
      wpList P ops Q (pairOps T pos d xs ++ rest) a w := by
    intro xs
    induction xs with
    | nil => intro d a _ h; exact h a rfl rfl (fun i hi => absurd hi (by simp)) (fun _ _ => rfl)
    | cons x xs ih =>
      intro d a hd h
      have hlt : d < a.tmps.size := by simp at hd; omega
      show wpList P ops Q (_ :: (pairOps T pos (d + 1) xs ++ rest)) a w
      refine wpList_buildTo rfl T _ rfl (some d) rfl #[.int .i64 x, .int .i64 x] (by simpa [Act.eval] using hb x x) ?_
      refine ih (d + 1) _ (by rw [Act.size_put]; simp at hd; omega) fun a' hs hdf hev hlow => ?_
      refine h a' (by rw [hs, Act.size_put]) (by rw [hdf, Act.defers_put']) (fun i hi => ?_) (fun j hj => ?_)
      · cases i with
        | zero => rw [Nat.add_zero, hlow d (by omega), Act.eval_put_same _ _ _ hlt]; rfl
        | succ i =>
          have := hev i (by simpa using hi)
          rw [show d + (i + 1) = d + 1 + i by omega, this]
          rfl
      · rw [hlow j (by omega), Act.eval_put_ne _ _ _ _ (by omega)]
  intro xs d a hd h
  exact main xs d a hd fun a' h1 h2 h3 _ => h a' h1 h2 h3

def sl : Oper := { dst := some 86, op := .buildSlice 22 85 ((List.range 85).map fun i => (i, Operand.tmp (i + 1))).toArray, type := 22, pos := "names.go:11", after := ((List.range 85).map fun i => (⟨i, .data⟩ : Edge)).toArray, guard := none }
def asg : Oper := { dst := some 0, op := .assign (.tmp 86), type := 22, pos := "names.go:11", after := ((⟨85, .data⟩ : Edge) :: (List.range 86).map fun i => (⟨i, .phase⟩ : Edge)).toArray, guard := none }
def bodyOps : List Oper := pairOps 25 "names.go:11" 1 tbl ++ [sl, asg]
def body : Code := (Code.region 0 #[{ dst := some 0, op := .assign (.const (.slice none 0 0)), type := 22, pos := "names.go:10", after := #[], guard := none }] false).seq ((Code.region 1 bodyOps.toArray false).seq .ret)
theorem body_eq : Tryd.f15.body = some body := by kernel_rfl

theorem wp_code_eq {P : Program} {c c' : Code} {Q : Exit → Act → World → Prop} {a : Act} {w : World} (h : c' = c) (H : Code.wp P c' Q a w) : Code.wp P c Q a w := h ▸ H
theorem built_pair (x y : Int) : Tryd.prog.built 25 [(0, .int .i64 x), (1, .int .i64 y)] = some #[.int .i64 x, .int .i64 y] := by kernel_rfl

set_option maxRecDepth 100000 in
set_option maxHeartbeats 800000 in
theorem all_any (w : World) : Calls Tryd.prog 15 #[] w fun e w' => e = .returned (.slice (some ⟨w.heap.size, 0, none⟩) 85 85) ∧ w.alloc (.cells flat 25) = w' := by
  go_enter Tryd.func15, Tryd.ntmps15
  refine wp_code_eq (c' := body) (by kernel_rfl) ?_
  unfold body
  go_upto_region 1 with fail
  refine wp_region_list ?_
  show wpList _ _ _ (pairOps 25 "names.go:11" 1 tbl ++ [sl, asg]) _ _
  refine wpList_pairs 25 "names.go:11" built_pair tbl 1 _ (by decide) fun a' hs hd hev => ?_
  refine wpList_buildRows rfl 22 25 _ 2 (tbl.map pr) rfl (fun i => i + 1) w.heap.size rfl (some 86) rfl Tryd.underlying22 (by kernel_rfl) (by kernel_rfl) (by decide) (by decide) (by decide) (by kernel_rfl) (fun v hv => by obtain ⟨x, _, rfl⟩ := List.mem_map.1 hv; rfl) (fun i hi => by rw [Nat.add_comm, hev i (by simpa using hi)]; simp) ?_
  unfold asg
  go_wp2_with fail
  have hs0 : 0 < a'.tmps.size := by rw [hs]; decide
  exact bodyPost_ret (v := .slice (some ⟨w.heap.size, 0, none⟩) 85 85) (by simp [results, Tryd.results15, go_sem, hs0, show tbl.length = 85 from rfl]) rfl ⟨rfl, congrArg (fun x => w.alloc (.cells x 25)) (by kernel_rfl)⟩

theorem pair_get : ∀ (xs : List Int) (j : Nat) (h : j < xs.length), (xs.flatMap fun v => [Value.int .i64 v, Value.int .i64 v])[j * 2]? = some (.int .i64 xs[j]) ∧ (xs.flatMap fun v => [Value.int .i64 v, Value.int .i64 v])[j * 2 + 1]? = some (.int .i64 xs[j])
  | [], _, h => absurd h (by simp)
  | x :: xs, 0, _ => ⟨rfl, rfl⟩
  | x :: xs, j + 1, h => by
    have := pair_get xs j (by simpa using h)
    rw [show (j + 1) * 2 = j * 2 + 2 by omega]
    exact this
theorem cell_of {w : World} {b : Nat} {cs : Array Value} {t : TypeId} (h : w.heap[b]? = some (.cells cs t)) (k : Nat) : w.cell? ⟨b, k, none⟩ = cs[k]? := by simp [World.cell?, h]
theorem flat_cell (w : World) (j : Nat) (h : j < 85) : ∃ v : Int, (w.alloc (.cells flat 25)).cell? ⟨w.heap.size, j * 2, none⟩ = some (.int .i64 v) ∧ (w.alloc (.cells flat 25)).cell? ⟨w.heap.size, j * 2 + 1, none⟩ = some (.int .i64 v) := by
  have hp := pair_get tbl j h
  have hh : (w.alloc (.cells flat 25)).heap[w.heap.size]? = some (.cells flat 25) := by show (w.heap.push _)[_]? = _; simp
  refine ⟨tbl[j]'h, ?_, ?_⟩
  · rw [cell_of hh]; simpa [flat] using hp.1
  · rw [cell_of hh]; simpa [flat] using hp.2

theorem dec11 : (⟨(Lib.decDigits 11).toArray⟩ : ByteArray) = ⟨#[49, 49]⟩ := by rw [Lib.decDigits_two (by decide) (by decide)]; rfl
theorem dec0 : (⟨(Lib.decDigits 0).toArray⟩ : ByteArray) = ⟨#[48]⟩ := by rw [Lib.decDigits_one (by decide)]; rfl
theorem err11 (w : World) : Calls Tryd.prog 16 #[.int .i64 11] w fun e w' => e = .returned (.string ⟨#[101, 114, 114, 111, 114, 32, 49, 49]⟩) ∧ w = w' := by
  go_enter Tryd.func16, Tryd.ntmps16
  go_wp2_with fail
  refine (Tryd.strconv_Itoa_small 11 (by decide) _).mono ?_
  rintro e w' ⟨rfl, rfl⟩
  rw [dec11]
  go_wp2_with fail
  go_ret
  exact ⟨rfl, rfl⟩
theorem err0 (w : World) : Calls Tryd.prog 16 #[.int .i64 0] w fun e w' => e = .returned (.string ⟨#[101, 114, 114, 111, 114, 32, 48]⟩) ∧ w = w' := by
  go_enter Tryd.func16, Tryd.ntmps16
  go_wp2_with fail
  refine (Tryd.strconv_Itoa_small 0 (by decide) _).mono ?_
  rintro e w' ⟨rfl, rfl⟩
  rw [dec0]
  go_wp2_with fail
  go_ret
  exact ⟨rfl, rfl⟩

set_option maxHeartbeats 800000 in
theorem walk (w : World) (_hT : Tab w) : Calls Tryd.prog 3 #[] w fun e w' => e = .returned (.bool true) ∧ Below w.heap.size w w' := by
  go_enter Tryd.func3, Tryd.ntmps3
  go_wp2_with fail
  with_reducible refine (all_any _).mono ?_
  rintro e w1 ⟨rfl, rfl⟩
  obtain ⟨W, hW⟩ : ∃ W, w.alloc (.cells flat 25) = W := ⟨_, rfl⟩
  have hbel : Below w.heap.size w W := by rw [← hW]; exact (Below.refl _ _).alloc (Nat.le_refl _) _
  have hcells : ∀ j, j < 85 → ∃ v : Int, W.cell? ⟨w.heap.size, j * 2, none⟩ = some (.int .i64 v) ∧ W.cell? ⟨w.heap.size, j * 2 + 1, none⟩ = some (.int .i64 v) := by rw [← hW]; exact flat_cell w
  have HC := Lib.hid hcells
  rw [hW]
  clear hW hcells
  go_wp2_with fail
  go_loopw [2] (fun i wr => ∃ (j n : Nat), j ≤ 85 ∧ i = .int .i64 j ∧ wr = W.drewN n) (fun i _ => 85 - (intOf i).toNat)
  case atStart => exact ⟨0, 0, by omega, rfl, rfl⟩
  case round =>
    obtain ⟨j, n, hj, rfl, rfl⟩ := hrel
    by_cases hlt : j < 85
    · obtain ⟨v, hv1, hv2⟩ := HC.out j hlt
      go_wp2_with fail
      go_quiet (fail)
      go_wp2_with fail
      go_roundw
      case rel => exact ⟨j + 1, n + nq, by omega, by go_num, by simp [World.drewN]⟩
      case measure => simp [intOf]; omega
    · obtain rfl : j = 85 := by omega
      go_wp2_with fail
      with_reducible refine (err11 _).mono ?_
      rintro e w2 ⟨rfl, rfl⟩
      go_wp2_with fail
      with_reducible refine (err0 _).mono ?_
      rintro e w2 ⟨rfl, rfl⟩
      go_wp2_with fail
      go_ret
      exact ⟨rfl, Go.Proofs.YtmclabehdjdpnaaDoor.Base.below_drewN hbel _⟩
end Go.Proofs.YtmclabehdjdpnaaDoor.NamesNumbers
