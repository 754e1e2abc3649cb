/-
  exce.line, whole: it returns lineV.
-/
import Derived.Test.YtecpmnkgikcpnaaDoorXwM
namespace Go.Proofs.YtecpmnkgikcpnaaDoor.XW
open Go.RowKit Go.Proofs.YtecpmnkgikcpnaaDoor.Base Go.Proofs.YtecpmnkgikcpnaaDoor.Dp Go.Proofs.YtecpmnkgikcpnaaDoor.DeciW Go.Proofs.YtecpmnkgikcpnaaDoor.Xp

/-- A command whose fields fit. -/
structure Fits (d : D) : Prop where
  n0 : -9223372036854775808 ≤ d.n
  n1 : d.n ≤ 9223372036854775807
  t : d.t.length ≤ 1000000000
  x : d.x.length ≤ 1000000000
  y : d.y.length ≤ 1000000000
  u : d.u.length ≤ 1000000000
  v : d.v.length ≤ 1000000000
  nums : ∀ z ∈ d.nums, -9223372036854775808 ≤ z ∧ z ≤ 9223372036854775807

theorem sz (l : List UInt8) (h : l.length ≤ 1000000000) : (⟨l.toArray⟩ : ByteArray).size ≤ 1000000000 := by
  rw [← len_list]
  exact h
theorem lineV_tool (d : D) (h : d.k = 4) : lineV d = toolL d.n d.nums := by
  rw [lineV, if_neg (by omega), if_neg (by omega), if_neg (by omega), if_pos h]
  rfl

theorem line_c (B : Nat) (d : D) (hd : Hid (Fits d)) (a : Int) (p : Option Addr) (c : Nat) (S : ByteArray) (hS : Hid (S.data.toList = lineV d)) (w : World) (hT : Tab w) (H : Hid (NumsIn B w p d.nums)) :
    Calls Tryd.prog 30 #[drVal d a (.slice p d.nums.length c)] w fun e w' => e = .returned (.string S) ∧ Below w.heap.size w w' := by
  obtain ⟨k, n, on, t, x, y, u, v, l⟩ := d
  have F := hd.out
  have ht := sz t F.t
  have hx := sz x F.x
  have hy := sz y F.y
  have hu := sz u F.u
  have hv := sz v F.v
  have hs := hS.out
  by_cases h1 : k = 1
  · subst h1
    exact ln1 n on _ _ _ _ _ a _ ht S hs w
  by_cases h2 : k = 2
  · subst h2
    exact ln2 n on _ _ _ _ _ a _ S hs w
  by_cases h3 : k = 3
  · subst h3
    exact ln3 n on _ _ _ _ _ a _ S hs w
  by_cases h4 : k = 4
  · subst h4
    rw [lineV_tool _ rfl] at hs
    exact ln4 B n F.n0 F.n1 on _ _ _ _ _ a p l c (Lib.hid F.nums) S hs w hT H
  by_cases h5 : k = 5
  · subst h5
    exact ln5 n on _ _ _ _ _ a _ S hs w
  by_cases h6 : k = 6
  · subst h6
    exact ln6 n F.n0 F.n1 on _ _ _ _ _ a _ S hs w hT
  by_cases h7 : k = 7
  · subst h7
    exact ln7 n on _ _ _ _ _ a _ hx hy S hs w
  by_cases h8 : k = 8
  · subst h8
    exact ln8 n on _ _ _ _ _ a _ hx hy hu hv S hs w
  by_cases h9 : k = 9
  · subst h9
    exact ln9 n on _ _ _ _ _ a _ hx hy S hs w
  by_cases h10 : k = 10
  · subst h10
    cases on with
    | true => exact ln10t n _ _ _ _ _ a _ S hs w
    | false => exact ln10f n _ _ _ _ _ a _ S hs w
  by_cases h11 : k = 11
  · subst h11
    exact ln11 n on _ _ _ _ _ a _ hx hy S hs w
  by_cases h12 : k = 12
  · subst h12
    exact ln12 n F.n0 F.n1 on _ _ _ _ _ a _ hx hy S hs w hT
  by_cases h13 : k = 13
  · subst h13
    exact ln13 n on _ _ _ _ _ a _ S hs w
  by_cases h14 : k = 14
  · subst h14
    exact ln14 n on _ _ _ _ _ a _ S hs w
  by_cases h15 : k = 15
  · subst h15
    exact ln15 n on _ _ _ _ _ a _ S hs w
  have e : lineV ⟨k, n, on, t, x, y, u, v, l⟩ = [] := by simp [lineV, h1, h2, h3, h4, h5, h6, h7, h8, h9, h10, h11, h12, h13, h14, h15]
  rw [e] at hs
  have b : ∀ i : Int, ¬ k = i → (k == i) = false := fun i h => by rw [beq_eq_false_iff_ne]; exact h
  exact lnNo k n (b _ h1) (b _ h2) (b _ h3) (b _ h4) (b _ h5) (b _ h6) (b _ h7) (b _ h8) (b _ h9) (b _ h10) (b _ h11) (b _ h12) (b _ h13) (b _ h14) (b _ h15) on _ _ _ _ _ a _ S hs w
end Go.Proofs.YtecpmnkgikcpnaaDoor.XW
