/-
  Plain: the machine of a drill file (chapter 20): what each command does, what a file's commands make. No program in sight.
-/
import Derived.Test.YtecpmnkgikcpnaaDoorXp
import Derived.Test.YtecpmnkgikcpnaaDoorUp
namespace Go.Proofs.YtecpmnkgikcpnaaDoor.Hp
open Go.Proofs.YtecpmnkgikcpnaaDoor.Dp Go.Proofs.YtecpmnkgikcpnaaDoor.Xp
open Go.Proofs.YtecpmnkgikcpnaaDoor.Up (grainV)

/-- A shape without contours and parts. -/
structure Sh where
  k : Int
  ax : Int
  ay : Int
  bx : Int
  bz : Int
  cx : Int
  cy : Int
  r : Int
deriving DecidableEq
def discS (x y r : Int) : Sh := ⟨1, x, y, 0, 0, 0, 0, r⟩
def lineS (x y p q r : Int) : Sh := ⟨3, x, y, p, q, 0, 0, r⟩
def near (x y : Int) : Bool := decide (-536870912 ≤ x) && (decide (x ≤ 536870912) && (decide (-536870912 ≤ y) && decide (y ≤ 536870912)))
def wide (r : Int) : Bool := decide (1 ≤ r) && decide (r ≤ 536870912)
/-- The machine. -/
structure M where
  sh : List Sh
  budget : Int
  stage : Int
  u : Int
  i : Int
  d : Int
  t : Bool
  rad : Int → Option Int
  tool : Int
  x : Int
  y : Int
  routing : Bool
  down : Bool
  hit : Bool
def m0 (b : Int) : M := ⟨[], max 0 (min b 100000), 0, 0, 0, 0, false, fun _ => none, 0, 0, 0, false, false, false⟩
/-- A coordinate. -/
def lenV (m : M) (s : List UInt8) : Option Int :=
  if s.contains 46 = true then (match dec s with
    | none => none
    | some n => grainV n m.u) else Up.coordV s m.u m.i m.d m.t
/-- A place: what is not told is as before. -/
def ptV (m : M) (x y : List UInt8) (px py : Int) : Option (Int × Int) :=
  match (if x = [] then some px else lenV m x) with
  | none => none
  | some a => match (if y = [] then some py else lenV m y) with
    | none => none
    | some b => some (a, b)
def okS (s : Sh) : Bool := if s.k = 1 then near s.ax s.ay && wide s.r else near s.ax s.ay && (near s.bx s.bz && wide s.r)
def addV (m : M) (s : Sh) : Except Nat M :=
  if okS { s with r := (m.rad m.tool).getD 0 } = false then .error 5 else if m.budget ≤ (m.sh.length : Int) then .error 6 else .ok { m with sh := m.sh ++ [{ s with r := (m.rad m.tool).getD 0 }] }
def defV (m : M) (c : D) : Except Nat M :=
  if m.u = 0 ∨ (m.rad c.n).isSome = true ∨ c.nums.length = 0 ∨ c.nums.headD 0 ≤ 0 then .error 4
  else match grainV (c.nums.headD 0) m.u with
    | none => .error 5
    | some g => if g % 2 ≠ 0 then .error 7 else .ok { m with rad := fun j => if j = c.n then some (g / 2) else m.rad j }
def headV (m : M) (c : D) : Except Nat M :=
  if c.k = 3 then (if m.u ≠ 0 then .error 4 else .ok { m with u := c.n, i := (if c.n = 2 then 2 else 3), d := (if c.n = 2 then 4 else 3), t := !c.on })
  else if c.k = 4 then defV m c
  else if c.k = 5 then (if m.u = 0 then .error 4 else .ok { m with stage := 2 })
  else .error 4
def thenAt (r : Except Nat M) (p q : Int) : Except Nat M := match r with
  | .error e => .error e
  | .ok m' => .ok { m' with x := p, y := q }
def thenHit (r : Except Nat M) (p q : Int) (h : Bool) : Except Nat M := match r with
  | .error e => .error e
  | .ok m' => .ok { m' with x := p, y := q, hit := h }
def slotV (m : M) (o : Option (Int × Int)) (p q : Int) : Except Nat M := match o with
  | none => .error 5
  | some (p2, q2) => thenHit (addV m (lineS p q p2 q2 0)) p2 q2 false
def cutV (m : M) (c : D) : Except Nat M :=
  if m.routing = false ∨ (m.down = true ∧ m.tool = 0) then .error 4 else match ptV m c.x c.y m.x m.y with
  | none => .error 5
  | some (p, q) => if m.down = true then thenAt (addV m (lineS m.x m.y p q 0)) p q else .ok { m with x := p, y := q }
def againN : Nat → M → Int → Int → Except Nat M
  | 0, m, _, _ => .ok m
  | k + 1, m, a, b => match addV m (discS (m.x + a) (m.y + b) 0) with
    | .error e => .error e
    | .ok m' => againN k { m' with x := m.x + a, y := m.y + b } a b
def againM (m : M) (c : D) : Except Nat M := match ptV m c.x c.y 0 0 with
  | none => .error 5
  | some (a, b) => againN c.n.toNat m a b
def drillV (m : M) (c : D) : Except Nat M :=
  if c.k = 12 then againM m c else match ptV m c.x c.y m.x m.y with
  | none => .error 5
  | some (p, q) => if c.k = 8 then slotV m (ptV m c.u c.v p q) p q else thenHit (addV m (discS p q 0)) p q (decide (c.k = 7))
def bodyV (m : M) (c : D) : Except Nat M :=
  if c.k = 6 then (if (m.rad c.n).isSome = false ∧ c.n ≠ 0 then .error 4 else .ok { m with hit := false, tool := c.n })
  else if c.k = 14 then .ok { m with hit := false }
  else if c.k = 13 then .ok { m with hit := false, routing := false, down := false }
  else if c.k = 9 then (match ptV m c.x c.y m.x m.y with
    | none => .error 5
    | some (p, q) => .ok { m with hit := false, x := p, y := q, routing := true, down := false })
  else if c.k = 10 then (if m.routing = false then .error 4 else .ok { m with hit := false, down := c.on })
  else if c.k = 11 then cutV { m with hit := false } c
  else if c.k = 7 ∨ c.k = 8 ∨ c.k = 12 then (if m.routing = true ∨ m.tool = 0 ∨ (c.k = 12 ∧ m.hit = false) then .error 4 else drillV { m with hit := false } c)
  else if c.k = 15 then .ok { m with hit := false, stage := 3 }
  else .error 4
def doV (m : M) (c : D) : Except Nat M :=
  if m.stage = 0 then (if c.k ≠ 2 then .error 4 else .ok { m with stage := 1 })
  else if m.stage = 1 then headV m c
  else if m.stage = 2 then bodyV m c
  else .error 4
def runV : List D → Nat → M → Except (Nat × Nat) M
  | [], _, m => .ok m
  | c :: l, i, m => if c.k = 1 then runV l (i + 1) m else match doV m c with
    | .error e => .error (i, e)
    | .ok m' => runV l (i + 1) m'
def holesV (l : List D) (b : Int) : List Sh × Nat × Nat := match runV l 0 (m0 b) with
  | .error (i, e) => ([], i, e)
  | .ok m => if m.stage ≠ 3 then ([], l.length, 11) else (m.sh, 0, 0)
/-- 20.3. -/
def fileV (s : List UInt8) (b : Int) : List Sh × Nat × Nat := match parseX s with
  | (l, a, e) => if e ≠ 0 then ([], a, e) else match holesV (l.map Prod.snd) b with
    | (h, i, f) => if f = 0 then (h, 0, 0) else if f = 11 then ([], s.length, 11) else ([], ((l.map Prod.fst)[i]?).getD 0, f)

/-! ### What stays so -/
structure Fine (m : M) : Prop where
  b0 : 0 ≤ m.budget
  b1 : m.budget ≤ 100000
  n : (m.sh.length : Int) ≤ m.budget
  x0 : -536870912 ≤ m.x
  x1 : m.x ≤ 536870912
  y0 : -536870912 ≤ m.y
  y1 : m.y ≤ 536870912
theorem fine0 (b : Int) : Fine (m0 b) := ⟨by show 0 ≤ max 0 (min b 100000); omega, by show max 0 (min b 100000) ≤ 100000; omega, by show ((0 : Nat) : Int) ≤ max 0 (min b 100000); omega, by show (-536870912 : Int) ≤ 0; decide, by show (0 : Int) ≤ 536870912; decide, by show (-536870912 : Int) ≤ 0; decide, by show (0 : Int) ≤ 536870912; decide⟩
theorem near_iff {x y : Int} : near x y = true ↔ -536870912 ≤ x ∧ x ≤ 536870912 ∧ -536870912 ≤ y ∧ y ≤ 536870912 := by simp [near]
theorem grain_near {n u g : Int} (h : grainV n u = some g) : -536870912 ≤ g ∧ g ≤ 536870912 := by
  unfold grainV at h
  split at h
  · injection h with h; omega
  · cases h
theorem coord_near {l : List UInt8} {u i d g : Int} {t : Bool} (h : Up.coordV l u i d t = some g) : -536870912 ≤ g ∧ g ≤ 536870912 := by
  unfold Up.coordV at h
  split at h
  · exact grain_near h
  · cases h
theorem len_near {m : M} {s : List UInt8} {g : Int} (h : lenV m s = some g) : -536870912 ≤ g ∧ g ≤ 536870912 := by
  unfold lenV at h
  split at h
  · split at h
    · cases h
    · exact grain_near h
  · exact coord_near h
theorem pt_near {m : M} {x y : List UInt8} {px py a b : Int} (h : ptV m x y px py = some (a, b)) (h0 : -536870912 ≤ px) (h1 : px ≤ 536870912) (h2 : -536870912 ≤ py) (h3 : py ≤ 536870912) :
    (-536870912 ≤ a ∧ a ≤ 536870912) ∧ (-536870912 ≤ b ∧ b ≤ 536870912) := by
  unfold ptV at h
  split at h
  · cases h
  · rename_i a' ha
    split at h
    · cases h
    · rename_i b' hb
      simp only [Option.some.injEq, Prod.mk.injEq] at h
      obtain ⟨rfl, rfl⟩ := h
      constructor
      · split at ha
        · injection ha with ha; omega
        · exact len_near ha
      · split at hb
        · injection hb with hb; omega
        · exact len_near hb
theorem add_ok {m m' : M} {s : Sh} (h : addV m s = .ok m') : okS { s with r := (m.rad m.tool).getD 0 } = true ∧ (m.sh.length : Int) < m.budget ∧ m' = { m with sh := m.sh ++ [{ s with r := (m.rad m.tool).getD 0 }] } := by
  unfold addV at h
  split at h
  · cases h
  · rename_i h1
    split at h
    · cases h
    · rename_i h2
      injection h with h
      exact ⟨by simpa using h1, by omega, h.symm⟩
theorem okS_near {s : Sh} (h : okS s = true) : near s.ax s.ay = true := by
  unfold okS at h
  split at h
  · exact (Bool.and_eq_true _ _ ▸ h).1
  · exact (Bool.and_eq_true _ _ ▸ h).1
theorem Fine.add {m m' : M} {s : Sh} (hm : Fine m) (h : addV m s = .ok m') : Fine m' := by
  obtain ⟨_, h2, rfl⟩ := add_ok h
  exact ⟨hm.b0, hm.b1, by show (((m.sh ++ [_]).length : Nat) : Int) ≤ m.budget; rw [List.length_append]; simp; omega, hm.x0, hm.x1, hm.y0, hm.y1⟩
theorem Fine.at {m : M} (hm : Fine m) {p q : Int} (h : (-536870912 ≤ p ∧ p ≤ 536870912) ∧ (-536870912 ≤ q ∧ q ≤ 536870912)) {h' : Bool} : Fine { m with x := p, y := q, hit := h' } := ⟨hm.b0, hm.b1, hm.n, h.1.1, h.1.2, h.2.1, h.2.2⟩
theorem fine_again : ∀ (k : Nat) {m m' : M} {a b : Int}, Fine m → againN k m a b = .ok m' → Fine m'
  | 0, m, m', a, b, hm, h => by
    unfold againN at h
    injection h with h
    rw [← h]; exact hm
  | k + 1, m, m', a, b, hm, h => by
    unfold againN at h
    split at h
    · cases h
    · rename_i m1 h1
      obtain ⟨g1, _, _⟩ := add_ok h1
      have hn := near_iff.1 (okS_near g1)
      have f1 := hm.add h1
      exact fine_again k (m := { m1 with x := m.x + a, y := m.y + b }) ⟨f1.b0, f1.b1, f1.n, hn.1, hn.2.1, hn.2.2.1, hn.2.2.2⟩ h
end Go.Proofs.YtecpmnkgikcpnaaDoor.Hp
