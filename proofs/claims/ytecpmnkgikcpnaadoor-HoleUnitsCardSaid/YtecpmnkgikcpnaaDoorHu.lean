/-
  Plain: a drill file of one hole: the same place with noughts ahead, without, with a point, in inches and in millimetres (20.1). No program in sight.
-/
import Derived.Test.YtecpmnkgikcpnaaDoorHp
import Derived.Test.YtecpmnkgikcpnaaDoorXc
import Derived.Test.YtecpmnkgikcpnaaDoorUq
namespace Go.Proofs.YtecpmnkgikcpnaaDoor.Hp
open Go.Proofs.YtecpmnkgikcpnaaDoor.Dp Go.Proofs.YtecpmnkgikcpnaaDoor.Xp
open Go.Proofs.YtecpmnkgikcpnaaDoor.Up (grainV val_dec digits_dec nd_all)
open Go.Lib (decDigits nDigits trimRightB dg)

/-! ### Lines -/
theorem cmds_lines : ∀ (ps : List (List UInt8 × D)) (acc : List D), (∀ p ∈ ps, p.1 ≠ [] ∧ (∀ c ∈ p.1, okC c = true) ∧ cmdV p.1 = some p.2) → cmdsC (ps.map fun p => p.1 ++ [10]).flatten [] acc = some (acc ++ ps.map Prod.snd)
  | [], acc, _ => by simp [cmdsC]
  | d :: ds, acc, h => by
    obtain ⟨h1, h2, h3⟩ := h d (by simp)
    have e : ((d :: ds).map fun p => p.1 ++ [10]).flatten = d.1 ++ (10 :: (ds.map fun p => p.1 ++ [10]).flatten) := by simp
    rw [e, cmds_line _ _ _ _ h2, List.nil_append, cmdsC, if_neg (by decide), if_pos rfl, if_neg h1, h3]
    simp only []
    rw [cmds_lines ds _ (fun x hx => h x (by simp [hx]))]
    simp
theorem lines_count : ∀ (ds : List (List UInt8 × D)), (∀ p ∈ ds, p.1 ≠ [] ∧ (∀ c ∈ p.1, okC c = true) ∧ cmdV p.1 = some p.2) → ((ds.map fun p => p.1 ++ [10]).flatten).count 10 = ds.length ∧ (∀ c ∈ (ds.map fun p => p.1 ++ [10]).flatten, lineC c = true) ∧ ((ds.map fun p => p.1 ++ [10]).flatten = [] ∨ ((ds.map fun p => p.1 ++ [10]).flatten).getLast? = some 10)
  | [], _ => by simp
  | d :: ds, h => by
    obtain ⟨i1, i2, i3⟩ := lines_count ds (fun x hx => h x (by simp [hx]))
    obtain ⟨h1, h2, h3⟩ := h d (by simp)
    have e : ((d :: ds).map fun p => p.1 ++ [10]).flatten = d.1 ++ (10 :: (ds.map fun p => p.1 ++ [10]).flatten) := by simp
    rw [e]
    refine ⟨?_, ?_, .inr ?_⟩
    · rw [List.count_append, List.count_cons_self, i1, List.count_eq_zero.2 (fun hc => absurd (h2 10 hc) (by decide))]
      simp
    · intro c hc
      simp only [List.mem_append, List.mem_cons] at hc
      rcases hc with hc | rfl | hc
      · simp [lineC, h2 c hc]
      · decide
      · exact i2 c hc
    · rw [List.getLast?_append, List.getLast?_cons]
      rcases i3 with i3 | i3
      · rw [i3]; simp
      · rw [i3]; simp
/-- Lines are read as their commands. -/
theorem lines_parse (ps : List (List UInt8 × D)) (h : ∀ p ∈ ps, p.1 ≠ [] ∧ (∀ c ∈ p.1, okC c = true) ∧ cmdV p.1 = some p.2) (hl : (ps.map fun p => p.1 ++ [10]).flatten.length ≤ 1000000) (hn : ps.length ≤ 19999) :
    ∃ l, parseX (ps.map fun p => p.1 ++ [10]).flatten = (l, 0, 0) ∧ l.map Prod.snd = ps.map Prod.snd := by
  obtain ⟨c1, c2, c3⟩ := lines_count ps h
  refine ok_parse ⟨hl, ?_, c2⟩ (by simpa using cmds_lines ps [] h)
  unfold linesV
  rw [c1]
  split <;> omega
theorem file_lines (ps : List (List UInt8 × D)) (h : ∀ p ∈ ps, p.1 ≠ [] ∧ (∀ c ∈ p.1, okC c = true) ∧ cmdV p.1 = some p.2) (hl : (ps.map fun p => p.1 ++ [10]).flatten.length ≤ 1000000) (hn : ps.length ≤ 19999) (b : Int) (sh : List Sh) (a : Nat)
    (hh : holesV (ps.map Prod.snd) b = (sh, a, 0)) : fileV (ps.map fun p => p.1 ++ [10]).flatten b = (sh, 0, 0) := by
  obtain ⟨l, h1, h2⟩ := lines_parse ps h hl hn
  unfold fileV
  rw [h1]
  simp only []
  rw [h2, hh]
  simp

/-! ### A place's line -/
theorem digit_way {c : UInt8} (h : isD c = true) : wayC c = true := by simp [wayC, h]
theorem digit_ok {c : UInt8} (h : isD c = true) : okC c = true := by
  rw [isD_iff] at h
  simp [okC]; omega
theorem span_way {A r : List UInt8} (h : ∀ c ∈ A, wayC c = true) (hr : r = [] ∨ ∃ c q, r = c :: q ∧ wayC c = false) : wspan (A ++ r) = A.length := by
  unfold wspan
  rw [takeWhile_app' A r h]
  rcases hr with rfl | ⟨c, q, rfl, hc⟩
  · simp
  · simp [hc]
where takeWhile_app' (a b : List UInt8) (h : ∀ x ∈ a, wayC x = true) : (a ++ b).takeWhile wayC = a ++ b.takeWhile wayC := by
        induction a with
        | nil => rfl
        | cons x a ih => rw [List.cons_append, List.takeWhile_cons, if_pos (h x (by simp)), ih (fun y hy => h y (by simp [hy])), List.cons_append]
theorem place_cmd {A B : List UInt8} (hA : ∀ c ∈ A, wayC c = true) (hB : ∀ c ∈ B, wayC c = true) (wA : isWay A = true) (wB : isWay B = true) (nA : A ≠ []) :
    cmdV (88 :: (A ++ 89 :: B)) = some { kd 7 with x := A, y := B } := by
  have hf : fixed.lookup (88 :: (A ++ 89 :: B)) = none := by simp [fixed, List.lookup_cons]
  have s1 : wspan (A ++ 89 :: B) = A.length := span_way hA (.inr ⟨89, B, rfl, by decide⟩)
  have s2 : wspan B = B.length := by have := span_way hB (r := []) (.inl rfl); rwa [List.append_nil] at this
  have c1 : coordV (88 :: (A ++ 89 :: B)) 88 = (A, 89 :: B, true) := by
    rw [coordV_at, if_pos rfl, s1, List.take_left, List.drop_left, wA]
  have c2 : coordV (89 :: B) 89 = (B, [], true) := by
    rw [coordV_at, if_pos rfl, s2, List.take_length, List.drop_length, wB]
  have hp : posV (88 :: (A ++ 89 :: B)) = some (A, B, []) := by
    unfold posV
    rw [c1]
    simp only []
    rw [c2]
    simp [nA]
  unfold cmdV
  rw [hf]
  show otherV (88 :: (A ++ 89 :: B)) = _
  unfold otherV
  simp only []
  show hitV _ = _
  unfold hitV
  rw [hp]
theorem place_ok {A B : List UInt8} (hA : ∀ c ∈ A, okC c = true) (hB : ∀ c ∈ B, okC c = true) : ∀ c ∈ 88 :: (A ++ 89 :: B), okC c = true := by
  intro c hc
  simp only [List.mem_cons, List.mem_append] at hc
  rcases hc with rfl | hc | rfl | hc
  · decide
  · exact hA c hc
  · decide
  · exact hB c hc
/-- Digits as a place. -/
structure Way (A : List UInt8) : Prop where
  w : ∀ c ∈ A, wayC c = true
  o : ∀ c ∈ A, okC c = true
  i : isWay A = true
  n : A ≠ []
  l : A.length ≤ 20
theorem digits_Way {A : List UInt8} (h : ∀ c ∈ A, isD c = true) (h1 : 1 ≤ A.length) (h2 : A.length ≤ 12) : Way A := by
  refine ⟨fun c hc => digit_way (h c hc), fun c hc => digit_ok (h c hc), ?_, by intro e; rw [e] at h1; simp at h1, by omega⟩
  have hb : bare A = A := by
    cases A with
    | nil => rfl
    | cons c r =>
      have hc := (isD_iff c).1 (h c (by simp))
      show (if c = 43 ∨ c = 45 then r else c :: r) = c :: r
      rw [if_neg]
      rintro (e | e) <;> (rw [e] at hc; simp at hc)
  have h46 : ¬ A.contains 46 = true := by
    intro hc
    have := h 46 (by simpa using hc)
    exact absurd this (by decide)
  unfold isWay
  rw [if_neg h46, hb]
  simp only [Bool.and_eq_true, decide_eq_true_eq, List.all_eq_true]
  exact ⟨h, h1, h2⟩
theorem coord_digits {A : List UInt8} {u i d : Int} {t : Bool} (h : ∀ c ∈ A, isD c = true) (h1 : 1 ≤ A.length) (h2 : (A.length : Int) ≤ i + d) (hf : Up.fmtOk u i d = true) (v : Nat) (hv : val A * (if t then 10 ^ ((i + d).toNat - A.length) else 1) * 10 ^ (6 - d.toNat) = v) :
    Up.coordV A u i d t = grainV (v : Int) u := by
  have hs : strip A = (false, A) := by
    cases A with
    | nil => rfl
    | cons c r => exact strip_digit (h c (by simp)) r
  unfold Up.coordV
  rw [hs]
  simp only []
  rw [if_pos ⟨hf, h1, h2, nd_all h⟩, hv]
  rfl
/-- A number with its point. -/
def ptL (a : Nat) : List UInt8 := bodyL a ++ (if a % 1000000 = 0 then [46] else [])
theorem decU_pt (a : Nat) (ha : a < 1000000000000) : decU (ptL a) = some a := by
  unfold ptL
  by_cases h : a % 1000000 = 0
  · have hb : bodyL a = decDigits (a / 1000000) := by unfold bodyL; rw [if_pos h, List.append_nil]
    rw [if_pos h, hb, decU_point _ [] (digits_dec _) (by simp)]
    have h1 : (decDigits (a / 1000000)).length ≤ 6 := by rw [Lib.decDigits_length]; exact nDigits_le6 (by omega)
    have h2 := Lib.nDigits_pos (a / 1000000)
    have h3 : (decDigits (a / 1000000)).length ≠ 0 := by rw [Lib.decDigits_length]; omega
    rw [if_pos ⟨h1, by simp, by omega⟩, val_dec, val_nil]
    congr 1; omega
  · rw [if_neg h, List.append_nil]; exact decU_body a ha
theorem dec_pt (a : Nat) (ha : a < 1000000000000) : dec (ptL a) = some (a : Int) := by
  have hs : strip (ptL a) = (false, ptL a) := by
    obtain ⟨c, r, h, hc⟩ := body_head a
    unfold ptL
    rw [h, List.cons_append]
    exact strip_digit hc _
  unfold dec; rw [hs]; simp [decU_pt a ha]
theorem pt_mem {a : Nat} {c : UInt8} (h : c ∈ ptL a) : isD c = true ∨ c = 46 := by
  unfold ptL bodyL at h
  simp only [List.mem_append] at h
  rcases h with (h | h) | h
  · exact .inl (digits_dec _ c h)
  · split at h
    · simp at h
    · rw [List.mem_cons] at h
      rcases h with rfl | h
      · exact .inr rfl
      · exact .inl (digits_trim (digits_pad _ _) c h)
  · split at h
    · exact .inr (by simpa using h)
    · simp at h
theorem pt_point (a : Nat) : (ptL a).contains 46 = true := by
  have : (46 : UInt8) ∈ ptL a := by
    unfold ptL bodyL
    by_cases h : a % 1000000 = 0
    · simp [h]
    · simp [h]
  simpa using this
theorem pt_Way (a : Nat) (ha : a < 1000000000000) : Way (ptL a) := by
  refine ⟨fun c hc => ?_, fun c hc => ?_, ?_, ?_, ?_⟩
  · rcases pt_mem hc with h | rfl
    · exact digit_way h
    · decide
  · rcases pt_mem hc with h | rfl
    · exact digit_ok h
    · decide
  · unfold isWay
    rw [if_pos (pt_point a), dec_pt a ha]; rfl
  · intro e
    have := pt_point a
    rw [e] at this
    simp at this
  · have := body_length a ha
    unfold ptL
    rw [List.length_append]
    split
    · simp; omega
    · simp; omega

/-! ### The tool's line -/
theorem tool_cmd (a : Nat) (ha : a < 1000000000000) : cmdV (84 :: 49 :: 67 :: bodyL a) = some { kd 4 with n := 1, nums := [(a : Int)] } := by
  have hc : countV (49 :: 67 :: bodyL a) 99 = some (1, 67 :: bodyL a) := by
    have hn : nd (49 :: 67 :: bodyL a) = 1 := by rw [nd_cons, nd_cons]; rfl
    unfold countV
    rw [hn]
    rfl
  have hf : fixed.lookup (84 :: 49 :: 67 :: bodyL a) = none := fixed_T _
  unfold cmdV
  rw [hf]
  show toolV (49 :: 67 :: bodyL a) = _
  unfold toolV
  rw [if_neg (by simp), hc]
  simp only []
  rw [if_pos trivial, dec_body a ha]
  rfl
theorem body_ok (a : Nat) : ∀ c ∈ bodyL a, okC c = true := by
  intro c hc
  have : c ∈ ptL a := by unfold ptL; simp [hc]
  rcases pt_mem this with h | rfl
  · exact digit_ok h
  · decide
/-! ### The file -/
def oneL (hd : List UInt8) (h : D) (a : Nat) (A B : List UInt8) : List (List UInt8 × D) :=
  [([77, 52, 56], kd 2), (hd, h), (84 :: 49 :: 67 :: bodyL a, { kd 4 with n := 1, nums := [(a : Int)] }), ([37], kd 5), ([84, 49], { kd 6 with n := 1 }), (88 :: (A ++ 89 :: B), { kd 7 with x := A, y := B }), ([77, 51, 48], kd 15)]
theorem head_unit (m : M) (c : D) (hk : c.k = 3) (hu : m.u = 0) : headV m c = .ok { m with u := c.n, i := (if c.n = 2 then 2 else 3), d := (if c.n = 2 then 4 else 3), t := !c.on } := by
  unfold headV
  rw [if_pos hk, if_neg (by omega)]
theorem head_body (m : M) (hu : m.u ≠ 0) : headV m (kd 5) = .ok { m with stage := 2 } := by
  unfold headV
  rw [if_neg (by show ¬ ((5 : Int) = 3); decide), if_neg (by show ¬ ((5 : Int) = 4); decide), if_pos (show (kd 5).k = 5 from rfl), if_neg hu]
theorem def_one (m : M) (a g : Int) (hu : m.u ≠ 0) (hr : m.rad 1 = none) (h0 : 0 < a) (hg : grainV a m.u = some (2 * g)) : defV m { kd 4 with n := 1, nums := [a] } = .ok { m with rad := fun j => if j = 1 then some g else m.rad j } := by
  unfold defV
  rw [if_neg (by
    rintro (e | e | e | e)
    · exact hu e
    · rw [show ({ kd 4 with n := 1, nums := [a] } : D).n = 1 from rfl, hr] at e; cases e
    · simp at e
    · rw [show ({ kd 4 with n := 1, nums := [a] } : D).nums = [a] from rfl, List.headD_cons] at e; omega)]
  rw [show ({ kd 4 with n := 1, nums := [a] } : D).nums = [a] from rfl, List.headD_cons, hg]
  simp only []
  rw [if_neg (by omega), show 2 * g / 2 = g by omega]
theorem pick_one (m : M) (hr : (m.rad 1).isSome = true) : bodyV m { kd 6 with n := 1 } = .ok { m with hit := false, tool := 1 } := by
  unfold bodyV
  rw [if_pos (show ({ kd 6 with n := 1 } : D).k = 6 from rfl), if_neg (by
    rintro ⟨e, _⟩
    rw [show ({ kd 6 with n := 1 } : D).n = 1 from rfl, hr] at e; cases e)]
theorem do_one (m : M) (c : D) (h : m.stage = 1) : doV m c = headV m c := by
  unfold doV
  rw [if_neg (by omega), if_pos h]
theorem do_two (m : M) (c : D) (h : m.stage = 2) : doV m c = bodyV m c := by
  unfold doV
  rw [if_neg (by omega), if_neg (by omega), if_pos h]
theorem head_tool (m : M) (c : D) (h : c.k = 4) : headV m c = defV m c := by
  unfold headV
  rw [if_neg (by omega), if_pos h]
theorem add_fits (m : M) (s : Sh) (h1 : okS { s with r := (m.rad m.tool).getD 0 } = true) (h2 : (m.sh.length : Int) < m.budget) : addV m s = .ok { m with sh := m.sh ++ [{ s with r := (m.rad m.tool).getD 0 }] } := by
  unfold addV
  rw [if_neg (by rw [h1]; decide), if_neg (by omega)]
theorem hit_one (m : M) (A B : List UInt8) (p q : Int) (h1 : m.routing = false) (h2 : m.tool ≠ 0) (hp : ptV { m with hit := false } A B m.x m.y = some (p, q)) (m' : M) (ha : addV { m with hit := false } (discS p q 0) = .ok m') :
    bodyV m { kd 7 with x := A, y := B } = .ok { m' with x := p, y := q, hit := true } := by
  have hd : drillV { m with hit := false } { kd 7 with x := A, y := B } = .ok { m' with x := p, y := q, hit := true } := by
    unfold drillV
    rw [if_neg (by show ¬ ((7 : Int) = 12); decide)]
    show (match ptV { m with hit := false } A B m.x m.y with | none => _ | some (p, q) => _) = _
    rw [hp]
    simp only []
    rw [if_neg (by show ¬ ((7 : Int) = 8); decide), ha]
    rfl
  unfold bodyV
  rw [if_neg (by show ¬ ((7 : Int) = 6); decide), if_neg (by show ¬ ((7 : Int) = 14); decide), if_neg (by show ¬ ((7 : Int) = 13); decide), if_neg (by show ¬ ((7 : Int) = 9); decide), if_neg (by show ¬ ((7 : Int) = 10); decide), if_neg (by show ¬ ((7 : Int) = 11); decide), if_pos (.inl rfl), if_neg (by
    rintro (e | e | ⟨e, _⟩)
    · rw [h1] at e; cases e
    · exact h2 e
    · exact absurd e (by show ¬ ((7 : Int) = 12); decide)), hd]
def s1 : M := ⟨[], 5, 1, 0, 0, 0, false, fun _ => none, 0, 0, 0, false, false, false⟩
def s2 (h : D) (k : Int) (rad : Int → Option Int) (tool : Int) : M := ⟨[], 5, k, h.n, if h.n = 2 then 2 else 3, if h.n = 2 then 4 else 3, !h.on, rad, tool, 0, 0, false, false, false⟩
def r1 (g : Int) (j : Int) : Option Int := if j = 1 then some g else none
theorem holes_one (h : D) (a : Nat) (A B : List UInt8) (g p q : Int) (hk : h.k = 3) (hn : h.n = 1 ∨ h.n = 2) (h0 : 0 < a) (hg : grainV (a : Int) h.n = some (2 * g)) (g0 : 1 ≤ g) (g1 : g ≤ 536870912) (nA : A ≠ []) (nB : B ≠ [])
    (hA : lenV { s2 h 2 (r1 g) 1 with hit := false } A = some p) (hB : lenV { s2 h 2 (r1 g) 1 with hit := false } B = some q) :
    holesV [kd 2, h, { kd 4 with n := 1, nums := [(a : Int)] }, kd 5, { kd 6 with n := 1 }, { kd 7 with x := A, y := B }, kd 15] 5 = ([discS p q g], 0, 0) := by
  have hu : ¬ h.n = 0 := by omega
  have e1 : doV (m0 5) (kd 2) = .ok s1 := rfl
  have e2 : doV s1 h = .ok (s2 h 1 (fun _ => none) 0) := (do_one s1 h rfl).trans (head_unit s1 h hk rfl)
  have e3 : doV (s2 h 1 (fun _ => none) 0) { kd 4 with n := 1, nums := [(a : Int)] } = .ok (s2 h 1 (r1 g) 0) := by
    rw [do_one _ _ rfl, head_tool _ _ rfl]
    exact def_one (s2 h 1 (fun _ => none) 0) a g hu rfl (by omega) hg
  have e4 : doV (s2 h 1 (r1 g) 0) (kd 5) = .ok (s2 h 2 (r1 g) 0) := (do_one _ _ rfl).trans (head_body _ hu)
  have e5 : doV (s2 h 2 (r1 g) 0) { kd 6 with n := 1 } = .ok (s2 h 2 (r1 g) 1) := (do_two _ _ rfl).trans (pick_one _ rfl)
  have np : -536870912 ≤ p ∧ p ≤ 536870912 := len_near hA
  have nq : -536870912 ≤ q ∧ q ≤ 536870912 := len_near hB
  have hpt : ptV { s2 h 2 (r1 g) 1 with hit := false } A B 0 0 = some (p, q) := by
    unfold ptV
    rw [if_neg nA, if_neg nB, hA, hB]
  have ha : addV { s2 h 2 (r1 g) 1 with hit := false } (discS p q 0) = .ok { s2 h 2 (r1 g) 1 with sh := [discS p q g] } := by
    have ok : okS (discS p q g) = true := by
      show (near p q && wide g) = true
      rw [near_iff.2 ⟨np.1, np.2, nq.1, nq.2⟩]
      simp [wide, g0, g1]
    exact add_fits { s2 h 2 (r1 g) 1 with hit := false } (discS p q 0) ok (show (([] : List Sh).length : Int) < 5 by decide)
  have e6 : doV (s2 h 2 (r1 g) 1) { kd 7 with x := A, y := B } = .ok { s2 h 2 (r1 g) 1 with sh := [discS p q g], x := p, y := q, hit := true } := by
    rw [do_two _ _ rfl]
    exact hit_one (s2 h 2 (r1 g) 1) A B p q rfl (by show (1 : Int) ≠ 0; decide) hpt _ ha
  have e7 : doV { s2 h 2 (r1 g) 1 with sh := [discS p q g], x := p, y := q, hit := true } (kd 15) = .ok { s2 h 2 (r1 g) 1 with sh := [discS p q g], x := p, y := q, hit := false, stage := 3 } := rfl
  have n1 : ∀ k : Int, k ≠ 1 → ∀ c : D, c.k = k → ∀ l i m, runV (c :: l) i m = match doV m c with
    | .error e => .error (i, e)
    | .ok m' => runV l (i + 1) m' := by
    intro k hk1 c hc l i m
    exact if_neg (by rw [hc]; exact hk1)
  unfold holesV
  rw [n1 2 (by decide) (kd 2) rfl, e1]
  simp only []
  rw [n1 3 (by decide) h hk, e2]
  simp only []
  rw [n1 4 (by decide) _ rfl, e3]
  simp only []
  rw [n1 5 (by decide) (kd 5) rfl, e4]
  simp only []
  rw [n1 6 (by decide) _ rfl, e5]
  simp only []
  rw [n1 7 (by decide) _ rfl, e6]
  simp only []
  rw [n1 15 (by decide) (kd 15) rfl, e7]
  rfl
theorem flatten_len7 (a b c d e f g : List UInt8) (n : Nat) (h : a.length + b.length + c.length + d.length + e.length + f.length + g.length + 7 ≤ n) : ([a ++ [10], b ++ [10], c ++ [10], d ++ [10], e ++ [10], f ++ [10], g ++ [10]] : List (List UInt8)).flatten.length ≤ n := by
  simp; omega
theorem file_one (hd : List UInt8) (h : D) (a : Nat) (A B : List UInt8) (g p q : Int) (hh : hd ≠ [] ∧ (∀ c ∈ hd, okC c = true) ∧ cmdV hd = some h) (hl : hd.length ≤ 20) (ha : a < 1000000000000) (WA : Way A) (WB : Way B)
    (ho : holesV [kd 2, h, { kd 4 with n := 1, nums := [(a : Int)] }, kd 5, { kd 6 with n := 1 }, { kd 7 with x := A, y := B }, kd 15] 5 = ([discS p q g], 0, 0)) :
    fileV ((oneL hd h a A B).map fun x => x.1 ++ [10]).flatten 5 = ([discS p q g], 0, 0) := by
  refine file_lines (oneL hd h a A B) ?_ ?_ (show (7 : Nat) ≤ 19999 by decide) 5 _ 0 ho
  · intro x hx
    simp only [oneL, List.mem_cons, List.not_mem_nil, or_false] at hx
    rcases hx with rfl | rfl | rfl | rfl | rfl | rfl | rfl
    · exact ⟨by decide, by decide, by decide +kernel⟩
    · exact hh
    · refine ⟨by simp, ?_, tool_cmd a ha⟩
      intro c hc
      simp only [List.mem_cons] at hc
      rcases hc with rfl | rfl | rfl | hc
      · decide
      · decide
      · decide
      · exact body_ok a c hc
    · exact ⟨by decide, by decide, by decide +kernel⟩
    · exact ⟨by decide, by decide, by decide +kernel⟩
    · exact ⟨by simp, place_ok WA.o WB.o, place_cmd WA.w WB.w WA.i WB.i WA.n⟩
    · exact ⟨by decide, by decide, by decide +kernel⟩
  · refine flatten_len7 _ _ _ _ _ _ _ 1000000 ?_
    have := WA.l
    have := WB.l
    have := body_length a ha
    simp
    omega
theorem num_Way {x n : Nat} (hx : x < 1000000) (hn : n = 1 ∨ n = 6) : Way (numL x n) ∧ (∀ c ∈ numL x n, isD c = true) ∧ 1 ≤ (numL x n).length ∧ (numL x n).length ≤ 6 ∧ val (numL x n) = x ∧ (n = 6 → (numL x n).length = 6) := by
  have hd : ∀ c ∈ numL x n, isD c = true := by unfold numL; exact digits_pad _ _
  have key : 1 ≤ (numL x n).length ∧ (numL x n).length ≤ 6 ∧ val (numL x n) = x ∧ (n = 6 → (numL x n).length = 6) := by
    rcases hn with rfl | rfl
    · rw [numL_one]
      have h1 := Lib.nDigits_pos x
      have h2 := nDigits_le6 hx
      rw [Lib.decDigits_length, val_dec]
      exact ⟨h1, h2, rfl, by omega⟩
    · rw [numL_of_lt (by simpa using hx), pad_length, val_pad]
      exact ⟨by omega, by omega, Nat.mod_eq_of_lt (by simpa using hx), fun _ => rfl⟩
  exact ⟨digits_Way hd key.1 (by omega), hd, key⟩
theorem no_point {A : List UInt8} (h : ∀ c ∈ A, isD c = true) : ¬ A.contains 46 = true := by
  intro hc
  have := h 46 (by simpa using hc)
  exact absurd this (by decide)
theorem grain_two {n : Nat} (h : n * 254 ≤ 536870912) : grainV (n : Int) 2 = some (254 * (n : Int)) := by
  have e : (n : Int) * Up.per 2 = 254 * (n : Int) := by show (n : Int) * 254 = _; omega
  unfold grainV
  rw [e, if_pos ⟨(okN_iff _).2 ⟨by omega, by omega⟩, .inr rfl, by omega, by omega⟩]
theorem grain_one {n : Nat} (h : n * 10 ≤ 536870912) : grainV (n : Int) 1 = some (10 * (n : Int)) := by
  have e : (n : Int) * Up.per 1 = 10 * (n : Int) := by show (n : Int) * 10 = _; omega
  unfold grainV
  rw [e, if_pos ⟨(okN_iff _).2 ⟨by omega, by omega⟩, .inl rfl, by omega, by omega⟩]
theorem len_num (m : M) (hu : m.u = 2) (hi : m.i = 2) (hd : m.d = 4) (x n : Nat) (hx : x ≤ 16383) (hn : (n = 1 ∧ m.t = false) ∨ n = 6) : lenV m (numL x n) = some (25400 * (x : Int)) := by
  obtain ⟨_, h1, h2, h3, h4, h5⟩ := num_Way (x := x) (n := n) (by omega) (by omega)
  unfold lenV
  rw [if_neg (no_point h1), hu, hi, hd, coord_digits h1 h2 (by omega) (by decide) (x * 100) (by
    rw [h4]
    rcases hn with ⟨_, ht⟩ | hn
    · rw [ht]; simp
    · rw [h5 hn]; simp), grain_two (by omega)]
  congr 1; omega
theorem len_two (m : M) (hu : m.u = 2) (x : Nat) (hx : x ≤ 16383) : lenV m (ptL (100 * x)) = some (25400 * (x : Int)) := by
  unfold lenV
  rw [if_pos (pt_point _), dec_pt _ (by omega), hu]
  simp only []
  rw [grain_two (by omega)]
  congr 1; omega
theorem len_one (m : M) (hu : m.u = 1) (x : Nat) (hx : x ≤ 16383) : lenV m (ptL (2540 * x)) = some (25400 * (x : Int)) := by
  unfold lenV
  rw [if_pos (pt_point _), dec_pt _ (by omega), hu]
  simp only []
  rw [grain_one (by omega)]
  congr 1; omega
section
variable (x y d : Nat) (hx : x ≤ 16383) (hy : y ≤ 16383) (hd0 : 1 ≤ d) (hd : d ≤ 16)
include hx hy hd0 hd
theorem file_lz : fileV ((oneL [73, 78, 67, 72, 44, 76, 90] { kd 3 with n := 2 } (10000 * d) (numL x 6) (numL y 6)).map fun x => x.1 ++ [10]).flatten 5 = ([discS (25400 * x) (25400 * y) (1270000 * d)], 0, 0) := by
  obtain ⟨WA, _⟩ := num_Way (x := x) (n := 6) (by omega) (.inr rfl)
  obtain ⟨WB, _⟩ := num_Way (x := y) (n := 6) (by omega) (.inr rfl)
  refine file_one _ _ _ _ _ _ _ _ ⟨by decide, by decide, by decide +kernel⟩ (by decide) (by omega) WA WB ?_
  exact holes_one _ _ _ _ _ _ _ rfl (.inr rfl) (by omega) (by rw [show ({ kd 3 with n := 2 } : D).n = 2 from rfl, grain_two (by omega)]; congr 1; omega) (by omega) (by omega) WA.n WB.n (len_num _ rfl rfl rfl x 6 hx (.inr rfl)) (len_num _ rfl rfl rfl y 6 hy (.inr rfl))
theorem file_tz : fileV ((oneL [73, 78, 67, 72, 44, 84, 90] { kd 3 with n := 2, on := true } (10000 * d) (numL x 1) (numL y 1)).map fun x => x.1 ++ [10]).flatten 5 = ([discS (25400 * x) (25400 * y) (1270000 * d)], 0, 0) := by
  obtain ⟨WA, _⟩ := num_Way (x := x) (n := 1) (by omega) (.inl rfl)
  obtain ⟨WB, _⟩ := num_Way (x := y) (n := 1) (by omega) (.inl rfl)
  refine file_one _ _ _ _ _ _ _ _ ⟨by decide, by decide, by decide +kernel⟩ (by decide) (by omega) WA WB ?_
  exact holes_one _ _ _ _ _ _ _ rfl (.inr rfl) (by omega) (by rw [show ({ kd 3 with n := 2, on := true } : D).n = 2 from rfl, grain_two (by omega)]; congr 1; omega) (by omega) (by omega) WA.n WB.n (len_num _ rfl rfl rfl x 1 hx (.inl ⟨rfl, rfl⟩)) (len_num _ rfl rfl rfl y 1 hy (.inl ⟨rfl, rfl⟩))
theorem file_pt : fileV ((oneL [73, 78, 67, 72] { kd 3 with n := 2 } (10000 * d) (ptL (100 * x)) (ptL (100 * y))).map fun x => x.1 ++ [10]).flatten 5 = ([discS (25400 * x) (25400 * y) (1270000 * d)], 0, 0) := by
  have WA := pt_Way (100 * x) (by omega)
  have WB := pt_Way (100 * y) (by omega)
  refine file_one _ _ _ _ _ _ _ _ ⟨by decide, by decide, by decide +kernel⟩ (by decide) (by omega) WA WB ?_
  exact holes_one _ _ _ _ _ _ _ rfl (.inr rfl) (by omega) (by rw [show ({ kd 3 with n := 2 } : D).n = 2 from rfl, grain_two (by omega)]; congr 1; omega) (by omega) (by omega) WA.n WB.n (len_two _ rfl x hx) (len_two _ rfl y hy)
theorem file_mm : fileV ((oneL [77, 69, 84, 82, 73, 67] { kd 3 with n := 1 } (254000 * d) (ptL (2540 * x)) (ptL (2540 * y))).map fun x => x.1 ++ [10]).flatten 5 = ([discS (25400 * x) (25400 * y) (1270000 * d)], 0, 0) := by
  have WA := pt_Way (2540 * x) (by omega)
  have WB := pt_Way (2540 * y) (by omega)
  refine file_one _ _ _ _ _ _ _ _ ⟨by decide, by decide, by decide +kernel⟩ (by decide) (by omega) WA WB ?_
  exact holes_one _ _ _ _ _ _ _ rfl (.inl rfl) (by omega) (by rw [show ({ kd 3 with n := 1 } : D).n = 1 from rfl, grain_one (by omega)]; congr 1; omega) (by omega) (by omega) WA.n WB.n (len_one _ rfl x hx) (len_one _ rfl y hy)
end
end Go.Proofs.YtecpmnkgikcpnaaDoor.Hp
