/-
  Plain: images as bytes (chapter 25): what Encode and Decode answer. No program in sight.
-/
import Derived.Test.YtmclabehdjdpnaaDoorDq
namespace Go.Proofs.YtmclabehdjdpnaaDoor.Pp
open Go.Proofs.YtmclabehdjdpnaaDoor.Dp
open Go.Lib (decDigits nDigits)

/-- How many bytes the points take. -/
def sizeV (W H : Int) (c : Bool) : Option Nat :=
  if (1 ≤ W ∧ W ≤ 256) ∧ 1 ≤ H ∧ H ≤ 256 then some ((if c then 3 else 1) * W.toNat * H.toNat) else none
def tagL (c : Bool) : List UInt8 := if c then [80, 54, 10] else [80, 53, 10]
def endL : List UInt8 := [10, 50, 53, 53, 10]
def headL (W H : Nat) (c : Bool) : List UInt8 := tagL c ++ (decDigits W ++ ([32] ++ (decDigits H ++ endL)))
/-- 25.1: the bytes of an image. -/
def encV (W H : Int) (c : Bool) (pix : List UInt8) : Option (List UInt8) :=
  if sizeV W H c = some pix.length then some (headL W.toNat H.toNat c ++ pix) else none
/-- The number that stands ahead, from n on; none if it may not be. -/
def scan : Nat → List UInt8 → Option (Nat × List UInt8)
  | n, [] => some (n, [])
  | n, c :: r => if isD c = true then (if 10 * n + (c.toNat - 48) = 0 ∨ 256 < 10 * n + (c.toNat - 48) then none else scan (10 * n + (c.toNat - 48)) r) else some (n, c :: r)
def sideV (l e : List UInt8) : Option (Nat × List UInt8) :=
  match scan 0 l with
  | none => none
  | some (n, r) => if e.isPrefixOf r = true ∧ r.length < l.length then some (n, r.drop e.length) else none
def bodyV (c : Bool) (l : List UInt8) : Option (Nat × Nat × Bool × List UInt8) :=
  match sideV l [32] with
  | none => none
  | some (W, r) =>
    match sideV r endL with
    | none => none
    | some (H, p) => if sizeV W H c = some p.length then some (W, H, c, p) else none
/-- 25.2: the image of bytes. -/
def decV (l : List UInt8) : Option (Nat × Nat × Bool × List UInt8) :=
  if (tagL false).isPrefixOf l = true then bodyV false (l.drop 3) else if (tagL true).isPrefixOf l = true then bodyV true (l.drop 3) else none

theorem decDigits_snoc {n d : Nat} (h : 1 ≤ n) (hd : d < 10) : decDigits (10 * n + d) = decDigits n ++ [UInt8.ofNat (48 + d)] := by
  rw [Lib.decDigits, dif_neg (by omega)]
  rw [show (10 * n + d) / 10 = n by omega, show (10 * n + d) % 10 = d by omega]
theorem dig_ok {d : Nat} (hd : d < 10) : isD (UInt8.ofNat (48 + d)) = true ∧ (UInt8.ofNat (48 + d)).toNat - 48 = d := by
  have h : (UInt8.ofNat (48 + d)).toNat = 48 + d := by rw [UInt8.toNat_ofNat']; exact Nat.mod_eq_of_lt (by omega)
  exact ⟨(isD_iff _).2 (by rw [h]; omega), by rw [h]; omega⟩
theorem scan_digit (n d : Nat) (hd : d < 10) (t : List UInt8) : scan n (UInt8.ofNat (48 + d) :: t) = if 10 * n + d = 0 ∨ 256 < 10 * n + d then none else scan (10 * n + d) t := by
  obtain ⟨h1, h2⟩ := dig_ok hd
  rw [scan, if_pos h1, h2]
/-- The digits of a number, read. -/
theorem scan_tell : ∀ (k : Nat) (t : List UInt8), 1 ≤ k → k ≤ 256 → scan 0 (decDigits k ++ t) = scan k t := by
  intro k
  induction k using Nat.strongRecOn with
  | _ k ih =>
    intro t h1 h2
    rw [Lib.decDigits]
    by_cases hk : k < 10
    · rw [dif_pos hk]
      show scan 0 (UInt8.ofNat (48 + k) :: t) = _
      rw [scan_digit 0 k hk, if_neg (by omega), Nat.mul_zero, Nat.zero_add]
    · rw [dif_neg hk, List.append_assoc]
      show scan 0 (decDigits (k / 10) ++ (UInt8.ofNat (48 + k % 10) :: t)) = _
      rw [ih (k / 10) (by omega) _ (by omega) (by omega), scan_digit _ _ (by omega), if_neg (by omega), show 10 * (k / 10) + k % 10 = k by omega]
theorem scan_stop (n : Nat) {c : UInt8} (hc : isD c = false) (r : List UInt8) : scan n (c :: r) = some (n, c :: r) := by
  rw [scan, if_neg (by rw [hc]; decide)]
/-- What was read from n on are the digits that follow. -/
theorem scan_back : ∀ (l : List UInt8) (n m : Nat) (r : List UInt8), 1 ≤ n → scan n l = some (m, r) → ∃ ds, l = ds ++ r ∧ decDigits m = decDigits n ++ ds ∧ (n ≤ 256 → m ≤ 256) ∧ 1 ≤ m
  | [], n, m, r, hn, h => by
    rw [scan] at h
    injection h with h
    injection h with h1 h2
    subst h1; subst h2
    exact ⟨[], rfl, by simp, fun h => h, hn⟩
  | c :: l, n, m, r, hn, h => by
    rw [scan] at h
    by_cases hc : isD c = true
    · rw [if_pos hc] at h
      obtain ⟨c1, c2⟩ := (isD_iff c).1 hc
      by_cases hb : 10 * n + (c.toNat - 48) = 0 ∨ 256 < 10 * n + (c.toNat - 48)
      · rw [if_pos hb] at h; cases h
      · rw [if_neg hb] at h
        obtain ⟨ds, e1, e2, e3, e4⟩ := scan_back l _ m r (by omega) h
        refine ⟨c :: ds, by rw [e1]; rfl, ?_, fun _ => e3 (by omega), e4⟩
        rw [e2, decDigits_snoc hn (by omega), List.append_assoc]
        congr 2
        rw [show 48 + (c.toNat - 48) = c.toNat by omega, UInt8.ofNat_toNat]; rfl
    · rw [if_neg hc] at h
      injection h with h
      injection h with h1 h2
      subst h1; subst h2
      exact ⟨[], rfl, by simp, fun h => h, hn⟩
theorem scan_first {l : List UInt8} {m : Nat} {r : List UInt8} (h : scan 0 l = some (m, r)) (hl : r.length < l.length) : l = decDigits m ++ r ∧ 1 ≤ m ∧ m ≤ 256 := by
  cases l with
  | nil => simp at hl
  | cons c l =>
    rw [scan] at h
    by_cases hc : isD c = true
    · rw [if_pos hc] at h
      obtain ⟨c1, c2⟩ := (isD_iff c).1 hc
      by_cases hb : 10 * 0 + (c.toNat - 48) = 0 ∨ 256 < 10 * 0 + (c.toNat - 48)
      · rw [if_pos hb] at h; cases h
      · rw [if_neg hb] at h
        obtain ⟨ds, e1, e2, e3, e4⟩ := scan_back l _ m r (by omega) h
        refine ⟨?_, e4, e3 (by omega)⟩
        rw [e2, Lib.decDigits_one (by omega), e1, Nat.mul_zero, Nat.zero_add, show 48 + (c.toNat - 48) = c.toNat by omega, UInt8.ofNat_toNat]
        rfl
    · rw [if_neg hc] at h
      injection h with h
      injection h with h1 h2
      rw [← h2] at hl
      exact absurd hl (Nat.lt_irrefl _)
theorem decDigits_ne (k : Nat) : 1 ≤ (decDigits k).length := by rw [Lib.decDigits_length]; exact Lib.nDigits_pos k
theorem side_tell {k : Nat} (h1 : 1 ≤ k) (h2 : k ≤ 256) {c : UInt8} (hc : isD c = false) (e t : List UInt8) : sideV (decDigits k ++ ((c :: e) ++ t)) (c :: e) = some (k, t) := by
  unfold sideV
  rw [scan_tell k _ h1 h2]
  show (match scan k (c :: (e ++ t)) with | none => none | some (n, r) => if (c :: e).isPrefixOf r = true ∧ r.length < (decDigits k ++ ((c :: e) ++ t)).length then some (n, r.drop (c :: e).length) else none) = _
  rw [scan_stop k hc]
  simp only
  rw [if_pos]
  · simp
  · constructor
    · rw [List.isPrefixOf_iff_prefix]; exact ⟨t, rfl⟩
    · have := decDigits_ne k
      simp [List.length_append]; omega
theorem side_back {l e r : List UInt8} {k : Nat} (h : sideV l e = some (k, r)) : l = decDigits k ++ (e ++ r) ∧ 1 ≤ k ∧ k ≤ 256 := by
  unfold sideV at h
  split at h
  · cases h
  · rename_i n r' hs
    split at h
    · rename_i hc
      obtain ⟨e1, e2, e3⟩ := scan_first hs hc.2
      injection h with h
      injection h with h1 h2
      subst h1
      obtain ⟨q, hq⟩ := List.isPrefixOf_iff_prefix.1 hc.1
      refine ⟨?_, e2, e3⟩
      rw [e1, ← h2, ← hq]; simp
    · cases h
theorem head_list (W H : Nat) (c : Bool) (p : List UInt8) : headL W H c ++ p = tagL c ++ (decDigits W ++ ([32] ++ (decDigits H ++ (endL ++ p)))) := by
  unfold headL; simp
theorem body_tell {W H : Nat} (hW : 1 ≤ W ∧ W ≤ 256) (hH : 1 ≤ H ∧ H ≤ 256) (c : Bool) (p : List UInt8) :
    bodyV c (decDigits W ++ ([32] ++ (decDigits H ++ (endL ++ p)))) = if sizeV W H c = some p.length then some (W, H, c, p) else none := by
  unfold bodyV
  rw [side_tell hW.1 hW.2 (c := 32) (by decide) []]
  simp only
  rw [show endL ++ p = (10 :: [50, 53, 53, 10]) ++ p from rfl, show endL = 10 :: [50, 53, 53, 10] from rfl, side_tell hH.1 hH.2 (c := 10) (by decide)]
/-- 25.2, of a head and what follows. -/
theorem dec_head {W H : Nat} (hW : 1 ≤ W ∧ W ≤ 256) (hH : 1 ≤ H ∧ H ≤ 256) (c : Bool) (p : List UInt8) :
    decV (headL W H c ++ p) = if sizeV W H c = some p.length then some (W, H, c, p) else none := by
  rw [head_list]
  unfold decV
  cases c with
  | false =>
    rw [if_pos (by rw [List.isPrefixOf_iff_prefix]; exact ⟨_, rfl⟩)]
    exact body_tell hW hH false p
  | true =>
    rw [if_neg (by simp [tagL, List.isPrefixOf]), if_pos (by rw [List.isPrefixOf_iff_prefix]; exact ⟨_, rfl⟩)]
    exact body_tell hW hH true p
theorem body_back {l p : List UInt8} {W H : Nat} {c d : Bool} (h : bodyV c l = some (W, H, d, p)) : l = decDigits W ++ ([32] ++ (decDigits H ++ (endL ++ p))) ∧ c = d ∧ sizeV W H d = some p.length := by
  unfold bodyV at h
  split at h
  · cases h
  · rename_i W' r hs
    split at h
    · cases h
    · rename_i H' q hs2
      split at h
      · rename_i hz
        injection h with h
        simp only [Prod.mk.injEq] at h
        obtain ⟨rfl, rfl, rfl, rfl⟩ := h
        obtain ⟨e1, _, _⟩ := side_back hs
        obtain ⟨e2, _, _⟩ := side_back hs2
        exact ⟨by rw [e1, e2], rfl, hz⟩
      · cases h
theorem pre_drop {a l : List UInt8} (h : a.isPrefixOf l = true) : l = a ++ l.drop a.length := by
  obtain ⟨q, hq⟩ := List.isPrefixOf_iff_prefix.1 h
  rw [← hq]; simp
/-- 25.2: what is an image is the bytes of it. -/
theorem dec_back {l p : List UInt8} {W H : Nat} {c : Bool} (h : decV l = some (W, H, c, p)) : l = headL W H c ++ p ∧ sizeV W H c = some p.length := by
  unfold decV at h
  split at h
  · rename_i hp
    obtain ⟨e, rfl, hz⟩ := body_back h
    refine ⟨?_, hz⟩
    rw [head_list, ← e]; exact pre_drop hp
  · split at h
    · rename_i hp
      obtain ⟨e, rfl, hz⟩ := body_back h
      refine ⟨?_, hz⟩
      rw [head_list, ← e]; exact pre_drop hp
    · cases h
end Go.Proofs.YtmclabehdjdpnaaDoor.Pp
