/-
  Plain: a format's digits, read and told again (3.2, 3.3). No program in sight.
-/
import Derived.Test.YtmclabehdjdpnaaDoorUq
namespace Go.Proofs.YtmclabehdjdpnaaDoor.Up
open Go.Proofs.YtmclabehdjdpnaaDoor.Dp
open Go.Lib (decDigits nDigits trimRightB dg)

theorem num_steps (u : Int) (D v : Nat) : ((v * 10 ^ (6 - D) : Nat) : Int) * per u = (v : Int) * lastG u D := by
  rw [step_eq, Int.natCast_mul, Int.mul_assoc]
  congr 1
  exact Int.mul_comm _ _
theorem back_law {u : Int} {I D v : Nat} {t : Bool} (hf : fmtOk u I D = true) (h : v < 10 ^ (I + D)) {g : Int} (hc : coordV (pad v (I + D)) u I D t = some g) :
    coordV (45 :: pad v (I + D)) u I D t = some (-g) ∧ ∃ L, digitsV g u I D t = some L ∧ 1 ≤ L.length ∧ L.length ≤ I + D := by
  have hs : 1 ≤ I + D := by have := (fmtOk_iff _ _ _).1 hf; omega
  have hd := digits_pad v (I + D)
  have hsd := strip_digits hd
  have hm : millV (pad v (I + D)) (I + D) D t = v * 10 ^ (6 - D) := by
    unfold millV
    rw [val_pad, Nat.mod_eq_of_lt h, pad_length, Nat.sub_self]
    cases t <;> simp
  have e1 : coordV (pad v (I + D)) u I D t = grainV ((v * 10 ^ (6 - D) : Nat) : Int) u := by
    rw [coordV_yes ⟨hf, by rw [hsd]; show 1 ≤ (pad v (I + D)).length; rw [pad_length]; exact hs, by rw [hsd]; show (((pad v (I + D)).length : Nat) : Int) ≤ _; rw [pad_length]; omega, by rw [hsd]; exact nd_all hd⟩, hsd]
    simp only [Bool.false_eq_true, if_false]
    rw [hm]
  have e2 : coordV (45 :: pad v (I + D)) u I D t = grainV (-((v * 10 ^ (6 - D) : Nat) : Int)) u := by
    rw [coordV_yes ⟨hf, by rw [strip_minus]; show 1 ≤ (pad v (I + D)).length; rw [pad_length]; exact hs, by rw [strip_minus]; show (((pad v (I + D)).length : Nat) : Int) ≤ _; rw [pad_length]; omega, by rw [strip_minus]; exact nd_all hd⟩, strip_minus]
    simp only [if_true]
    rw [hm]
  rw [e1] at hc
  unfold grainV at hc
  split at hc
  · rename_i hcond
    obtain ⟨_, hu, b1, b2⟩ := hcond
    injection hc with hc
    have e := num_steps u D v
    rw [e] at hc b2
    have hsp := step_pos hu D
    have h0 : 0 ≤ (v : Int) * lastG u D := Int.mul_nonneg (by omega) (Int.le_of_lt hsp)
    refine ⟨by rw [e2, (steps_grain hu b2).2, hc], numL' v (I + D) t, ?_, num_length hs h⟩
    rw [← hc]
    have hsz : ((I : Int) + (D : Int)).toNat = I + D := by omega
    unfold digitsV
    rw [Int.mul_ediv_cancel _ (by omega), hsz, Int.natAbs_natCast, if_pos ⟨hf, by omega, b2, Int.mul_emod_left _ _, h⟩, if_neg (by omega)]
    rfl
  · cases hc
theorem digits_range {g u i d : Int} {t : Bool} {L : List UInt8} (h : digitsV g u i d t = some L) : -536870912 ≤ g ∧ g ≤ 536870912 := by
  unfold digitsV at h
  split at h
  · rename_i hc; exact ⟨hc.2.1, hc.2.2.1⟩
  · cases h
end Go.Proofs.YtmclabehdjdpnaaDoor.Up
