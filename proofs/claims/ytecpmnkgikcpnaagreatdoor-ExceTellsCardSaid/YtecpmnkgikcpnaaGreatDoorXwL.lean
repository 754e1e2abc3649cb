/-
  The walk of what the statements of the drill layer write for themselves: way, Line: the texts by plain functions.
-/
import Derived.Test.YtecpmnkgikcpnaaGreatDoorXwC
import Derived.Test.YtecpmnkgikcpnaaGreatDoorRefN
import Derived.Test.YtecpmnkgikcpnaaGreatDoorBits
set_option linter.unusedVariables false
set_option linter.unusedSimpArgs false
namespace Go.Proofs.YtecpmnkgikcpnaaGreatDoor.XW
open Go.RowKit Go.Proofs.YtecpmnkgikcpnaaGreatDoor.Base Go.Proofs.YtecpmnkgikcpnaaGreatDoor.Dp Go.Proofs.YtecpmnkgikcpnaaGreatDoor.DeciW Go.Proofs.YtecpmnkgikcpnaaGreatDoor.Xp

theorem numL_len (n k : Nat) (h : n < 10 ^ k) (hk : 1 ≤ k) : (numL n 1).length ≤ k := by
  rw [numL_one, dec_pad, pad_length]
  exact nDigits_le_of_lt k n h hk
theorem num_s (x : Int) (n k : Nat) (hx : x = n) (h : n < 10 ^ k) (hk2 : k ≤ 10) (S : ByteArray) (hS : Hid (S.data.toList = numL n 1)) (w : World) :
    Calls Tryz.prog 43 #[.int .i64 x, .int .i64 1] w fun e w' => e = .returned (.string S) ∧ w = w' := by
  have h2 : 10 ^ k ≤ 10 ^ 10 := Nat.pow_le_pow_right (by decide) hk2
  exact num_any n 1 (by decide) x (Lib.hid hx) (by omega) (by omega) S hS w
def wayL (x : Int) : List UInt8 :=
  (if bits .and .i64 x 1 = 1 then (if bits .and .i64 (x / 2) 1 = 0 then [45] else [43]) else []) ++
  (if bits .and .i64 x 12 = 12 then numL (bits .and .i64 (x / 16) 31).toNat 1 ++ 46 :: numL (bits .and .i64 (x / 512) 7).toNat 1 else numL (bits .and .i64 (x / 16) 32767).toNat 1)
def place19L (x y : Int) : List UInt8 := (if 0 < bits .and .i64 (x / 1048576) 7 then 88 :: wayL x else []) ++ (if 0 < bits .and .i64 (y / 1048576) 7 then 89 :: wayL y else [])
def line19L (n a b c d : Int) : List UInt8 :=
  match (bits .and .i64 n 255 % 20).toNat with
  | 0 => place19L a b
  | 1 => place19L a b
  | 2 => place19L a b
  | 3 => place19L a b
  | 4 => place19L a b ++ [71, 56, 53] ++ place19L c d
  | 5 => place19L a b ++ [71, 56, 53] ++ place19L c d
  | 6 => 84 :: numL ((bits .and .i64 a 3).toNat + 1) 1
  | 7 => 84 :: numL ((bits .and .i64 a 3).toNat + 1) 1
  | 8 => [71, 48, 48] ++ place19L a b
  | 9 => [71, 48, 49] ++ place19L a b
  | 10 => [71, 48, 49] ++ place19L a b
  | 11 => [[77, 49, 53], [77, 49, 54], [71, 48, 53], [71, 57, 48]].getD (bits .and .i64 a 3).toNat []
  | 12 => 82 :: numL (bits .and .i64 a 7).toNat 1 ++ place19L b c
  | 13 => 82 :: numL (bits .and .i64 a 7).toNat 1 ++ place19L b c
  | 14 => 59 :: wayL a
  | 15 => 84 :: numL ((bits .and .i64 a 3).toNat + 1) 1 ++ 67 :: wayL b
  | 16 => [[77, 52, 56], [37], [77, 51, 48], [84, 48], [77, 69, 84, 82, 73, 67], [73, 78, 67, 72, 44, 84, 90], [73, 78, 67, 72, 44, 76, 90], [84, 48, 49]].getD (bits .and .i64 a 7).toNat []
  | 17 => []
  | _ => [[77, 49, 53], [84, 49], [88, 49, 48, 48, 48, 89, 49, 48, 48, 48], [71, 48, 53]].getD (bits .and .i64 a 3).toNat []
theorem ite_le {p : Prop} [Decidable p] {a b : List UInt8} {n : Nat} (ha : a.length ≤ n) (hb : b.length ≤ n) : (if p then a else b).length ≤ n := by
  by_cases h : p
  · rw [if_pos h]; exact ha
  · rw [if_neg h]; exact hb
theorem wayL_len (x : Int) : (wayL x).length ≤ 10 := by
  have h1 : (numL (bits .and .i64 (x / 16) 32767).toNat 1).length ≤ 5 := numL_len _ 5 (by rw [Bits.and32767]; omega) (by decide)
  have h2 : (numL (bits .and .i64 (x / 16) 31).toNat 1).length ≤ 2 := numL_len _ 2 (by rw [Bits.and31]; omega) (by decide)
  have h3 : (numL (bits .and .i64 (x / 512) 7).toNat 1).length ≤ 1 := numL_len _ 1 (by rw [Bits.and7]; omega) (by decide)
  unfold wayL
  rw [List.length_append]
  have e1 : (if bits .and .i64 x 1 = 1 then (if bits .and .i64 (x / 2) 1 = 0 then ([45] : List UInt8) else [43]) else []).length ≤ 1 := ite_le (ite_le (by decide) (by decide)) (by decide)
  have e2 : (if bits .and .i64 x 12 = 12 then numL (bits .and .i64 (x / 16) 31).toNat 1 ++ 46 :: numL (bits .and .i64 (x / 512) 7).toNat 1 else numL (bits .and .i64 (x / 16) 32767).toNat 1).length ≤ 5 := ite_le (by simp; omega) h1
  omega
theorem place19L_len (x y : Int) : (place19L x y).length ≤ 22 := by
  have h1 := wayL_len x
  have h2 := wayL_len y
  unfold place19L
  rw [List.length_append]
  have e1 : (if 0 < bits .and .i64 (x / 1048576) 7 then 88 :: wayL x else []).length ≤ 11 := ite_le (by simp; omega) (by simp)
  have e2 : (if 0 < bits .and .i64 (y / 1048576) 7 then 89 :: wayL y else []).length ≤ 11 := ite_le (by simp; omega) (by simp)
  omega
theorem getD_le {l : List (List UInt8)} {n : Nat} (h : ∀ x ∈ l, x.length ≤ n) (i : Nat) : (l.getD i []).length ≤ n := by
  rw [List.getD_eq_getElem?_getD]
  cases hi : l[i]? with
  | none => simp
  | some x => exact h x (List.mem_of_getElem? hi)
theorem line19L_len (n a b c d : Int) : (line19L n a b c d).length ≤ 60 := by
  have p1 := place19L_len a b
  have p2 := place19L_len b c
  have p3 := place19L_len c d
  have w1 := wayL_len a
  have w2 := wayL_len b
  have n1 : (numL ((bits .and .i64 a 3).toNat + 1) 1).length ≤ 1 := numL_len _ 1 (by rw [Bits.and3]; omega) (by decide)
  have n2 : (numL (bits .and .i64 a 7).toNat 1).length ≤ 1 := numL_len _ 1 (by rw [Bits.and7]; omega) (by decide)
  unfold line19L
  split
  all_goals first | omega | (simp only [List.length_append, List.length_cons, List.length_nil]; omega) | exact Nat.le_trans (getD_le (n := 20) (by decide) _) (by decide) | decide

set_option maxHeartbeats 3200000 in
theorem way_c (x : Int) (R : ByteArray) (hR : Hid (R.data.toList = wayL x)) (w : World) : Calls Tryz.prog 42 #[.int .i64 x] w fun e w' => e = .returned (.string R) ∧ Below w.heap.size w w' := by
  have HR := hR.out
  unfold wayL at HR
  obtain ⟨a, ha⟩ : ∃ a, bits .and .i64 x 1 = a := ⟨_, rfl⟩
  obtain ⟨b, hb⟩ : ∃ b, bits .and .i64 x 12 = b := ⟨_, rfl⟩
  obtain ⟨c, hc, hc2⟩ : ∃ c : Nat, bits .and .i64 (x / 2) 1 = (c : Int) ∧ c ≤ 1 := ⟨(x / 2 % 2).toNat, by rw [Bits.and1]; omega, by omega⟩
  obtain ⟨n, hn, hn2⟩ : ∃ n : Nat, bits .and .i64 (x / 16) 32767 = (n : Int) ∧ n < 10 ^ 5 := ⟨(x / 16 % 32768).toNat, by rw [Bits.and32767]; omega, by omega⟩
  obtain ⟨p, hp, hp2⟩ : ∃ p : Nat, bits .and .i64 (x / 16) 31 = (p : Int) ∧ p < 10 ^ 2 := ⟨(x / 16 % 32).toNat, by rw [Bits.and31]; omega, by omega⟩
  obtain ⟨q, hq, hq2⟩ : ∃ q : Nat, bits .and .i64 (x / 512) 7 = (q : Int) ∧ q < 10 ^ 1 := ⟨(x / 512 % 8).toNat, by rw [Bits.and7]; omega, by omega⟩
  rw [ha, hb, hc, hn, hp, hq, Int.toNat_natCast, Int.toNat_natCast, Int.toNat_natCast] at HR
  obtain ⟨SN, hSN⟩ := str_ex (numL n 1)
  obtain ⟨SP, hSP⟩ := str_ex (numL p 1)
  obtain ⟨SQ, hSQ⟩ := str_ex (numL q 1)
  rw [← hSN, ← hSP, ← hSQ] at HR
  have zN : SN.size ≤ 5 := by rw [← len_list, hSN]; exact numL_len n 5 hn2 (by decide)
  have zP : SP.size ≤ 2 := by rw [← len_list, hSP]; exact numL_len p 2 hp2 (by decide)
  have zQ : SQ.size ≤ 1 := by rw [← len_list, hSQ]; exact numL_len q 1 hq2 (by decide)
  have HN := Lib.hid hSN
  have HP := Lib.hid hSP
  have HQ := Lib.hid hSQ
  clear hSN hSP hSQ hR
  by_cases h1 : a = 1
  · subst h1
    have hc3 : c = 0 ∨ c = 1 := by omega
    rcases hc3 with rfl | rfl
    · by_cases h12 : b = 12
      · subst h12
        have HE := Lib.hid HR
        clear HR
        have z1 : ¬ 9223372036854775807 < 1 + SP.size := by omega
        have z2 : ¬ 9223372036854775807 < 1 + SP.size + 1 := by omega
        have z3 : ¬ 9223372036854775807 < 1 + SP.size + 1 + SQ.size := by omega
        go_enter Tryz.func42, Tryz.ntmps42
        go_wp2_with fail
        refine (num_s _ p 2 rfl hp2 (by decide) SP HP _).mono ?_
        rintro e w' ⟨rfl, rfl⟩
        go_wp2_with fail
        refine (num_s _ q 1 rfl hq2 (by decide) SQ HQ _).mono ?_
        rintro e w' ⟨rfl, rfl⟩
        go_wp2_with fail
        go_ret
        exact ⟨ret_str (by rw [HE.out]; (try simp only [app_list, mk_list]) <;> (try simp)), by (first | exact Below.refl _ _ | exact (Below.refl _ _).alloc (Nat.le_refl _) _)⟩
      · have h12b : (b == 12) = false := by rw [beq_eq_false_iff_ne]; exact h12
        rw [if_neg h12] at HR
        have HE := Lib.hid HR
        clear HR
        have z1 : ¬ 9223372036854775807 < 1 + SN.size := by omega
        go_enter Tryz.func42, Tryz.ntmps42
        go_wp2_with fail
        refine (num_s _ n 5 rfl hn2 (by decide) SN HN _).mono ?_
        rintro e w' ⟨rfl, rfl⟩
        go_wp2_with fail
        go_ret
        exact ⟨ret_str (by rw [HE.out]; (try simp only [app_list, mk_list]) <;> (try simp)), by (first | exact Below.refl _ _ | exact (Below.refl _ _).alloc (Nat.le_refl _) _)⟩
    · by_cases h12 : b = 12
      · subst h12
        have HE := Lib.hid HR
        clear HR
        have z1 : ¬ 9223372036854775807 < 1 + SP.size := by omega
        have z2 : ¬ 9223372036854775807 < 1 + SP.size + 1 := by omega
        have z3 : ¬ 9223372036854775807 < 1 + SP.size + 1 + SQ.size := by omega
        go_enter Tryz.func42, Tryz.ntmps42
        go_wp2_with fail
        refine (num_s _ p 2 rfl hp2 (by decide) SP HP _).mono ?_
        rintro e w' ⟨rfl, rfl⟩
        go_wp2_with fail
        refine (num_s _ q 1 rfl hq2 (by decide) SQ HQ _).mono ?_
        rintro e w' ⟨rfl, rfl⟩
        go_wp2_with fail
        go_ret
        exact ⟨ret_str (by rw [HE.out]; (try simp only [app_list, mk_list]) <;> (try simp)), by (first | exact Below.refl _ _ | exact (Below.refl _ _).alloc (Nat.le_refl _) _)⟩
      · have h12b : (b == 12) = false := by rw [beq_eq_false_iff_ne]; exact h12
        rw [if_neg h12] at HR
        have HE := Lib.hid HR
        clear HR
        have z1 : ¬ 9223372036854775807 < 1 + SN.size := by omega
        go_enter Tryz.func42, Tryz.ntmps42
        go_wp2_with fail
        refine (num_s _ n 5 rfl hn2 (by decide) SN HN _).mono ?_
        rintro e w' ⟨rfl, rfl⟩
        go_wp2_with fail
        go_ret
        exact ⟨ret_str (by rw [HE.out]; (try simp only [app_list, mk_list]) <;> (try simp)), by (first | exact Below.refl _ _ | exact (Below.refl _ _).alloc (Nat.le_refl _) _)⟩
  · have h1b : (a == 1) = false := by rw [beq_eq_false_iff_ne]; exact h1
    rw [if_neg h1] at HR
    by_cases h12 : b = 12
    · subst h12
      have HE := Lib.hid HR
      clear HR
      have z1 : ¬ 9223372036854775807 < SP.size := by omega
      have z2 : ¬ 9223372036854775807 < SP.size + 1 := by omega
      have z3 : ¬ 9223372036854775807 < SP.size + 1 + SQ.size := by omega
      go_enter Tryz.func42, Tryz.ntmps42
      go_wp2_with fail
      refine (num_s _ p 2 rfl hp2 (by decide) SP HP _).mono ?_
      rintro e w' ⟨rfl, rfl⟩
      go_wp2_with fail
      refine (num_s _ q 1 rfl hq2 (by decide) SQ HQ _).mono ?_
      rintro e w' ⟨rfl, rfl⟩
      go_wp2_with fail
      go_ret
      exact ⟨ret_str (by rw [HE.out]; (try simp only [app_list, mk_list]) <;> (try simp)), by (first | exact Below.refl _ _ | exact (Below.refl _ _).alloc (Nat.le_refl _) _)⟩
    · have h12b : (b == 12) = false := by rw [beq_eq_false_iff_ne]; exact h12
      rw [if_neg h12] at HR
      have HE := Lib.hid HR
      clear HR
      have z1 : ¬ 9223372036854775807 < SN.size := by omega
      go_enter Tryz.func42, Tryz.ntmps42
      go_wp2_with fail
      refine (num_s _ n 5 rfl hn2 (by decide) SN HN _).mono ?_
      rintro e w' ⟨rfl, rfl⟩
      go_wp2_with fail
      go_ret
      exact ⟨ret_str (by rw [HE.out]; (try simp only [app_list, mk_list]) <;> (try simp)), by (first | exact Below.refl _ _ | exact (Below.refl _ _).alloc (Nat.le_refl _) _)⟩

set_option maxHeartbeats 1600000 in
theorem place19_c (x y : Int) (R : ByteArray) (hR : Hid (R.data.toList = place19L x y)) (w : World) : Calls Tryz.prog 41 #[.int .i64 x, .int .i64 y] w fun e w' => e = .returned (.string R) ∧ Below w.heap.size w w' := by
  have HR := hR.out
  unfold place19L at HR
  obtain ⟨a, ha⟩ : ∃ a, bits .and .i64 (x / 1048576) 7 = a := ⟨_, rfl⟩
  obtain ⟨b, hb⟩ : ∃ b, bits .and .i64 (y / 1048576) 7 = b := ⟨_, rfl⟩
  rw [ha, hb] at HR
  obtain ⟨S, hS⟩ := str_ex (wayL x)
  obtain ⟨T, hT⟩ := str_ex (wayL y)
  rw [← hS, ← hT] at HR
  have zS : S.size ≤ 10 := by rw [← len_list, hS]; exact wayL_len x
  have zT : T.size ≤ 10 := by rw [← len_list, hT]; exact wayL_len y
  have HS := Lib.hid hS
  have HT := Lib.hid hT
  clear hS hT hR
  by_cases h1 : 0 < a
  · rw [if_pos h1] at HR
    by_cases h2 : 0 < b
    · rw [if_pos h2] at HR
      have HE := Lib.hid HR
      clear HR
      have z1 : ¬ 9223372036854775807 < 1 + S.size := by omega
      have z2 : ¬ 9223372036854775807 < 1 + S.size + 1 := by omega
      have z3 : ¬ 9223372036854775807 < 1 + S.size + 1 + T.size := by omega
      go_enter Tryz.func41, Tryz.ntmps41
      go_wp2_with fail
      refine (way_c x S HS _).mono ?_
      rintro e w1 ⟨rfl, hb1⟩
      go_wp2_with fail
      refine (way_c y T HT _).mono ?_
      rintro e w2 ⟨rfl, hb2⟩
      go_wp2_with fail
      go_ret
      exact ⟨ret_str (by rw [HE.out]; (try simp only [app_list, mk_list]) <;> (try simp)), hb1.trans (hb2.mono hb1.size)⟩
    · rw [if_neg h2] at HR
      have HE := Lib.hid HR
      clear HR
      have z1 : ¬ 9223372036854775807 < 1 + S.size := by omega
      go_enter Tryz.func41, Tryz.ntmps41
      go_wp2_with fail
      refine (way_c x S HS _).mono ?_
      rintro e w1 ⟨rfl, hb1⟩
      go_wp2_with fail
      go_ret
      exact ⟨ret_str (by rw [HE.out]; (try simp only [app_list, mk_list]) <;> (try simp)), hb1⟩
  · rw [if_neg h1] at HR
    by_cases h2 : 0 < b
    · rw [if_pos h2] at HR
      have HE := Lib.hid HR
      clear HR
      have z1 : ¬ 9223372036854775807 < 1 + T.size := by omega
      go_enter Tryz.func41, Tryz.ntmps41
      go_wp2_with fail
      refine (way_c y T HT _).mono ?_
      rintro e w2 ⟨rfl, hb2⟩
      go_wp2_with fail
      go_ret
      exact ⟨ret_str (by rw [HE.out]; (try simp only [app_list, mk_list]) <;> (try simp)), hb2⟩
    · rw [if_neg h2] at HR
      have HE := Lib.hid HR
      clear HR
      go_enter Tryz.func41, Tryz.ntmps41
      go_wp2_with fail
      go_ret
      exact ⟨ret_str (by rw [HE.out]; (try simp only [app_list, mk_list]) <;> (try simp)), Below.refl _ _⟩

set_option maxRecDepth 100000 in
set_option maxHeartbeats 12800000 in
theorem line19_c (n a b c d : Int) (R : ByteArray) (hR : Hid (R.data.toList = line19L n a b c d)) (w : World) : Calls Tryz.prog 20 #[.int .i64 n, .int .i64 a, .int .i64 b, .int .i64 c, .int .i64 d] w fun e w' => e = .returned (.string R) ∧ Below w.heap.size w w' := by
  have HR := hR.out
  unfold line19L at HR
  obtain ⟨m, hm, hm2⟩ : ∃ m : Nat, bits .and .i64 n 255 = (m : Int) ∧ m ≤ 255 := ⟨(n % 256).toNat, by rw [Bits.and255]; omega, by omega⟩
  obtain ⟨k, hk, hk2⟩ : ∃ k : Nat, (m : Int) % 20 = (k : Int) ∧ k ≤ 19 := ⟨m % 20, by omega, by omega⟩
  obtain ⟨i, hi, hi2⟩ : ∃ i : Nat, bits .and .i64 a 3 = (i : Int) ∧ i ≤ 3 := ⟨(a % 4).toNat, by rw [Bits.and3]; omega, by omega⟩
  obtain ⟨j, hj, hj2⟩ : ∃ j : Nat, bits .and .i64 a 7 = (j : Int) ∧ j ≤ 7 := ⟨(a % 8).toNat, by rw [Bits.and7]; omega, by omega⟩
  rw [hm, hk, hi, hj, Int.toNat_natCast, Int.toNat_natCast, Int.toNat_natCast] at HR
  obtain ⟨N, hN⟩ := str_ex (numL (i + 1) 1)
  obtain ⟨M, hM⟩ := str_ex (numL j 1)
  obtain ⟨PA, hPA⟩ := str_ex (place19L a b)
  obtain ⟨PB, hPB⟩ := str_ex (place19L b c)
  obtain ⟨PC, hPC⟩ := str_ex (place19L c d)
  obtain ⟨WA, hWA⟩ := str_ex (wayL a)
  obtain ⟨WB, hWB⟩ := str_ex (wayL b)
  have zN : N.size ≤ 1 := by rw [← len_list, hN]; exact numL_len _ 1 (by omega) (by decide)
  have zM : M.size ≤ 1 := by rw [← len_list, hM]; exact numL_len _ 1 (by omega) (by decide)
  have zPA : PA.size ≤ 22 := by rw [← len_list, hPA]; exact place19L_len _ _
  have zPB : PB.size ≤ 22 := by rw [← len_list, hPB]; exact place19L_len _ _
  have zPC : PC.size ≤ 22 := by rw [← len_list, hPC]; exact place19L_len _ _
  have zWA : WA.size ≤ 10 := by rw [← len_list, hWA]; exact wayL_len _
  have zWB : WB.size ≤ 10 := by rw [← len_list, hWB]; exact wayL_len _
  have HN := Lib.hid hN
  have HM := Lib.hid hM
  have HPA := Lib.hid hPA
  have HPB := Lib.hid hPB
  have HPC := Lib.hid hPC
  have HWA := Lib.hid hWA
  have HWB := Lib.hid hWB
  clear hN hM hPA hPB hPC hWA hWB hR
  have hk3 : k = 0 ∨ k = 1 ∨ k = 2 ∨ k = 3 ∨ k = 4 ∨ k = 5 ∨ k = 6 ∨ k = 7 ∨ k = 8 ∨ k = 9 ∨ k = 10 ∨ k = 11 ∨ k = 12 ∨ k = 13 ∨ k = 14 ∨ k = 15 ∨ k = 16 ∨ k = 17 ∨ k = 18 ∨ k = 19 := by omega
  rcases hk3 with rfl | rfl | rfl | rfl | rfl | rfl | rfl | rfl | rfl | rfl | rfl | rfl | rfl | rfl | rfl | rfl | rfl | rfl | rfl | rfl
  · have HE := Lib.hid HR
    clear HR
    go_enter Tryz.func20, Tryz.ntmps20
    go_wp2_with fail
    refine (num_s _ (i + 1) 1 (by omega) (by omega) (by decide) N HN _).mono ?_
    rintro e w' ⟨rfl, rfl⟩
    go_wp2_with fail
    refine (place19_c a b PA HPA _).mono ?_
    rintro e w1 ⟨rfl, hb1⟩
    go_wp2_with fail
    go_ret
    exact ⟨ret_str (by rw [HE.out]; (try simp only [app_list, mk_list, HN.out, HM.out, HPA.out, HPB.out, HPC.out, HWA.out, HWB.out]); first | done | rfl | simp), hb1⟩
  · have HE := Lib.hid HR
    clear HR
    go_enter Tryz.func20, Tryz.ntmps20
    go_wp2_with fail
    refine (num_s _ (i + 1) 1 (by omega) (by omega) (by decide) N HN _).mono ?_
    rintro e w' ⟨rfl, rfl⟩
    go_wp2_with fail
    refine (place19_c a b PA HPA _).mono ?_
    rintro e w1 ⟨rfl, hb1⟩
    go_wp2_with fail
    go_ret
    exact ⟨ret_str (by rw [HE.out]; (try simp only [app_list, mk_list, HN.out, HM.out, HPA.out, HPB.out, HPC.out, HWA.out, HWB.out]); first | done | rfl | simp), hb1⟩
  · have HE := Lib.hid HR
    clear HR
    go_enter Tryz.func20, Tryz.ntmps20
    go_wp2_with fail
    refine (num_s _ (i + 1) 1 (by omega) (by omega) (by decide) N HN _).mono ?_
    rintro e w' ⟨rfl, rfl⟩
    go_wp2_with fail
    refine (place19_c a b PA HPA _).mono ?_
    rintro e w1 ⟨rfl, hb1⟩
    go_wp2_with fail
    go_ret
    exact ⟨ret_str (by rw [HE.out]; (try simp only [app_list, mk_list, HN.out, HM.out, HPA.out, HPB.out, HPC.out, HWA.out, HWB.out]); first | done | rfl | simp), hb1⟩
  · have HE := Lib.hid HR
    clear HR
    go_enter Tryz.func20, Tryz.ntmps20
    go_wp2_with fail
    refine (num_s _ (i + 1) 1 (by omega) (by omega) (by decide) N HN _).mono ?_
    rintro e w' ⟨rfl, rfl⟩
    go_wp2_with fail
    refine (place19_c a b PA HPA _).mono ?_
    rintro e w1 ⟨rfl, hb1⟩
    go_wp2_with fail
    go_ret
    exact ⟨ret_str (by rw [HE.out]; (try simp only [app_list, mk_list, HN.out, HM.out, HPA.out, HPB.out, HPC.out, HWA.out, HWB.out]); first | done | rfl | simp), hb1⟩
  · have HE := Lib.hid HR
    clear HR
    have za : ¬ 9223372036854775807 < PA.size + 3 := by omega
    have zb : ¬ 9223372036854775807 < PA.size + 3 + PC.size := by omega
    go_enter Tryz.func20, Tryz.ntmps20
    go_wp2_with fail
    refine (num_s _ (i + 1) 1 (by omega) (by omega) (by decide) N HN _).mono ?_
    rintro e w' ⟨rfl, rfl⟩
    go_wp2_with fail
    refine (place19_c a b PA HPA _).mono ?_
    rintro e w1 ⟨rfl, hb1⟩
    go_wp2_with fail
    refine (place19_c c d PC HPC _).mono ?_
    rintro e w2 ⟨rfl, hb2⟩
    go_wp2_with fail
    go_ret
    exact ⟨ret_str (by rw [HE.out]; (try simp only [app_list, mk_list, HN.out, HM.out, HPA.out, HPB.out, HPC.out, HWA.out, HWB.out]); first | done | rfl | simp), hb1.trans (hb2.mono hb1.size)⟩
  · have HE := Lib.hid HR
    clear HR
    have za : ¬ 9223372036854775807 < PA.size + 3 := by omega
    have zb : ¬ 9223372036854775807 < PA.size + 3 + PC.size := by omega
    go_enter Tryz.func20, Tryz.ntmps20
    go_wp2_with fail
    refine (num_s _ (i + 1) 1 (by omega) (by omega) (by decide) N HN _).mono ?_
    rintro e w' ⟨rfl, rfl⟩
    go_wp2_with fail
    refine (place19_c a b PA HPA _).mono ?_
    rintro e w1 ⟨rfl, hb1⟩
    go_wp2_with fail
    refine (place19_c c d PC HPC _).mono ?_
    rintro e w2 ⟨rfl, hb2⟩
    go_wp2_with fail
    go_ret
    exact ⟨ret_str (by rw [HE.out]; (try simp only [app_list, mk_list, HN.out, HM.out, HPA.out, HPB.out, HPC.out, HWA.out, HWB.out]); first | done | rfl | simp), hb1.trans (hb2.mono hb1.size)⟩
  · have HE := Lib.hid HR
    clear HR
    have za : ¬ 9223372036854775807 < 1 + N.size := by omega
    go_enter Tryz.func20, Tryz.ntmps20
    go_wp2_with fail
    refine (num_s _ (i + 1) 1 (by omega) (by omega) (by decide) N HN _).mono ?_
    rintro e w' ⟨rfl, rfl⟩
    go_wp2_with fail
    go_ret
    exact ⟨ret_str (by rw [HE.out]; (try simp only [app_list, mk_list, HN.out, HM.out, HPA.out, HPB.out, HPC.out, HWA.out, HWB.out]); first | done | rfl | simp), Below.refl _ _⟩
  · have HE := Lib.hid HR
    clear HR
    have za : ¬ 9223372036854775807 < 1 + N.size := by omega
    go_enter Tryz.func20, Tryz.ntmps20
    go_wp2_with fail
    refine (num_s _ (i + 1) 1 (by omega) (by omega) (by decide) N HN _).mono ?_
    rintro e w' ⟨rfl, rfl⟩
    go_wp2_with fail
    go_ret
    exact ⟨ret_str (by rw [HE.out]; (try simp only [app_list, mk_list, HN.out, HM.out, HPA.out, HPB.out, HPC.out, HWA.out, HWB.out]); first | done | rfl | simp), Below.refl _ _⟩
  · have HE := Lib.hid HR
    clear HR
    have za : ¬ 9223372036854775807 < 3 + PA.size := by omega
    go_enter Tryz.func20, Tryz.ntmps20
    go_wp2_with fail
    refine (num_s _ (i + 1) 1 (by omega) (by omega) (by decide) N HN _).mono ?_
    rintro e w' ⟨rfl, rfl⟩
    go_wp2_with fail
    refine (place19_c a b PA HPA _).mono ?_
    rintro e w1 ⟨rfl, hb1⟩
    go_wp2_with fail
    go_ret
    exact ⟨ret_str (by rw [HE.out]; (try simp only [app_list, mk_list, HN.out, HM.out, HPA.out, HPB.out, HPC.out, HWA.out, HWB.out]); first | done | rfl | simp), hb1⟩
  · have HE := Lib.hid HR
    clear HR
    have za : ¬ 9223372036854775807 < 3 + PA.size := by omega
    go_enter Tryz.func20, Tryz.ntmps20
    go_wp2_with fail
    refine (num_s _ (i + 1) 1 (by omega) (by omega) (by decide) N HN _).mono ?_
    rintro e w' ⟨rfl, rfl⟩
    go_wp2_with fail
    refine (place19_c a b PA HPA _).mono ?_
    rintro e w1 ⟨rfl, hb1⟩
    go_wp2_with fail
    go_ret
    exact ⟨ret_str (by rw [HE.out]; (try simp only [app_list, mk_list, HN.out, HM.out, HPA.out, HPB.out, HPC.out, HWA.out, HWB.out]); first | done | rfl | simp), hb1⟩
  · have HE := Lib.hid HR
    clear HR
    have za : ¬ 9223372036854775807 < 3 + PA.size := by omega
    go_enter Tryz.func20, Tryz.ntmps20
    go_wp2_with fail
    refine (num_s _ (i + 1) 1 (by omega) (by omega) (by decide) N HN _).mono ?_
    rintro e w' ⟨rfl, rfl⟩
    go_wp2_with fail
    refine (place19_c a b PA HPA _).mono ?_
    rintro e w1 ⟨rfl, hb1⟩
    go_wp2_with fail
    go_ret
    exact ⟨ret_str (by rw [HE.out]; (try simp only [app_list, mk_list, HN.out, HM.out, HPA.out, HPB.out, HPC.out, HWA.out, HWB.out]); first | done | rfl | simp), hb1⟩
  · have hi3 : i = 0 ∨ i = 1 ∨ i = 2 ∨ i = 3 := by omega
    rcases hi3 with rfl | rfl | rfl | rfl
    · have HE := Lib.hid HR
      clear HR
      go_enter Tryz.func20, Tryz.ntmps20
      go_wp2_with fail
      refine (num_s _ (0 + 1) 1 (by omega) (by omega) (by decide) N HN _).mono ?_
      rintro e w' ⟨rfl, rfl⟩
      go_wp2_with fail
      go_ret
      exact ⟨ret_str (by rw [HE.out]; (try simp only [app_list, mk_list, HN.out, HM.out, HPA.out, HPB.out, HPC.out, HWA.out, HWB.out]); first | done | rfl | simp), (Below.refl _ _).alloc (Nat.le_refl _) _⟩
    · have HE := Lib.hid HR
      clear HR
      go_enter Tryz.func20, Tryz.ntmps20
      go_wp2_with fail
      refine (num_s _ (1 + 1) 1 (by omega) (by omega) (by decide) N HN _).mono ?_
      rintro e w' ⟨rfl, rfl⟩
      go_wp2_with fail
      go_ret
      exact ⟨ret_str (by rw [HE.out]; (try simp only [app_list, mk_list, HN.out, HM.out, HPA.out, HPB.out, HPC.out, HWA.out, HWB.out]); first | done | rfl | simp), (Below.refl _ _).alloc (Nat.le_refl _) _⟩
    · have HE := Lib.hid HR
      clear HR
      go_enter Tryz.func20, Tryz.ntmps20
      go_wp2_with fail
      refine (num_s _ (2 + 1) 1 (by omega) (by omega) (by decide) N HN _).mono ?_
      rintro e w' ⟨rfl, rfl⟩
      go_wp2_with fail
      go_ret
      exact ⟨ret_str (by rw [HE.out]; (try simp only [app_list, mk_list, HN.out, HM.out, HPA.out, HPB.out, HPC.out, HWA.out, HWB.out]); first | done | rfl | simp), (Below.refl _ _).alloc (Nat.le_refl _) _⟩
    · have HE := Lib.hid HR
      clear HR
      go_enter Tryz.func20, Tryz.ntmps20
      go_wp2_with fail
      refine (num_s _ (3 + 1) 1 (by omega) (by omega) (by decide) N HN _).mono ?_
      rintro e w' ⟨rfl, rfl⟩
      go_wp2_with fail
      go_ret
      exact ⟨ret_str (by rw [HE.out]; (try simp only [app_list, mk_list, HN.out, HM.out, HPA.out, HPB.out, HPC.out, HWA.out, HWB.out]); first | done | rfl | simp), (Below.refl _ _).alloc (Nat.le_refl _) _⟩
  · have HE := Lib.hid HR
    clear HR
    have za : ¬ 9223372036854775807 < 1 + M.size := by omega
    have zb : ¬ 9223372036854775807 < 1 + M.size + PB.size := by omega
    go_enter Tryz.func20, Tryz.ntmps20
    go_wp2_with fail
    refine (num_s _ (i + 1) 1 (by omega) (by omega) (by decide) N HN _).mono ?_
    rintro e w' ⟨rfl, rfl⟩
    go_wp2_with fail
    refine (num_s _ j 1 rfl (by omega) (by decide) M HM _).mono ?_
    rintro e w' ⟨rfl, rfl⟩
    go_wp2_with fail
    refine (place19_c b c PB HPB _).mono ?_
    rintro e w1 ⟨rfl, hb1⟩
    go_wp2_with fail
    go_ret
    exact ⟨ret_str (by rw [HE.out]; (try simp only [app_list, mk_list, HN.out, HM.out, HPA.out, HPB.out, HPC.out, HWA.out, HWB.out]); first | done | rfl | simp), hb1⟩
  · have HE := Lib.hid HR
    clear HR
    have za : ¬ 9223372036854775807 < 1 + M.size := by omega
    have zb : ¬ 9223372036854775807 < 1 + M.size + PB.size := by omega
    go_enter Tryz.func20, Tryz.ntmps20
    go_wp2_with fail
    refine (num_s _ (i + 1) 1 (by omega) (by omega) (by decide) N HN _).mono ?_
    rintro e w' ⟨rfl, rfl⟩
    go_wp2_with fail
    refine (num_s _ j 1 rfl (by omega) (by decide) M HM _).mono ?_
    rintro e w' ⟨rfl, rfl⟩
    go_wp2_with fail
    refine (place19_c b c PB HPB _).mono ?_
    rintro e w1 ⟨rfl, hb1⟩
    go_wp2_with fail
    go_ret
    exact ⟨ret_str (by rw [HE.out]; (try simp only [app_list, mk_list, HN.out, HM.out, HPA.out, HPB.out, HPC.out, HWA.out, HWB.out]); first | done | rfl | simp), hb1⟩
  · have HE := Lib.hid HR
    clear HR
    have za : ¬ 9223372036854775807 < 1 + WA.size := by omega
    go_enter Tryz.func20, Tryz.ntmps20
    go_wp2_with fail
    refine (num_s _ (i + 1) 1 (by omega) (by omega) (by decide) N HN _).mono ?_
    rintro e w' ⟨rfl, rfl⟩
    go_wp2_with fail
    refine (way_c a WA HWA _).mono ?_
    rintro e w1 ⟨rfl, hb1⟩
    go_wp2_with fail
    go_ret
    exact ⟨ret_str (by rw [HE.out]; (try simp only [app_list, mk_list, HN.out, HM.out, HPA.out, HPB.out, HPC.out, HWA.out, HWB.out]); first | done | rfl | simp), hb1⟩
  · have HE := Lib.hid HR
    clear HR
    have za : ¬ 9223372036854775807 < 1 + N.size := by omega
    have zb : ¬ 9223372036854775807 < 1 + N.size + 1 := by omega
    have zc : ¬ 9223372036854775807 < 1 + N.size + 1 + WB.size := by omega
    go_enter Tryz.func20, Tryz.ntmps20
    go_wp2_with fail
    refine (num_s _ (i + 1) 1 (by omega) (by omega) (by decide) N HN _).mono ?_
    rintro e w' ⟨rfl, rfl⟩
    go_wp2_with fail
    refine (way_c b WB HWB _).mono ?_
    rintro e w1 ⟨rfl, hb1⟩
    go_wp2_with fail
    go_ret
    exact ⟨ret_str (by rw [HE.out]; (try simp only [app_list, mk_list, HN.out, HM.out, HPA.out, HPB.out, HPC.out, HWA.out, HWB.out]); first | done | rfl | simp), hb1⟩
  · have hi3 : j = 0 ∨ j = 1 ∨ j = 2 ∨ j = 3 ∨ j = 4 ∨ j = 5 ∨ j = 6 ∨ j = 7 := by omega
    rcases hi3 with rfl | rfl | rfl | rfl | rfl | rfl | rfl | rfl
    · have HE := Lib.hid HR
      clear HR
      go_enter Tryz.func20, Tryz.ntmps20
      go_wp2_with fail
      refine (num_s _ (i + 1) 1 (by omega) (by omega) (by decide) N HN _).mono ?_
      rintro e w' ⟨rfl, rfl⟩
      go_wp2_with fail
      go_ret
      exact ⟨ret_str (by rw [HE.out]; (try simp only [app_list, mk_list, HN.out, HM.out, HPA.out, HPB.out, HPC.out, HWA.out, HWB.out]); first | done | rfl | simp), (Below.refl _ _).alloc (Nat.le_refl _) _⟩
    · have HE := Lib.hid HR
      clear HR
      go_enter Tryz.func20, Tryz.ntmps20
      go_wp2_with fail
      refine (num_s _ (i + 1) 1 (by omega) (by omega) (by decide) N HN _).mono ?_
      rintro e w' ⟨rfl, rfl⟩
      go_wp2_with fail
      go_ret
      exact ⟨ret_str (by rw [HE.out]; (try simp only [app_list, mk_list, HN.out, HM.out, HPA.out, HPB.out, HPC.out, HWA.out, HWB.out]); first | done | rfl | simp), (Below.refl _ _).alloc (Nat.le_refl _) _⟩
    · have HE := Lib.hid HR
      clear HR
      go_enter Tryz.func20, Tryz.ntmps20
      go_wp2_with fail
      refine (num_s _ (i + 1) 1 (by omega) (by omega) (by decide) N HN _).mono ?_
      rintro e w' ⟨rfl, rfl⟩
      go_wp2_with fail
      go_ret
      exact ⟨ret_str (by rw [HE.out]; (try simp only [app_list, mk_list, HN.out, HM.out, HPA.out, HPB.out, HPC.out, HWA.out, HWB.out]); first | done | rfl | simp), (Below.refl _ _).alloc (Nat.le_refl _) _⟩
    · have HE := Lib.hid HR
      clear HR
      go_enter Tryz.func20, Tryz.ntmps20
      go_wp2_with fail
      refine (num_s _ (i + 1) 1 (by omega) (by omega) (by decide) N HN _).mono ?_
      rintro e w' ⟨rfl, rfl⟩
      go_wp2_with fail
      go_ret
      exact ⟨ret_str (by rw [HE.out]; (try simp only [app_list, mk_list, HN.out, HM.out, HPA.out, HPB.out, HPC.out, HWA.out, HWB.out]); first | done | rfl | simp), (Below.refl _ _).alloc (Nat.le_refl _) _⟩
    · have HE := Lib.hid HR
      clear HR
      go_enter Tryz.func20, Tryz.ntmps20
      go_wp2_with fail
      refine (num_s _ (i + 1) 1 (by omega) (by omega) (by decide) N HN _).mono ?_
      rintro e w' ⟨rfl, rfl⟩
      go_wp2_with fail
      go_ret
      exact ⟨ret_str (by rw [HE.out]; (try simp only [app_list, mk_list, HN.out, HM.out, HPA.out, HPB.out, HPC.out, HWA.out, HWB.out]); first | done | rfl | simp), (Below.refl _ _).alloc (Nat.le_refl _) _⟩
    · have HE := Lib.hid HR
      clear HR
      go_enter Tryz.func20, Tryz.ntmps20
      go_wp2_with fail
      refine (num_s _ (i + 1) 1 (by omega) (by omega) (by decide) N HN _).mono ?_
      rintro e w' ⟨rfl, rfl⟩
      go_wp2_with fail
      go_ret
      exact ⟨ret_str (by rw [HE.out]; (try simp only [app_list, mk_list, HN.out, HM.out, HPA.out, HPB.out, HPC.out, HWA.out, HWB.out]); first | done | rfl | simp), (Below.refl _ _).alloc (Nat.le_refl _) _⟩
    · have HE := Lib.hid HR
      clear HR
      go_enter Tryz.func20, Tryz.ntmps20
      go_wp2_with fail
      refine (num_s _ (i + 1) 1 (by omega) (by omega) (by decide) N HN _).mono ?_
      rintro e w' ⟨rfl, rfl⟩
      go_wp2_with fail
      go_ret
      exact ⟨ret_str (by rw [HE.out]; (try simp only [app_list, mk_list, HN.out, HM.out, HPA.out, HPB.out, HPC.out, HWA.out, HWB.out]); first | done | rfl | simp), (Below.refl _ _).alloc (Nat.le_refl _) _⟩
    · have HE := Lib.hid HR
      clear HR
      go_enter Tryz.func20, Tryz.ntmps20
      go_wp2_with fail
      refine (num_s _ (i + 1) 1 (by omega) (by omega) (by decide) N HN _).mono ?_
      rintro e w' ⟨rfl, rfl⟩
      go_wp2_with fail
      go_ret
      exact ⟨ret_str (by rw [HE.out]; (try simp only [app_list, mk_list, HN.out, HM.out, HPA.out, HPB.out, HPC.out, HWA.out, HWB.out]); first | done | rfl | simp), (Below.refl _ _).alloc (Nat.le_refl _) _⟩
  · have HE := Lib.hid HR
    clear HR
    go_enter Tryz.func20, Tryz.ntmps20
    go_wp2_with fail
    refine (num_s _ (i + 1) 1 (by omega) (by omega) (by decide) N HN _).mono ?_
    rintro e w' ⟨rfl, rfl⟩
    go_wp2_with fail
    go_ret
    exact ⟨ret_str (by rw [HE.out]; (try simp only [app_list, mk_list, HN.out, HM.out, HPA.out, HPB.out, HPC.out, HWA.out, HWB.out]); first | done | rfl | simp), Below.refl _ _⟩
  · have hi3 : i = 0 ∨ i = 1 ∨ i = 2 ∨ i = 3 := by omega
    rcases hi3 with rfl | rfl | rfl | rfl
    · have HE := Lib.hid HR
      clear HR
      go_enter Tryz.func20, Tryz.ntmps20
      go_wp2_with fail
      refine (num_s _ (0 + 1) 1 (by omega) (by omega) (by decide) N HN _).mono ?_
      rintro e w' ⟨rfl, rfl⟩
      go_wp2_with fail
      go_ret
      exact ⟨ret_str (by rw [HE.out]; (try simp only [app_list, mk_list, HN.out, HM.out, HPA.out, HPB.out, HPC.out, HWA.out, HWB.out]); first | done | rfl | simp), (Below.refl _ _).alloc (Nat.le_refl _) _⟩
    · have HE := Lib.hid HR
      clear HR
      go_enter Tryz.func20, Tryz.ntmps20
      go_wp2_with fail
      refine (num_s _ (1 + 1) 1 (by omega) (by omega) (by decide) N HN _).mono ?_
      rintro e w' ⟨rfl, rfl⟩
      go_wp2_with fail
      go_ret
      exact ⟨ret_str (by rw [HE.out]; (try simp only [app_list, mk_list, HN.out, HM.out, HPA.out, HPB.out, HPC.out, HWA.out, HWB.out]); first | done | rfl | simp), (Below.refl _ _).alloc (Nat.le_refl _) _⟩
    · have HE := Lib.hid HR
      clear HR
      go_enter Tryz.func20, Tryz.ntmps20
      go_wp2_with fail
      refine (num_s _ (2 + 1) 1 (by omega) (by omega) (by decide) N HN _).mono ?_
      rintro e w' ⟨rfl, rfl⟩
      go_wp2_with fail
      go_ret
      exact ⟨ret_str (by rw [HE.out]; (try simp only [app_list, mk_list, HN.out, HM.out, HPA.out, HPB.out, HPC.out, HWA.out, HWB.out]); first | done | rfl | simp), (Below.refl _ _).alloc (Nat.le_refl _) _⟩
    · have HE := Lib.hid HR
      clear HR
      go_enter Tryz.func20, Tryz.ntmps20
      go_wp2_with fail
      refine (num_s _ (3 + 1) 1 (by omega) (by omega) (by decide) N HN _).mono ?_
      rintro e w' ⟨rfl, rfl⟩
      go_wp2_with fail
      go_ret
      exact ⟨ret_str (by rw [HE.out]; (try simp only [app_list, mk_list, HN.out, HM.out, HPA.out, HPB.out, HPC.out, HWA.out, HWB.out]); first | done | rfl | simp), (Below.refl _ _).alloc (Nat.le_refl _) _⟩
  · have hi3 : i = 0 ∨ i = 1 ∨ i = 2 ∨ i = 3 := by omega
    rcases hi3 with rfl | rfl | rfl | rfl
    · have HE := Lib.hid HR
      clear HR
      go_enter Tryz.func20, Tryz.ntmps20
      go_wp2_with fail
      refine (num_s _ (0 + 1) 1 (by omega) (by omega) (by decide) N HN _).mono ?_
      rintro e w' ⟨rfl, rfl⟩
      go_wp2_with fail
      go_ret
      exact ⟨ret_str (by rw [HE.out]; (try simp only [app_list, mk_list, HN.out, HM.out, HPA.out, HPB.out, HPC.out, HWA.out, HWB.out]); first | done | rfl | simp), (Below.refl _ _).alloc (Nat.le_refl _) _⟩
    · have HE := Lib.hid HR
      clear HR
      go_enter Tryz.func20, Tryz.ntmps20
      go_wp2_with fail
      refine (num_s _ (1 + 1) 1 (by omega) (by omega) (by decide) N HN _).mono ?_
      rintro e w' ⟨rfl, rfl⟩
      go_wp2_with fail
      go_ret
      exact ⟨ret_str (by rw [HE.out]; (try simp only [app_list, mk_list, HN.out, HM.out, HPA.out, HPB.out, HPC.out, HWA.out, HWB.out]); first | done | rfl | simp), (Below.refl _ _).alloc (Nat.le_refl _) _⟩
    · have HE := Lib.hid HR
      clear HR
      go_enter Tryz.func20, Tryz.ntmps20
      go_wp2_with fail
      refine (num_s _ (2 + 1) 1 (by omega) (by omega) (by decide) N HN _).mono ?_
      rintro e w' ⟨rfl, rfl⟩
      go_wp2_with fail
      go_ret
      exact ⟨ret_str (by rw [HE.out]; (try simp only [app_list, mk_list, HN.out, HM.out, HPA.out, HPB.out, HPC.out, HWA.out, HWB.out]); first | done | rfl | simp), (Below.refl _ _).alloc (Nat.le_refl _) _⟩
    · have HE := Lib.hid HR
      clear HR
      go_enter Tryz.func20, Tryz.ntmps20
      go_wp2_with fail
      refine (num_s _ (3 + 1) 1 (by omega) (by omega) (by decide) N HN _).mono ?_
      rintro e w' ⟨rfl, rfl⟩
      go_wp2_with fail
      go_ret
      exact ⟨ret_str (by rw [HE.out]; (try simp only [app_list, mk_list, HN.out, HM.out, HPA.out, HPB.out, HPC.out, HWA.out, HWB.out]); first | done | rfl | simp), (Below.refl _ _).alloc (Nat.le_refl _) _⟩
end Go.Proofs.YtecpmnkgikcpnaaGreatDoor.XW
