/-
  Several texts of this proof in one: Qb.
-/
import Derived.Test.YtfldplmgkeiimaaGreatDoorQ4
import Derived.Lib.MinMax
set_option linter.unusedVariables false
set_option linter.unusedSimpArgs false
namespace Go.Proofs.YtfldplmgkeiimaaGreatDoor.VW
open Go.RowKit Go.Proofs.YtfldplmgkeiimaaGreatDoor.Vp
def cntP (d:Nat→Int):Nat→Int
 | 0=>0
 | n+1=>cntP d n+if 0 < d n then 1 else 0
def cntN (d:Nat→Int):Nat→Int
 | 0=>0
 | n+1=>cntN d n+if d n < 0 then 1 else 0
def corP (x0 y0 x1 y1:Int):Nat→P2
 | 0=>(x0,y0)
 | 1=>(x1,y0)
 | 2=>(x0,y1)
 | _=>(x1,y1)
theorem meets_end (x0 y0 x1 y1:Int) (p q:P2) (hm:¬(max p.1 q.1 < x0∨x1 < min p.1 q.1∨max p.2 q.2 < y0∨y1 < min p.2 q.2)):
  meetsV ⟨x0,y0,x1,y1⟩ p q=(decide (cntP (fun k=>crossV p q (corP x0 y0 x1 y1 k)) 4 < 4) && decide (cntN (fun k=>crossV p q (corP x0 y0 x1 y1 k)) 4 < 4)):=by
 unfold meetsV
 rw [if_neg hm]
 simp only [cntP,cntN,corners,corP,List.all_cons,List.all_nil,Bool.and_true]
 congr 1 <;> rw [Bool.eq_iff_iff] <;> simp only [Bool.not_eq_true',decide_eq_true_eq,Bool.and_eq_false_iff,decide_eq_false_iff_not] <;>(repeat' split)<;> omega
theorem meets_no {b:Bx} {p q:P2} {f:Bool} (h:meetsV b p q=f) (hm:max p.1 q.1 < b.x0∨b.x1 < min p.1 q.1∨max p.2 q.2 < b.y0∨b.y1 < min p.2 q.2):false=f:=by
 rw [←h]
 unfold meetsV
 rw [if_pos hm]
theorem idx_cor (x0 y0 x1 y1:Int) (j:Nat) (hj:j < 4) (w:World):(Instr.index 394 (corV ⟨x0,y0,x1,y1⟩) (.int .i64 j)).run Tryz.prog w= .ok (ptV2 (corP x0 y0 x1 y1 j)) w:=by
 rcases (show j=0∨j=1∨j=2∨j=3 by omega) with rfl | rfl | rfl | rfl <;> simp [Instr.index,run_underlying Tryz.underlying394,asIntOf,go_sem,corP,part]
set_option maxRecDepth 100000 in
set_option maxHeartbeats 6400000 in
theorem meets_c (b:Bx) (p q:P2) (h0:near30 (b.x0,b.y0)) (h1:near30 (b.x1,b.y1)) (hp:near30 p) (hq:near30 q) (he:emptyB b=false) (f:Bool) (hf:Hid (meetsV b p q=f)) (w:World):
  Calls Tryz.prog 277 #[bxV b,ptV2 p,ptV2 q] w fun e w'=>e= .returned (.bool f)∧Below w.heap.size w w':=by
 have HC:Hid (∀k,near30 (corP b.x0 b.y0 b.x1 b.y1 k)):=by
  rintro (_ | _ | _ | k)
  ·exact h0
  ·exact ⟨h1.1,h0.2⟩
  ·exact ⟨h0.1,h1.2⟩
  ·exact h1
 have HE:=Lib.hid he
 have HP:=Lib.hid hp
 have HQ:=Lib.hid hq
 clear h0 h1 he hp hq
 obtain ⟨x0,y0,x1,y1⟩:=b
 obtain ⟨px,py⟩:=p
 obtain ⟨qx,qy⟩:=q
 go_enter Tryz.func277,Tryz.ntmps277
 go_upto_region 1 with fail
 obtain ⟨W,hW⟩:∃W,((w.alloc (bxO ⟨x0,y0,x1,y1⟩)).alloc (ptO (px,py))).alloc (ptO (qx,qy))=W:=⟨_,rfl⟩
 obtain ⟨t1,t2,t3,t4,t5⟩:=three_at hW
 have HA:=Lib.hid t1
 have HB:=Lib.hid t2
 have HD:=Lib.hid t3
 have HW:=Lib.hid t4
 rw [hW]
 clear hW t1 t2 t3 t4 t5
 obtain ⟨a0,a1,a2,a3⟩:=bx_at HA.out
 go_wp2_with fail
 with_reducible refine (empty_c ⟨x0,y0,x1,y1⟩ _ HE _).mono ?_
 rintro e V ⟨rfl,hv⟩
 have HA1:=Lib.hid (one_below HA.out hv)
 have HB1:=Lib.hid (one_below HB.out hv)
 have HD1:=Lib.hid (one_below HD.out hv)
 have HV:Hid (Below w.heap.size w V):=HW.out.trans (hv.mono HW.out.size)
 clear a0 a1 a2 a3 hv HA HB HD HW
 obtain ⟨a0,a1,a2,a3⟩:=bx_at HA1.out
 obtain ⟨p0,p1⟩:=pt_at HB1.out
 obtain ⟨q0,q1⟩:=pt_at HD1.out
 simp only at p0 p1 q0 q1
 by_cases c1:max px qx < x0
 case pos=>
  have HF:Hid (false=f):=meets_no hf.out (.inl c1)
  go_wp2_with fail
  go_ret
  exact ⟨ret_b HF.out,HV.out⟩
 by_cases c2:x1 < min px qx
 case pos=>
  have HF:Hid (false=f):=meets_no hf.out (.inr (.inl c2))
  go_wp2_with fail
  go_ret
  exact ⟨ret_b HF.out,HV.out⟩
 by_cases c3:max py qy < y0
 case pos=>
  have HF:Hid (false=f):=meets_no hf.out (.inr (.inr (.inl c3)))
  go_wp2_with fail
  go_ret
  exact ⟨ret_b HF.out,HV.out⟩
 by_cases c4:y1 < min py qy
 case pos=>
  have HF:Hid (false=f):=meets_no hf.out (.inr (.inr (.inr c4)))
  go_wp2_with fail
  go_ret
  exact ⟨ret_b HF.out,HV.out⟩
 have HM:=Lib.hid ((meets_end x0 y0 x1 y1 (px,py) (qx,qy) (by simp only;omega)).symm.trans hf.out)
 go_wp2_with fail
 with_reducible refine (corners_c ⟨x0,y0,x1,y1⟩ _).mono ?_
 rintro e V2 ⟨rfl,hv⟩
 have HV2:Hid (Below V.heap.size V V2):=hv
 clear hv a0 a1 a2 a3 p0 p1 q0 q1
 go_wp2_with fail
 go_loopw [7,8,56] (fun lf rt i wr=>∃(j:Nat) (L R:Int) (wy:World),wy=wr∧j≤4∧0≤L∧L≤(j:Int)∧0≤R∧R≤(j:Int)∧Hid (cntP (fun k=>crossV (px,py) (qx,qy) (corP x0 y0 x1 y1 k)) j=L)∧Hid (cntN (fun k=>crossV (px,py) (qx,qy) (corP x0 y0 x1 y1 k)) j=R)∧lf= .int .i64 L∧rt= .int .i64 R∧i= .int .i64 j∧Hid (Below V.heap.size V wy)) (fun _ _ i _=>4 -(intOf i).toNat)
 case atStart=>exact ⟨0,0,0,_,rfl,by decide,by decide,by decide,by decide,by decide,rfl,rfl,rfl,rfl,rfl,HV2.out⟩
 case round=>
 obtain ⟨j,L,R,wy,rfl,hj,hL0,hL1,hR0,hR1,HLe,HRe,rfl,rfl,rfl,HY⟩:=hrel
 obtain ⟨ji,hji⟩:∃ji:Int,(j:Int)=ji:=⟨_,rfl⟩
 rw [hji]
 rcases (show j=0∨j=1∨j=2∨j=3∨j=4 by omega) with rfl | rfl | rfl | rfl | rfl
 ·
  obtain rfl:ji=0:=by omega
  have hix:∀w,(Instr.index 394 (corV ⟨x0,y0,x1,y1⟩) (.int .i64 0)).run Tryz.prog w= .ok (ptV2 (corP x0 y0 x1 y1 0)) w:=fun w=>idx_cor x0 y0 x1 y1 0 (by decide) w
  obtain ⟨v,hv⟩:∃v,crossV (px,py) (qx,qy) (corP x0 y0 x1 y1 0)=v:=⟨_,rfl⟩
  have HX:=Lib.hid hv
  have HL:Hid (cntP (fun k=>crossV (px,py) (qx,qy) (corP x0 y0 x1 y1 k)) (0+1)=L+(if 0 < v then 1 else 0)):=by show _=_;rw [←HLe.out,←hv];rfl
  have HR:Hid (cntN (fun k=>crossV (px,py) (qx,qy) (corP x0 y0 x1 y1 k)) (0+1)=R+(if v < 0 then 1 else 0)):=by show _=_;rw [←HRe.out,←hv];rfl
  clear hv
  obtain ⟨p0,p1⟩:=pt_at (one_below HB1.out HY.out)
  obtain ⟨q0,q1⟩:=pt_at (one_below HD1.out HY.out)
  simp only at p0 p1 q0 q1
  have n1:=lt_of_heap (one_below HB1.out HY.out)
  have n2:=lt_of_heap (one_below HD1.out HY.out)
  have hw1:IntKind.i64.wrap (L+1)=L+1:=IntWalk.i64_in _ (by omega)
  have hw2:IntKind.i64.wrap (R+1)=R+1:=IntWalk.i64_in _ (by omega)
  go_wp2_with fail
  with_reducible refine (cross_c (px,py) (qx,qy) (corP x0 y0 x1 y1 0) HP.out HQ.out (HC.out 0) v HX _).mono ?_
  rintro e w3 ⟨rfl,hb3⟩
  have HZ:Hid (Below V.heap.size V w3):=(HY.out.alloc HY.out.size _).trans (hb3.mono (by have:=HY.out.size;simp;omega))
  clear hb3
  by_cases cv:v > 0
  ·have HL2:Hid (cntP (fun k=>crossV (px,py) (qx,qy) (corP x0 y0 x1 y1 k)) (0+1)=L+1):=by show _=_;rw [HL.out,if_pos cv]
   have HR2:Hid (cntN (fun k=>crossV (px,py) (qx,qy) (corP x0 y0 x1 y1 k)) (0+1)=R):=by show _=_;rw [HR.out,if_neg (by omega),Int.add_zero]
   have cn:¬v < 0:=by omega
   go_wp2_with fail
   go_round <;> first | exact ⟨0+1,L+1,R,_,rfl,by omega,by omega,by omega,by omega,by omega,HL2,HR2,rfl,rfl,by go_num,HZ.out⟩|(simp [intOf] <;> omega)
  ·by_cases cn:v < 0
   ·have HL2:Hid (cntP (fun k=>crossV (px,py) (qx,qy) (corP x0 y0 x1 y1 k)) (0+1)=L):=by show _=_;rw [HL.out,if_neg (by omega),Int.add_zero]
    have HR2:Hid (cntN (fun k=>crossV (px,py) (qx,qy) (corP x0 y0 x1 y1 k)) (0+1)=R+1):=by show _=_;rw [HR.out,if_pos cn]
    go_wp2_with fail
    go_round <;> first | exact ⟨0+1,L,R+1,_,rfl,by omega,by omega,by omega,by omega,by omega,HL2,HR2,rfl,rfl,by go_num,HZ.out⟩|(simp [intOf] <;> omega)
   ·have HL2:Hid (cntP (fun k=>crossV (px,py) (qx,qy) (corP x0 y0 x1 y1 k)) (0+1)=L):=by show _=_;rw [HL.out,if_neg (by omega),Int.add_zero]
    have HR2:Hid (cntN (fun k=>crossV (px,py) (qx,qy) (corP x0 y0 x1 y1 k)) (0+1)=R):=by show _=_;rw [HR.out,if_neg (by omega),Int.add_zero]
    go_wp2_with fail
    go_round <;> first | exact ⟨0+1,L,R,_,rfl,by omega,by omega,by omega,by omega,by omega,HL2,HR2,rfl,rfl,by go_num,HZ.out⟩|(simp [intOf] <;> omega)
 ·
  obtain rfl:ji=1:=by omega
  have hix:∀w,(Instr.index 394 (corV ⟨x0,y0,x1,y1⟩) (.int .i64 1)).run Tryz.prog w= .ok (ptV2 (corP x0 y0 x1 y1 1)) w:=fun w=>idx_cor x0 y0 x1 y1 1 (by decide) w
  obtain ⟨v,hv⟩:∃v,crossV (px,py) (qx,qy) (corP x0 y0 x1 y1 1)=v:=⟨_,rfl⟩
  have HX:=Lib.hid hv
  have HL:Hid (cntP (fun k=>crossV (px,py) (qx,qy) (corP x0 y0 x1 y1 k)) (1+1)=L+(if 0 < v then 1 else 0)):=by show _=_;rw [←HLe.out,←hv];rfl
  have HR:Hid (cntN (fun k=>crossV (px,py) (qx,qy) (corP x0 y0 x1 y1 k)) (1+1)=R+(if v < 0 then 1 else 0)):=by show _=_;rw [←HRe.out,←hv];rfl
  clear hv
  obtain ⟨p0,p1⟩:=pt_at (one_below HB1.out HY.out)
  obtain ⟨q0,q1⟩:=pt_at (one_below HD1.out HY.out)
  simp only at p0 p1 q0 q1
  have n1:=lt_of_heap (one_below HB1.out HY.out)
  have n2:=lt_of_heap (one_below HD1.out HY.out)
  have hw1:IntKind.i64.wrap (L+1)=L+1:=IntWalk.i64_in _ (by omega)
  have hw2:IntKind.i64.wrap (R+1)=R+1:=IntWalk.i64_in _ (by omega)
  go_wp2_with fail
  with_reducible refine (cross_c (px,py) (qx,qy) (corP x0 y0 x1 y1 1) HP.out HQ.out (HC.out 1) v HX _).mono ?_
  rintro e w3 ⟨rfl,hb3⟩
  have HZ:Hid (Below V.heap.size V w3):=(HY.out.alloc HY.out.size _).trans (hb3.mono (by have:=HY.out.size;simp;omega))
  clear hb3
  by_cases cv:v > 0
  ·have HL2:Hid (cntP (fun k=>crossV (px,py) (qx,qy) (corP x0 y0 x1 y1 k)) (1+1)=L+1):=by show _=_;rw [HL.out,if_pos cv]
   have HR2:Hid (cntN (fun k=>crossV (px,py) (qx,qy) (corP x0 y0 x1 y1 k)) (1+1)=R):=by show _=_;rw [HR.out,if_neg (by omega),Int.add_zero]
   have cn:¬v < 0:=by omega
   go_wp2_with fail
   go_round <;> first | exact ⟨1+1,L+1,R,_,rfl,by omega,by omega,by omega,by omega,by omega,HL2,HR2,rfl,rfl,by go_num,HZ.out⟩|(simp [intOf] <;> omega)
  ·by_cases cn:v < 0
   ·have HL2:Hid (cntP (fun k=>crossV (px,py) (qx,qy) (corP x0 y0 x1 y1 k)) (1+1)=L):=by show _=_;rw [HL.out,if_neg (by omega),Int.add_zero]
    have HR2:Hid (cntN (fun k=>crossV (px,py) (qx,qy) (corP x0 y0 x1 y1 k)) (1+1)=R+1):=by show _=_;rw [HR.out,if_pos cn]
    go_wp2_with fail
    go_round <;> first | exact ⟨1+1,L,R+1,_,rfl,by omega,by omega,by omega,by omega,by omega,HL2,HR2,rfl,rfl,by go_num,HZ.out⟩|(simp [intOf] <;> omega)
   ·have HL2:Hid (cntP (fun k=>crossV (px,py) (qx,qy) (corP x0 y0 x1 y1 k)) (1+1)=L):=by show _=_;rw [HL.out,if_neg (by omega),Int.add_zero]
    have HR2:Hid (cntN (fun k=>crossV (px,py) (qx,qy) (corP x0 y0 x1 y1 k)) (1+1)=R):=by show _=_;rw [HR.out,if_neg (by omega),Int.add_zero]
    go_wp2_with fail
    go_round <;> first | exact ⟨1+1,L,R,_,rfl,by omega,by omega,by omega,by omega,by omega,HL2,HR2,rfl,rfl,by go_num,HZ.out⟩|(simp [intOf] <;> omega)
 ·
  obtain rfl:ji=2:=by omega
  have hix:∀w,(Instr.index 394 (corV ⟨x0,y0,x1,y1⟩) (.int .i64 2)).run Tryz.prog w= .ok (ptV2 (corP x0 y0 x1 y1 2)) w:=fun w=>idx_cor x0 y0 x1 y1 2 (by decide) w
  obtain ⟨v,hv⟩:∃v,crossV (px,py) (qx,qy) (corP x0 y0 x1 y1 2)=v:=⟨_,rfl⟩
  have HX:=Lib.hid hv
  have HL:Hid (cntP (fun k=>crossV (px,py) (qx,qy) (corP x0 y0 x1 y1 k)) (2+1)=L+(if 0 < v then 1 else 0)):=by show _=_;rw [←HLe.out,←hv];rfl
  have HR:Hid (cntN (fun k=>crossV (px,py) (qx,qy) (corP x0 y0 x1 y1 k)) (2+1)=R+(if v < 0 then 1 else 0)):=by show _=_;rw [←HRe.out,←hv];rfl
  clear hv
  obtain ⟨p0,p1⟩:=pt_at (one_below HB1.out HY.out)
  obtain ⟨q0,q1⟩:=pt_at (one_below HD1.out HY.out)
  simp only at p0 p1 q0 q1
  have n1:=lt_of_heap (one_below HB1.out HY.out)
  have n2:=lt_of_heap (one_below HD1.out HY.out)
  have hw1:IntKind.i64.wrap (L+1)=L+1:=IntWalk.i64_in _ (by omega)
  have hw2:IntKind.i64.wrap (R+1)=R+1:=IntWalk.i64_in _ (by omega)
  go_wp2_with fail
  with_reducible refine (cross_c (px,py) (qx,qy) (corP x0 y0 x1 y1 2) HP.out HQ.out (HC.out 2) v HX _).mono ?_
  rintro e w3 ⟨rfl,hb3⟩
  have HZ:Hid (Below V.heap.size V w3):=(HY.out.alloc HY.out.size _).trans (hb3.mono (by have:=HY.out.size;simp;omega))
  clear hb3
  by_cases cv:v > 0
  ·have HL2:Hid (cntP (fun k=>crossV (px,py) (qx,qy) (corP x0 y0 x1 y1 k)) (2+1)=L+1):=by show _=_;rw [HL.out,if_pos cv]
   have HR2:Hid (cntN (fun k=>crossV (px,py) (qx,qy) (corP x0 y0 x1 y1 k)) (2+1)=R):=by show _=_;rw [HR.out,if_neg (by omega),Int.add_zero]
   have cn:¬v < 0:=by omega
   go_wp2_with fail
   go_round <;> first | exact ⟨2+1,L+1,R,_,rfl,by omega,by omega,by omega,by omega,by omega,HL2,HR2,rfl,rfl,by go_num,HZ.out⟩|(simp [intOf] <;> omega)
  ·by_cases cn:v < 0
   ·have HL2:Hid (cntP (fun k=>crossV (px,py) (qx,qy) (corP x0 y0 x1 y1 k)) (2+1)=L):=by show _=_;rw [HL.out,if_neg (by omega),Int.add_zero]
    have HR2:Hid (cntN (fun k=>crossV (px,py) (qx,qy) (corP x0 y0 x1 y1 k)) (2+1)=R+1):=by show _=_;rw [HR.out,if_pos cn]
    go_wp2_with fail
    go_round <;> first | exact ⟨2+1,L,R+1,_,rfl,by omega,by omega,by omega,by omega,by omega,HL2,HR2,rfl,rfl,by go_num,HZ.out⟩|(simp [intOf] <;> omega)
   ·have HL2:Hid (cntP (fun k=>crossV (px,py) (qx,qy) (corP x0 y0 x1 y1 k)) (2+1)=L):=by show _=_;rw [HL.out,if_neg (by omega),Int.add_zero]
    have HR2:Hid (cntN (fun k=>crossV (px,py) (qx,qy) (corP x0 y0 x1 y1 k)) (2+1)=R):=by show _=_;rw [HR.out,if_neg (by omega),Int.add_zero]
    go_wp2_with fail
    go_round <;> first | exact ⟨2+1,L,R,_,rfl,by omega,by omega,by omega,by omega,by omega,HL2,HR2,rfl,rfl,by go_num,HZ.out⟩|(simp [intOf] <;> omega)
 ·
  obtain rfl:ji=3:=by omega
  have hix:∀w,(Instr.index 394 (corV ⟨x0,y0,x1,y1⟩) (.int .i64 3)).run Tryz.prog w= .ok (ptV2 (corP x0 y0 x1 y1 3)) w:=fun w=>idx_cor x0 y0 x1 y1 3 (by decide) w
  obtain ⟨v,hv⟩:∃v,crossV (px,py) (qx,qy) (corP x0 y0 x1 y1 3)=v:=⟨_,rfl⟩
  have HX:=Lib.hid hv
  have HL:Hid (cntP (fun k=>crossV (px,py) (qx,qy) (corP x0 y0 x1 y1 k)) (3+1)=L+(if 0 < v then 1 else 0)):=by show _=_;rw [←HLe.out,←hv];rfl
  have HR:Hid (cntN (fun k=>crossV (px,py) (qx,qy) (corP x0 y0 x1 y1 k)) (3+1)=R+(if v < 0 then 1 else 0)):=by show _=_;rw [←HRe.out,←hv];rfl
  clear hv
  obtain ⟨p0,p1⟩:=pt_at (one_below HB1.out HY.out)
  obtain ⟨q0,q1⟩:=pt_at (one_below HD1.out HY.out)
  simp only at p0 p1 q0 q1
  have n1:=lt_of_heap (one_below HB1.out HY.out)
  have n2:=lt_of_heap (one_below HD1.out HY.out)
  have hw1:IntKind.i64.wrap (L+1)=L+1:=IntWalk.i64_in _ (by omega)
  have hw2:IntKind.i64.wrap (R+1)=R+1:=IntWalk.i64_in _ (by omega)
  go_wp2_with fail
  with_reducible refine (cross_c (px,py) (qx,qy) (corP x0 y0 x1 y1 3) HP.out HQ.out (HC.out 3) v HX _).mono ?_
  rintro e w3 ⟨rfl,hb3⟩
  have HZ:Hid (Below V.heap.size V w3):=(HY.out.alloc HY.out.size _).trans (hb3.mono (by have:=HY.out.size;simp;omega))
  clear hb3
  by_cases cv:v > 0
  ·have HL2:Hid (cntP (fun k=>crossV (px,py) (qx,qy) (corP x0 y0 x1 y1 k)) (3+1)=L+1):=by show _=_;rw [HL.out,if_pos cv]
   have HR2:Hid (cntN (fun k=>crossV (px,py) (qx,qy) (corP x0 y0 x1 y1 k)) (3+1)=R):=by show _=_;rw [HR.out,if_neg (by omega),Int.add_zero]
   have cn:¬v < 0:=by omega
   go_wp2_with fail
   go_round <;> first | exact ⟨3+1,L+1,R,_,rfl,by omega,by omega,by omega,by omega,by omega,HL2,HR2,rfl,rfl,by go_num,HZ.out⟩|(simp [intOf] <;> omega)
  ·by_cases cn:v < 0
   ·have HL2:Hid (cntP (fun k=>crossV (px,py) (qx,qy) (corP x0 y0 x1 y1 k)) (3+1)=L):=by show _=_;rw [HL.out,if_neg (by omega),Int.add_zero]
    have HR2:Hid (cntN (fun k=>crossV (px,py) (qx,qy) (corP x0 y0 x1 y1 k)) (3+1)=R+1):=by show _=_;rw [HR.out,if_pos cn]
    go_wp2_with fail
    go_round <;> first | exact ⟨3+1,L,R+1,_,rfl,by omega,by omega,by omega,by omega,by omega,HL2,HR2,rfl,rfl,by go_num,HZ.out⟩|(simp [intOf] <;> omega)
   ·have HL2:Hid (cntP (fun k=>crossV (px,py) (qx,qy) (corP x0 y0 x1 y1 k)) (3+1)=L):=by show _=_;rw [HL.out,if_neg (by omega),Int.add_zero]
    have HR2:Hid (cntN (fun k=>crossV (px,py) (qx,qy) (corP x0 y0 x1 y1 k)) (3+1)=R):=by show _=_;rw [HR.out,if_neg (by omega),Int.add_zero]
    go_wp2_with fail
    go_round <;> first | exact ⟨3+1,L,R,_,rfl,by omega,by omega,by omega,by omega,by omega,HL2,HR2,rfl,rfl,by go_num,HZ.out⟩|(simp [intOf] <;> omega)
 ·
  obtain rfl:ji=4:=by omega
  have HF:Hid ((decide (L < 4) && decide (R < 4))=f):=by show _=_;rw [←HLe.out,←HRe.out];exact HM.out
  go_wp2_with fail
  all_goals
   go_ret
   refine ⟨ret_b (bool_eq ⟨fun h=>?_,fun h=>?_⟩ HF.out),HV.out.trans (HY.out.mono HV.out.size)⟩<;> simp only [Bool.and_eq_true,decide_eq_true_eq,Bool.false_eq_true] at h⊢<;> omega
end Go.Proofs.YtfldplmgkeiimaaGreatDoor.VW
