/-
  Several texts of this proof in one: Qe.
-/
import Derived.Test.YtfldplmgkeiimaaGreatDoorQ4
import Derived.Lib.MinMax
set_option linter.unusedVariables false
set_option linter.unusedSimpArgs false
namespace Go.Proofs.YtfldplmgkeiimaaGreatDoor.VW
open Go.RowKit Go.Proofs.YtfldplmgkeiimaaGreatDoor.Vp
abbrev vwCs (v:Vw):Array Value:= #[.int .i64 v.x, .int .i64 v.y, .int .i64 v.pitch, .int .i64 v.w, .int .i64 v.h, .int .i64 v.depth]
abbrev vwV (v:Vw):Value:= .agg (vwCs v)
abbrev vwO (v:Vw):Obj:= .cells (vwCs v) 27
theorem vw_at {w:World} {k:Nat} {x y p a b d:Int} (h:w.heap[k]?=some (vwO ⟨x,y,p,a,b,d⟩)):w.cell? ⟨k,0,none⟩=some (.int .i64 x)∧w.cell? ⟨k,1,none⟩=some (.int .i64 y)∧w.cell? ⟨k,2,none⟩=some (.int .i64 p)∧w.cell? ⟨k,3,none⟩=some (.int .i64 a)∧w.cell? ⟨k,4,none⟩=some (.int .i64 b)∧w.cell? ⟨k,5,none⟩=some (.int .i64 d):=by
 refine ⟨?_,?_,?_,?_,?_,?_⟩<;> simp [World.cell?,h]
theorem pow_in {d:Int} (h0:0≤d) (h1:d≤6):1≤(2:Int)^ d.toNat∧(2:Int)^ d.toNat≤64:=by
 rcases (show d=0∨d=1∨d=2∨d=3∨d=4∨d=5∨d=6 by omega) with rfl | rfl | rfl | rfl | rfl | rfl | rfl <;> decide
theorem prod_in {a p:Int} (h0:1≤a) (h1:a≤256) (h2:1≤p) (h3:p≤536870912):1≤a *p∧a *p≤137438953472:=by
 have e1:0≤(a - 1) *p:=Int.mul_nonneg (by omega) (by omega)
 have e2:0≤(256 - a) *p:=Int.mul_nonneg (by omega) (by omega)
 have e3:(a - 1) *p=a *p - p:=by grind
 have e4:(256 - a) *p=256 *p - a *p:=by grind
 omega
set_option maxHeartbeats 6400000 in
theorem viewOk_c (v:Vw) (f:Bool) (hf:Hid (viewOk v=f)) (w:World):Calls Tryz.prog 58 #[vwV v] w fun e w'=>e= .returned (.bool f)∧Below w.heap.size w w':=by
 have h:=hf.out
 clear hf
 obtain ⟨x,y,p,a,b,d⟩:=v
 unfold viewOk at h
 simp only at h
 by_cases c1:d < 0∨6 < d
 case pos=>
  have HF:Hid (false=f):=by show _=_;rw [←h,if_pos c1]
  clear h
  go_enter Tryz.func58,Tryz.ntmps58
  go_wp2_with fail
  all_goals
   go_ret
   exact ⟨ret_b HF.out,bel1 _ _⟩
 rw [if_neg c1] at h
 have d0:0≤d:=by omega
 have d6:d≤6:=by omega
 have d64:d≤64:=by omega
 have n1:¬d < 0:=by omega
 have n2:¬d > 6:=by omega
 obtain ⟨q0,q1⟩:=pow_in d0 d6
 obtain ⟨P,hP⟩:∃P:Int,2 ^ d.toNat=P:=⟨_,rfl⟩
 have hP1:IntKind.i64.wrap (2 ^ d.toNat)=P:=by rw [hP];rw [hP] at q0 q1;exact IntWalk.i64_in _ (by omega)
 rw [hP] at h q0 q1
 have hPn:¬P=0:=by omega
 clear hP c1 d6
 by_cases c2:p < 1∨536870912 < p
 case pos=>
  have HF:Hid (false=f):=by show _=_;rw [←h,if_pos (by omega)]
  clear h
  rcases c2 with c2 | c2
  ·go_enter Tryz.func58,Tryz.ntmps58
   go_upto_region 3 with fail
   go_quiet (fail)
   go_wp2_with fail
   go_ret
   exact ⟨ret_b HF.out,bel_drewN (bel1 _ _) _⟩
  ·have n3:¬p < 1:=by omega
   go_enter Tryz.func58,Tryz.ntmps58
   go_upto_region 3 with fail
   go_quiet (fail)
   go_wp2_with fail
   go_ret
   exact ⟨ret_b HF.out,bel_drewN (bel1 _ _) _⟩
 have n3:¬p < 1:=by omega
 have n4:¬p > 536870912:=by omega
 obtain ⟨r,hr⟩:∃r,p % P=r:=⟨_,rfl⟩
 have hr2:p.tmod P=r:=by rw [Int.tmod_eq_emod_of_nonneg (by omega)];exact hr
 rw [hr] at h
 clear hr
 by_cases c3:r=0
 case neg=>
  have HF:Hid (false=f):=by show _=_;rw [←h,if_pos (by omega)]
  clear h
  go_enter Tryz.func58,Tryz.ntmps58
  go_upto_region 3 with fail
  go_quiet (fail)
  all_goals
   go_wp2_with fail
   go_ret
   exact ⟨ret_b HF.out,bel_drewN (bel1 _ _) _⟩
 subst c3
 rw [if_neg (by omega)] at h
 by_cases c4:a < 1∨256 < a∨b < 1∨256 < b
 case pos=>
  have HF:Hid (false=f):=by show _=_;rw [←h,if_pos c4]
  clear h
  go_enter Tryz.func58,Tryz.ntmps58
  go_upto_region 3 with fail
  go_quiet (fail)
  all_goals
   go_wp2_with fail
   all_goals
    go_ret
    exact ⟨ret_b HF.out,bel_drewN (bel1 _ _) _⟩
 rw [if_neg c4] at h
 by_cases c5:x < -536870912∨536870912 < x∨y < -536870912∨536870912 < y
 case pos=>
  have HF:Hid (false=f):=by show _=_;rw [←h,if_pos c5]
  clear h
  go_enter Tryz.func58,Tryz.ntmps58
  go_upto_region 3 with fail
  go_quiet (fail)
  all_goals
   go_wp2_with fail
   all_goals
    go_ret
    exact ⟨ret_b HF.out,bel_drewN (bel1 _ _) _⟩
 rw [if_neg c5] at h
 have HF:=Lib.hid h
 obtain ⟨m1,m2⟩:=prod_in (a:=a) (p:=p) (by omega) (by omega) (by omega) (by omega)
 obtain ⟨m3,m4⟩:=prod_in (a:=b) (p:=p) (by omega) (by omega) (by omega) (by omega)
 have w1:IntKind.i64.wrap (a *p)=a *p:=IntWalk.i64_in _ (by omega)
 have w2:IntKind.i64.wrap (b *p)=b *p:=IntWalk.i64_in _ (by omega)
 have w3:IntKind.i64.wrap (x+a *p)=x+a *p:=IntWalk.i64_in _ (by omega)
 have w4:IntKind.i64.wrap (y+b *p)=y+b *p:=IntWalk.i64_in _ (by omega)
 clear m1 m2 m3 m4 h
 go_enter Tryz.func58,Tryz.ntmps58
 go_upto_region 3 with fail
 go_quiet (fail)
 go_wp2_with fail
 with_reducible refine (bok_c ⟨x,y,x+a *p,y+b *p⟩ f HF _).mono ?_
 rintro e V ⟨rfl,hb⟩
 go_wp2_with fail
 go_ret
 exact ⟨rfl,(bel_drewN (bel1 _ _) _).trans (hb.mono (bel_drewN (bel1 _ _) _).size)⟩
theorem viewOk_props {v:Vw} (h:viewOk v=true):(0≤v.depth∧v.depth≤6)∧(1≤v.pitch∧v.pitch≤536870912)∧(1≤v.w∧v.w≤256)∧(1≤v.h∧v.h≤256)∧(-536870912≤v.x∧v.x≤536870912)∧(-536870912≤v.y∧v.y≤536870912)∧okB ⟨v.x,v.y,v.x+v.w *v.pitch,v.y+v.h *v.pitch⟩=true:=by
 unfold viewOk at h
 split at h
 ·cases h
 ·split at h
  ·cases h
  ·split at h
   ·cases h
   ·split at h
    ·cases h
    ·exact ⟨by omega,by omega,by omega,by omega,by omega,by omega,h⟩
theorem four_pow {d:Int} (h0:0≤d):(2:Int)^(2 *d).toNat=4 ^ d.toNat:=by
 rw [show (2 *d).toNat=2 *d.toNat by omega,Int.pow_mul]
 rfl
set_option maxHeartbeats 3200000 in
theorem cells_c (v:Vw) (hv:viewOk v=true) (w:World):Calls Tryz.prog 42 #[vwV v] w fun e w'=>e= .returned (.int .i64 (cellsV v))∧Below w.heap.size w w':=by
 obtain ⟨⟨d0,d6⟩,_⟩:=viewOk_props hv
 have HV:=Lib.hid hv
 obtain ⟨x,y,p,a,b,d⟩:=v
 simp only at d0 d6
 obtain ⟨k,hk⟩:∃k:Int,4 ^ d.toNat=k:=⟨_,rfl⟩
 have hk4:cellsV ⟨x,y,p,a,b,d⟩=k:=hk
 have hb:1≤k∧k≤4096:=by
  rw [←hk]
  rcases (show d=0∨d=1∨d=2∨d=3∨d=4∨d=5∨d=6 by omega) with rfl | rfl | rfl | rfl | rfl | rfl | rfl <;> decide
 have w0:IntKind.i64.wrap (2 *d)=2 *d:=IntWalk.i64_in _ (by omega)
 have w1:IntKind.i64.wrap (2 ^(2 *d).toNat)=k:=by rw [four_pow d0,hk];exact IntWalk.i64_in _ (by omega)
 have m0:0≤2 *d:=by omega
 have m1:2 *d≤64:=by omega
 have HK:=Lib.hid hk4
 clear hk hk4 hv hb
 go_enter Tryz.func42,Tryz.ntmps42
 go_wp2_with fail
 have HB:Hid (Below w.heap.size w (w.alloc (vwO ⟨x,y,p,a,b,d⟩))):=bel1 _ _
 have HA:Hid ((w.alloc (vwO ⟨x,y,p,a,b,d⟩)).heap[w.heap.size]?=some (vwO ⟨x,y,p,a,b,d⟩)):=alloc_new _ _
 generalize w.alloc (vwO ⟨x,y,p,a,b,d⟩)=W at HB HA⊢
 with_reducible refine (viewOk_c ⟨x,y,p,a,b,d⟩ true HV _).mono ?_
 rintro e V ⟨rfl,hb⟩
 obtain ⟨a0,a1,a2,a3,a4,a5⟩:=vw_at (one_below HA.out hb)
 have HX:Hid (Below w.heap.size w V):=HB.out.trans (hb.mono HB.out.size)
 clear hb
 go_wp2_with fail
 go_ret
 exact ⟨ret_i HK.out.symm,HX.out⟩
set_option maxHeartbeats 6400000 in
theorem pixel_c (v:Vw) (hv:viewOk v=true) (i j:Nat) (hi:(i:Int)< v.w) (hj:(j:Int)< v.h) (w:World):Calls Tryz.prog 85 #[vwV v, .int .i64 i, .int .i64 j] w fun e w'=>e= .returned (.tuple #[bxV (pixelV v i j), .bool true])∧Below w.heap.size w w':=by
 obtain ⟨⟨d0,d6⟩,⟨p0,p1⟩,⟨a0,a1⟩,⟨b0,b1⟩,⟨x0,x1⟩,⟨y0,y1⟩,hok⟩:=viewOk_props hv
 have HV:=Lib.hid hv
 obtain ⟨x,y,p,a,b,d⟩:=v
 simp only at d0 d6 p0 p1 a0 a1 b0 b1 x0 x1 y0 y1 hi hj
 have m1:0≤(i:Int) *p∧(i:Int) *p≤137438953472:=by
  have e1:0≤(i:Int) *p:=Int.mul_nonneg (by omega) (by omega)
  have e2:0≤(256 -(i:Int)) *p:=Int.mul_nonneg (by omega) (by omega)
  have e4:(256 -(i:Int)) *p=256 *p - i *p:=by grind
  omega
 have m2:0≤(b - 1 -(j:Int)) *p∧(b - 1 -(j:Int)) *p≤137438953472:=by
  have e1:0≤(b - 1 -(j:Int)) *p:=Int.mul_nonneg (by omega) (by omega)
  have e2:0≤(256 -(b - 1 -(j:Int))) *p:=Int.mul_nonneg (by omega) (by omega)
  have e4:(256 -(b - 1 -(j:Int))) *p=256 *p -(b - 1 -(j:Int)) *p:=by grind
  omega
 have w1:IntKind.i64.wrap ((i:Int) *p)=i *p:=IntWalk.i64_in _ (by omega)
 have w2:IntKind.i64.wrap (x+(i:Int) *p)=x+i *p:=IntWalk.i64_in _ (by omega)
 have w3:IntKind.i64.wrap (b - 1)=b - 1:=IntWalk.i64_in _ (by omega)
 have w4:IntKind.i64.wrap (b - 1 -(j:Int))=b - 1 - j:=IntWalk.i64_in _ (by omega)
 have w5:IntKind.i64.wrap ((b - 1 -(j:Int)) *p)=(b - 1 - j) *p:=IntWalk.i64_in _ (by omega)
 have w6:IntKind.i64.wrap (y+(b - 1 -(j:Int)) *p)=y+(b - 1 - j) *p:=IntWalk.i64_in _ (by omega)
 have w7:IntKind.i64.wrap (x+(i:Int) *p+p)=x+i *p+p:=IntWalk.i64_in _ (by omega)
 have w8:IntKind.i64.wrap (y+(b - 1 -(j:Int)) *p+p)=y+(b - 1 - j) *p+p:=IntWalk.i64_in _ (by omega)
 clear m1 m2 hv hok
 go_enter Tryz.func85,Tryz.ntmps85
 go_upto_region 1 with fail
 obtain ⟨W,hW⟩:∃W,(w.alloc (vwO ⟨x,y,p,a,b,d⟩)).alloc (bxO bx0)=W:=⟨_,rfl⟩
 have HB:Hid (Below w.heap.size w W):=by show Below _ _ _;rw [←hW];exact bel2 _ _ _
 have HA:Hid (W.heap[w.heap.size]?=some (vwO ⟨x,y,p,a,b,d⟩)):=by show _=_;rw [←hW];exact one_below (alloc_new _ _) (bel_alloc _ _)
 have HC:Hid (W.heap[w.heap.size+1]?=some (bxO bx0)):=by show _=_;rw [←hW];exact second_new _ _ _
 change Code.wp _ _ _ _ ((w.alloc (vwO ⟨x,y,p,a,b,d⟩)).alloc (bxO bx0))
 rw [hW]
 clear hW
 obtain ⟨a0',a1',a2',a3',a4',a5'⟩:=vw_at HA.out
 go_wp2_with fail
 with_reducible refine (viewOk_c ⟨x,y,p,a,b,d⟩ true HV _).mono ?_
 rintro e V ⟨rfl,hb⟩
 clear a0' a1' a2' a3' a4' a5'
 obtain ⟨a0',a1',a2',a3',a4',a5'⟩:=vw_at (one_below HA.out hb)
 have HX:Hid (Below w.heap.size w V):=HB.out.trans (hb.mono HB.out.size)
 have HC2:=Lib.hid (one_below HC.out hb)
 clear hb
 have hf:=cells_f0 HC2.out
 obtain ⟨c0,c1,c2,c3⟩:=bx_at (show V.heap[w.heap.size+1]?=some (bxO ⟨0,0,0,0⟩) from HC2.out)
 have n1:¬(i:Int)< 0:=by omega
 have n2:¬(j:Int)< 0:=by omega
 have n3:¬(i:Int)≥a:=by omega
 have n4:¬(j:Int)≥b:=by omega
 go_wp2_with fail
 have hr:=putW_all [.int .i64 (x+i *p), .int .i64 (y+(b - 1 - j) *p), .int .i64 (x+i *p+p), .int .i64 (y+(b - 1 - j) *p+p)] HC2.out rfl
 have hb:=putW_below (m:=0) (b:=w.heap.size+1) (Nat.le_succ _) [.int .i64 (x+i *p), .int .i64 (y+(b - 1 - j) *p), .int .i64 (x+i *p+p), .int .i64 (y+(b - 1 - j) *p+p)] HX.out
 exact bodyPost_ret (results_cell_tmp_row rfl _ _ (w.heap.size+1) _ _ _ _ rfl hr Tryz.underlying198 rfl (by kernel_rfl)) rfl ⟨rfl,hb⟩
end Go.Proofs.YtfldplmgkeiimaaGreatDoor.VW
