/-
  Several texts of this proof in one: Zu.
-/
import Derived.Test.YtfldplmgkeiimaaGreatDoorQ41
set_option linter.unusedVariables false
set_option linter.unusedSimpArgs false
namespace Go.Proofs.YtfldplmgkeiimaaGreatDoor.VW
open Go.RowKit Go.Proofs.YtfldplmgkeiimaaGreatDoor.Vp
open Go.Proofs.YtfldplmgkeiimaaGreatDoor.Gp (C parseG)
set_option maxRecDepth 100000 in
set_option maxHeartbeats 25600000 in
theorem Render_ok (S:Nat→Prop) (vx vy vp vw vh vd:Int) (ls:List Ly) (pl:Option Addr) (nl cl:Nat) (hn:nl=ls.length) (pd:Option Addr) (cd:Nat) (k0 k1 k2 ob st:Int) (hjob:jobOk ⟨vx,vy,vp,vw,vh,vd⟩ ls 0 k0 k1 k2=true) (hall:LysOk ob ls) (w:World) (H:Hid (LysIn S w pl ls)):
  Calls Tryz.prog 20 #[.agg #[.int .i64 vx, .int .i64 vy, .int .i64 vp, .int .i64 vw, .int .i64 vh, .int .i64 vd, .slice pl nl cl, .slice pd 0 cd, .int .i64 k0, .int .i64 k1, .int .i64 k2, .int .i64 ob, .int .i64 st]] w fun e w'=>ReOut w vw vh (renL ⟨vx,vy,vp,vw,vh,vd⟩ ob ls 0 (fill3 k0 k1 k2 (vw.toNat *vh.toNat)) (max 0 (min st 100000000))) e w':=by
 have hv:viewOk ⟨vx,vy,vp,vw,vh,vd⟩=true:=by have h:=hjob;unfold jobOk at h;rw [Bool.and_eq_true] at h;exact h.1
 obtain ⟨⟨hd0,hd6⟩,_,⟨hw1,hw2⟩,⟨hh1,hh2⟩,_⟩:=viewOk_props hv
 have hw1:1≤vw:=hw1
 have hw2:vw≤256:=hw2
 have hh1:1≤vh:=hh1
 have hh2:vh≤256:=hh2
 have HAL:=Lib.hid hall
 have HLO:Hid (ls.all lyOk=true):=by
  have h:=hjob
  unfold jobOk at h
  simp only [Bool.and_eq_true] at h
  exact h.2.2.2.1
 have HJK:=Lib.hid hjob
 have HN:=Lib.hid hn
 have HV:=Lib.hid hv
 obtain ⟨nw,hnw⟩:∃n:Nat,vw=n:=⟨vw.toNat,by omega⟩
 obtain ⟨nh,hnh⟩:∃n:Nat,vh=n:=⟨vh.toNat,by omega⟩
 subst hnw hnh
 rw [Int.toNat_natCast,Int.toNat_natCast]
 have hnn:nw *nh≤65536:=Nat.mul_le_mul (show nw≤256 by omega) (show nh≤256 by omega)
 obtain ⟨NP,hNP⟩:∃n,nw *nh=n:=⟨_,rfl⟩
 have HNP:=Lib.hid hNP
 rw [hNP] at hnn
 have hx1:IntKind.i64.wrap (3 *(nw:Int))=3 *(nw:Int):=IntWalk.i64_in _ (by omega)
 have hx2:IntKind.i64.wrap (3 *(nw:Int) *(nh:Int))=((3 *NP:Nat):Int):=by rw [←hNP,show (3 *(nw:Int) *(nh:Int))=((3 *(nw *nh):Nat):Int) by push_cast;rw [Int.mul_assoc],hNP];exact IntWalk.i64_in _ (by omega)
 have hx3:IntKind.i64.wrap ((nw:Int) *(nh:Int))=(NP:Int):=by rw [←hNP,show ((nw:Int) *(nh:Int))=((nw *nh:Nat):Int) by push_cast;rfl,hNP];exact IntWalk.i64_in _ (by omega)
 rw [hNP]
 obtain ⟨T,hT⟩:∃T,renL ⟨vx,vy,vp,nw,nh,vd⟩ ob ls 0 (fill3 k0 k1 k2 NP) (max 0 (min st 100000000))=T:=⟨_,rfl⟩
 have HTT0:=Lib.hid hT
 rw [hT]
 clear hT
 clear hjob hn hv hNP hd0 hd6 hall
 go_enter Tryz.func20,Tryz.ntmps20
 go_upto_region 1 with fail
 obtain ⟨W,hW⟩:∃W,((w.alloc (.cells #[.int .i64 vx, .int .i64 vy, .int .i64 vp, .int .i64 (nw:Int), .int .i64 (nh:Int), .int .i64 vd, .slice pl nl cl, .slice pd 0 cd, .int .i64 k0, .int .i64 k1, .int .i64 k2, .int .i64 ob, .int .i64 st] tJb)).alloc (.cells #[.int .i64 0, .int .i64 0, .bool false, .slice none 0 0] tIm)).alloc (.cells #[.int .i64 0, .int .i64 0, .int .i64 0, .int .i64 0] tFt)=W:=⟨_,rfl⟩
 have s1:(w.alloc (.cells #[.int .i64 vx, .int .i64 vy, .int .i64 vp, .int .i64 (nw:Int), .int .i64 (nh:Int), .int .i64 vd, .slice pl nl cl, .slice pd 0 cd, .int .i64 k0, .int .i64 k1, .int .i64 k2, .int .i64 ob, .int .i64 st] tJb)).heap.size=w.heap.size+1:=Array.size_push _
 have s2:((w.alloc (.cells #[.int .i64 vx, .int .i64 vy, .int .i64 vp, .int .i64 (nw:Int), .int .i64 (nh:Int), .int .i64 vd, .slice pl nl cl, .slice pd 0 cd, .int .i64 k0, .int .i64 k1, .int .i64 k2, .int .i64 ob, .int .i64 st] tJb)).alloc (.cells #[.int .i64 0, .int .i64 0, .bool false, .slice none 0 0] tIm)).heap.size=w.heap.size+1+1:=(Array.size_push _).trans (congrArg (· +1) s1)
 have HM:Hid (ReM w w.heap.size #[.int .i64 vx, .int .i64 vy, .int .i64 vp, .int .i64 (nw:Int), .int .i64 (nh:Int), .int .i64 vd, .slice pl nl cl, .slice pd 0 cd, .int .i64 k0, .int .i64 k1, .int .i64 k2, .int .i64 ob, .int .i64 st] W):=by
  have a1:=alloc_new (w.alloc (.cells #[.int .i64 vx, .int .i64 vy, .int .i64 vp, .int .i64 (nw:Int), .int .i64 (nh:Int), .int .i64 vd, .slice pl nl cl, .slice pd 0 cd, .int .i64 k0, .int .i64 k1, .int .i64 k2, .int .i64 ob, .int .i64 st] tJb)) (.cells #[.int .i64 0, .int .i64 0, .bool false, .slice none 0 0] tIm)
  rw [s1] at a1
  have a2:=alloc_new ((w.alloc (.cells #[.int .i64 vx, .int .i64 vy, .int .i64 vp, .int .i64 (nw:Int), .int .i64 (nh:Int), .int .i64 vd, .slice pl nl cl, .slice pd 0 cd, .int .i64 k0, .int .i64 k1, .int .i64 k2, .int .i64 ob, .int .i64 st] tJb)).alloc (.cells #[.int .i64 0, .int .i64 0, .bool false, .slice none 0 0] tIm)) (.cells #[.int .i64 0, .int .i64 0, .int .i64 0, .int .i64 0] tFt)
  rw [s2,hW] at a2
  refine ⟨?_,?_,?_,a2⟩
  ·rw [←hW];exact (bel_alloc _ _).trans (((bel_alloc _ _).trans ((bel_alloc _ _).mono (bel_alloc _ _).size)).mono (bel_alloc _ _).size)
  ·rw [←hW];exact one_below (one_below (alloc_new w _) (bel_alloc _ _)) (bel_alloc _ _)
  ·rw [←hW];exact one_below a1 (bel_alloc _ _)
 rw [hW]
 clear hW s1 s2
 obtain ⟨D,hD⟩:∃D,w.heap.size=D:=⟨_,rfl⟩
 have HDD:=Lib.hid hD
 rw [hD] at HM⊢
 clear hD
 obtain ⟨j0,j1,j2,j3,j4,j5,j6,j7,j8,j9,j10,j11,j12⟩:=jb_at HM.out.j
 have hval:=valid_j S vx vy vp nw nh vd ls pl nl cl HN.out pd 0 cd k0 k1 k2 ob st W (Lib.hid (H.out.below HM.out.bel)) true HJK
 go_upto_region 3 with (go_at_call 35;(with_reducible refine hval.mono ?_);rintro e W2 ⟨rfl,hb2⟩)
 have HM2:=Lib.hid (HM.out.below hb2)
 clear hval hb2 j0 j1 j2 j3 j4 j5 j6 j7 j8 j9 j10 j11 j12 HM
 obtain ⟨j0,j1,j2,j3,j4,j5,j6,j7,j8,j9,j10,j11,j12⟩:=jb_at HM2.out.j
 have hdr:=drilled0_c vx vy vp nw nh vd pl nl cl pd cd k0 k1 k2 ob st W2
 go_upto_region 4 with (go_at_call 36;(with_reducible refine hdr.mono ?_);rintro e W3 ⟨rfl,hb3⟩)
 have HM4:=Lib.hid ((HM2.out.below hb3).below (bel_alloc W3 (.cells #[.int .i64 0, .int .i64 0, .int .i64 0, .int .i64 0] tFt)))
 have HFL:Hid ((W3.alloc (.cells #[.int .i64 0, .int .i64 0, .int .i64 0, .int .i64 0] tFt)).heap[W3.heap.size]?=some (.cells #[.int .i64 0, .int .i64 0, .int .i64 0, .int .i64 0] tFt)):=alloc_new _ _
 clear hdr hb3 j0 j1 j2 j3 j4 j5 j6 j7 j8 j9 j10 j11 j12 HM2
 generalize W3.alloc (.cells #[.int .i64 0, .int .i64 0, .int .i64 0, .int .i64 0] tFt)=W4 at HM4 HFL⊢
 have z3:=cell_of (i:=3) HFL.out rfl
 obtain ⟨j0,j1,j2,j3,j4,j5,j6,j7,j8,j9,j10,j11,j12⟩:=jb_at HM4.out.j
 obtain ⟨i0,hi,hz0,hz1,hz2⟩:=info_parts info_tn
 have HI:=Lib.hid (And.intro hi (And.intro hz0 (And.intro hz1 hz2)))
 clear hi hz0 hz1 hz2
 have HCN:Hid (0≤3 *NP):=Nat.zero_le _
 go_upto_region 7 with (first |(refine wpList_make_own _ rfl _ _ _ rfl W4.heap.size tTone i0 zTn 2 Tryz.underlying105 HI.out.1 HI.out.2.1 HI.out.2.2.1 .i64 .i64 ((3 *NP:Nat):Int) (3 *NP) (by rfl) (by rfl) (by rfl) (by rw [HI.out.2.2.2];omega) (by unfold maxLen;omega) (Nat.le_refl _) ?_;intro W5 hown hgr5))
 have HM5:=Lib.hid (HM4.out.below (below_grown hgr5))
 obtain ⟨B,hB⟩:∃B,W4.heap.size=B:=⟨_,rfl⟩
 rw [hB] at hown⊢
 have HBB:Hid (D+1+1 < B∧B≤W5.heap.size):=⟨by rw [←hB];exact lt_of_heap HM4.out.ft,by rw [←hB];exact hgr5.size⟩
 have HRow5:Hid (W5.ownsRow B tTone 2 (.slice (some ⟨B,0,none⟩) (3 *0) (3 *NP)) (3 *0) (cvsV (fill3 k0 k1 k2 0))):=hown
 have HDw:Hid (w.heap.size≤D):=Nat.le_of_eq HDD.out
 clear hown hgr5 z3 j0 j1 j2 j3 j4 j5 j6 j7 j8 j9 j10 j11 j12 HM4 HFL hB
 obtain ⟨j0,j1,j2,j3,j4,j5,j6,j7,j8,j9,j10,j11,j12⟩:=jb_at HM5.out.j
 go_wp2_with fail
 clear j0 j1 j2 j3 j4 j5 j6 j7 j8 j9 j10 j11 j12
 go_loopw [6,53] (fun tv i wr=>∃(j:Nat) (tq:Value) (wy:World),wy=wr∧j≤NP∧i= .int .i64 j∧tv=tq∧Hid (ReM w D #[.int .i64 vx, .int .i64 vy, .int .i64 vp, .int .i64 (nw:Int), .int .i64 (nh:Int), .int .i64 vd, .slice pl nl cl, .slice pd 0 cd, .int .i64 k0, .int .i64 k1, .int .i64 k2, .int .i64 ob, .int .i64 st] wy)∧Hid (B≤wy.heap.size)∧Hid (wy.ownsRow B tTone 2 tq (3 *j) (cvsV (fill3 k0 k1 k2 j)))) (fun _ i _=>NP -(intOf i).toNat)
 case atStart=>exact ⟨0,_,_,rfl,Nat.zero_le _,rfl,rfl,HM5.out,HBB.out.2,HRow5.out⟩
 case round=>
 obtain ⟨j,tq,wy,rfl,hj,rfl,rfl,HMy,HBy,HRw⟩:=hrel
 clear HM5 HRow5
 obtain ⟨pq,cq,rfl⟩:=row_form HRw.out
 by_cases hlt:j < NP
 ·have hlti:(j:Int)<(NP:Int):=by omega
  obtain ⟨_,_,_,_,_,_,_,_,_,j9,j10,_,_⟩:=jb_at HMy.out.j
  have j8:=cell_of (i:=8) HMy.out.j rfl
  go_wp2_with fail
  clear j8 j9 j10
  go_loopw [6,57] (fun tv i wr=>∃(n:Nat) (tq2:Value) (wz:World),wz=wr∧n≤3∧i= .int .i64 n∧tv=tq2∧Hid (ReM w D #[.int .i64 vx, .int .i64 vy, .int .i64 vp, .int .i64 (nw:Int), .int .i64 (nh:Int), .int .i64 vd, .slice pl nl cl, .slice pd 0 cd, .int .i64 k0, .int .i64 k1, .int .i64 k2, .int .i64 ob, .int .i64 st] wz)∧Hid (B≤wz.heap.size)∧Hid (wz.ownsRow B tTone 2 tq2 (3 *j+n) (cvsV (fill3 k0 k1 k2 j++ [startV k0,startV k1,startV k2].take n)))) (fun _ i _=>3 -(intOf i).toNat)
  case atStart=>exact ⟨0,_,_,rfl,by decide,rfl,rfl,HMy.out,HBy.out,by show World.ownsRow _ _ _ _ _ _ (cvsV (fill3 k0 k1 k2 j++ []));rw [List.append_nil];exact HRw.out⟩
  case round=>
  obtain ⟨n,tq2,wz,rfl,hn3,rfl,rfl,HMz,HBz,HRz⟩:=hrel
  clear HMy HBy HRw
  obtain ⟨pz,cz,rfl⟩:=row_form HRz.out
  by_cases hn:n < 3
  ·have hni:(n:Int)< 3:=by omega
   obtain ⟨cN,hcN⟩:∃c,(if n=0 then k0 else if n=1 then k1 else k2)=c:=⟨_,rfl⟩
   have hix:∀x,(Instr.index 30 (.agg #[.int .i64 k0, .int .i64 k1, .int .i64 k2]) (.int .i64 (n:Int))).run Tryz.prog x= .ok (.int .i64 cN) x:=fun x=>by rw [←hcN];exact idx_int3 k0 k1 k2 n hn x
   obtain ⟨⟨a1,a2⟩,hst⟩:∃t,startV cN=t:=⟨_,rfl⟩
   have HT:Hid ([startV k0,startV k1,startV k2].take (n+1)= [startV k0,startV k1,startV k2].take n++ [(a1,a2)]):=by
    show _=_
    rw [←hst,←hcN]
    rcases (show n=0∨n=1∨n=2 by omega) with rfl | rfl | rfl <;> rfl
   have hstc:Calls Tryz.prog 41 #[.int .i64 cN] wz fun e w'=>e= .returned (.agg #[.int .i64 a1, .int .i64 a2])∧Below wz.heap.size wz w':=by
    have h:=start_c cN wz
    rw [hst] at h
    exact h
   obtain ⟨M,hM⟩:∃M,3 *j+n=M:=⟨_,rfl⟩
   have HMM:=Lib.hid hM
   have hMb:M≤200000:=by omega
   rw [hM] at HRz⊢
   clear hcN hst hM
   go_upto_region 13 with (first
    |(go_at_call 41;(with_reducible refine hstc.mono ?_);rintro e w6 ⟨rfl,hb6⟩;have hsz6:=hb6.size;have hBz:=HBz.out;have HXO:World.ownsRow (w6.alloc (.cells #[.int .i64 a1, .int .i64 a2] tTone)) B tTone 2 (.slice pz M cz) M (cvsV (fill3 k0 k1 k2 j++ [startV k0,startV k1,startV k2].take n)):=(row_below HRz.out hb6).alloc _)
    |(at_builtin;refine wpList_append_lies _ rfl _ _ _ rfl B tTone i0 zTn 2 16 Tryz.underlying105 HI.out.1 HI.out.2.1 HI.out.2.2.1 HI.out.2.2.2 rfl (by omega) (.slice pz M cz) M _ (by rfl) HXO ⟨w6.heap.size,0,none⟩ 1 1 [.int .i64 a1, .int .i64 a2] (by rfl) (by rfl) (World.news_of_block (cs:= #[.int .i64 a1, .int .i64 a2]) (t:=tTone) (fr:=(0,0)) (heap_alloc_new w6 _)) (by simp [Value.oneCell']) (by omega) (by unfold maxLen;omega) (by omega) (by simp;omega) (w6.heap.size+1) (by simp) ?_;intro gg cap2 w7 hown hgrow hat hltt))
   have HM7:Hid (ReM w D #[.int .i64 vx, .int .i64 vy, .int .i64 vp, .int .i64 (nw:Int), .int .i64 (nh:Int), .int .i64 vd, .slice pl nl cl, .slice pd 0 cd, .int .i64 k0, .int .i64 k1, .int .i64 k2, .int .i64 ob, .int .i64 st] w7):=HMz.out.keep HDw.out HBB.out.1 (((Keep.of_below hb6).trans (Keep.alloc _ w6 (.cells #[.int .i64 a1, .int .i64 a2] tTone))).trans (Keep.grown hgrow (fun k e hk=>Nat.not_lt_of_le (HXO.lt k e).1 hk)))
   have HB7:Hid (B≤w7.heap.size):=Nat.le_trans (Nat.le_trans hBz hsz6) (Nat.le_trans (bel_alloc w6 (.cells #[.int .i64 a1, .int .i64 a2] tTone)).size hgrow.size)
   have HR7:Hid (w7.ownsRow B tTone 2 (.slice (some ⟨gg,0,none⟩) (M+1) cap2) (3 *j+(n+1)) (cvsV (fill3 k0 k1 k2 j++ [startV k0,startV k1,startV k2].take (n+1)))):=by
    rw [HT.out,←List.append_assoc,cvsV_snoc,←Nat.add_assoc,HMM.out]
    exact hown
   clear hown hgrow hat hltt HXO hb6 hsz6 hBz hstc hix HMz HBz HRz
   go_wp2_with fail
   go_round <;> first | exact ⟨n+1,_,_,rfl,by omega,by go_num,rfl,HM7.out,HB7.out,HR7.out⟩|(simp [intOf] <;> omega)
  ·have hne:n=3:=by omega
   subst hne
   have HR8:Hid (wz.ownsRow B tTone 2 (.slice pz (3 *j+3) cz) (3 *(j+1)) (cvsV (fill3 k0 k1 k2 (j+1)))):=HRz.out
   clear HRz
   go_wp2_with fail
   go_round <;> first | exact ⟨j+1,_,_,rfl,by omega,by go_num,rfl,HMz.out,HBz.out,HR8.out⟩|(simp [intOf] <;> omega)
 ·have hje:j=NP:=by omega
  subst hje
  obtain ⟨TS,hTS⟩:∃T,fill3 k0 k1 k2 j=T:=⟨_,rfl⟩
  have HTS:=Lib.hid hTS
  rw [hTS] at HRw
  clear hTS
  obtain ⟨N3,hN3⟩:∃n,3 *j=n:=⟨_,rfl⟩
  have HN3:=Lib.hid hN3
  have hN3b:N3≤196608:=by omega
  rw [hN3] at HRw⊢
  obtain ⟨j0,j1,j2,j3,j4,j5,_,_,_,_,_,_,j12⟩:=jb_at HMy.out.j
  have hcel:Calls Tryz.prog 42 #[.agg #[.int .i64 vx, .int .i64 vy, .int .i64 vp, .int .i64 (nw:Int), .int .i64 (nh:Int), .int .i64 vd]] wy fun e w'=>e= .returned (.int .i64 (cellsV ⟨vx,vy,vp,nw,nh,vd⟩))∧Below wy.heap.size wy w':=cells_c ⟨vx,vy,vp,nw,nh,vd⟩ HV.out wy
  go_upto_region 17 with (first
   |(go_at_call 42;(with_reducible refine hcel.mono ?_);rintro e w6 ⟨rfl,hb6⟩;have j12:=cell_keep hb6 j12)
   |(go_at_call 38;(with_reducible refine (newMeter_c st _).mono ?_);rintro e w7 ⟨rfl,rfl⟩))
  have HM8:Hid (ReM w D #[.int .i64 vx, .int .i64 vy, .int .i64 vp, .int .i64 (nw:Int), .int .i64 (nh:Int), .int .i64 vd, .slice pl nl cl, .slice pd 0 cd, .int .i64 k0, .int .i64 k1, .int .i64 k2, .int .i64 ob, .int .i64 st] (w6.alloc (mtO (max 0 (min st 100000000)) 0))):=(HMy.out.below hb6).below (bel_alloc _ _)
  have HR8:Hid ((w6.alloc (mtO (max 0 (min st 100000000)) 0)).ownsRow B tTone 2 (.slice pq N3 cq) N3 (cvsV TS)):=(row_below HRw.out hb6).alloc _
  have HG8:Hid ((w6.alloc (mtO (max 0 (min st 100000000)) 0)).heap[w6.heap.size]?=some (mtO (max 0 (min st 100000000)) 0)):=alloc_new _ _
  obtain ⟨G,hG⟩:∃G,w6.heap.size=G:=⟨_,rfl⟩
  have HBG:Hid (B≤G):=by rw [←hG];exact Nat.le_trans HBy.out hb6.size
  rw [hG] at HG8⊢
  have HTL:Hid (TS.length=N3):=by rw [←HTS.out,←HN3.out];exact fill3_len _ _ _ _
  have HTO:Hid (okTs TS):=by rw [←HTS.out];exact fill3_ok _ _ _ _
  obtain ⟨most,hmost⟩:∃m,max 0 (min st 100000000)=m:=⟨_,rfl⟩
  have hm0:0≤most:=by omega
  have hm1:most≤100000000:=by omega
  obtain ⟨CE,hCE⟩:∃c,cellsV ⟨vx,vy,vp,nw,nh,vd⟩=c:=⟨_,rfl⟩
  have HCE:=Lib.hid hCE
  have hce1:1≤CE:=by rw [←hCE];unfold cellsV;exact_mod_cast Nat.one_le_pow _ 4 (by decide)
  rw [hmost] at HM8 HR8 HG8⊢
  rw [hCE]
  have HT0:Hid (renL ⟨vx,vy,vp,nw,nh,vd⟩ ob (ls.drop 0) 0 TS most=T):=by show renL _ _ ls 0 TS most=T;rw [←HTS.out,←hmost];exact HTT0.out
  clear hG hCE hb6 hcel j0 j1 j2 j3 j4 j5 j12 HMy HBy HRw
  generalize w6.alloc (mtO most 0)=W8 at HM8 HR8 HG8⊢
  have j6:=cell_of (i:=6) HM8.out.j rfl
  have HG8':Hid (W8.heap[G]?=some (mtO most (most - most))):=by rw [Int.sub_self];exact HG8
  go_wp2_with fail
  clear j6 HG8
  go_loopw [76] (fun i wr=>∃(k:Nat) (ts:List Tone) (m:Int) (wy:World),wy=wr∧k≤nl∧i= .int .i64 k∧Hid (ReM w D #[.int .i64 vx, .int .i64 vy, .int .i64 vp, .int .i64 (nw:Int), .int .i64 (nh:Int), .int .i64 vd, .slice pl nl cl, .slice pd 0 cd, .int .i64 k0, .int .i64 k1, .int .i64 k2, .int .i64 ob, .int .i64 st] wy)∧Hid (wy.ownsRow B tTone 2 (.slice pq N3 cq) N3 (cvsV ts))∧Hid (wy.heap[G]?=some (mtO most (most - m)))∧Hid (0≤m∧m≤most)∧Hid (ts.length=N3∧okTs ts)∧Hid (renL ⟨vx,vy,vp,nw,nh,vd⟩ ob (ls.drop k) k ts m=T)) (fun i _=>nl -(intOf i).toNat)
  case atStart=>exact ⟨0,_,_,_,rfl,Nat.zero_le _,rfl,HM8.out,HR8.out,HG8'.out,⟨hm0,Int.le_refl _⟩,⟨HTL.out,HTO.out⟩,HT0.out⟩
  case round=>
  obtain ⟨k,ts,m,wy,rfl,hk,rfl,HMk,HRk,HGk,Hm,HTk,HTT⟩:=hrel
  clear HM8 HR8 HG8' HTL HTO HT0
  by_cases hkn:k < nl
  ·have hkl:k < ls.length:=by rw [←HN.out];exact hkn
   have hki:(k:Int)<(nl:Int):=by omega
   have hk0:(0:Int)≤(k:Int):=by omega
   have hkbb:k≤1000000000:=by have h9:ls.length≤1000000000:=H.out.1;omega
   obtain ⟨⟨t,lr,lg,lb,al,cu⟩,hy⟩:∃y,ls[k]=y:=⟨_,rfl⟩
   have hmem:(⟨t,lr,lg,lb,al,cu⟩:Ly)∈ls:=by rw [←hy];exact List.getElem_mem _
   obtain ⟨hcu,hfok,hpn⟩:=HAL.out _ hmem
   have hcu:cu=false:=hcu
   subst hcu
   have hlyo:=List.all_eq_true.1 HLO.out _ hmem
   obtain ⟨r9,hr9⟩:∃r,coverK k ⟨vx,vy,vp,nw,nh,vd⟩ m (fileV t.data.toList ob)=r:=⟨_,rfl⟩
   have HT2:Hid (contRL ⟨vx,vy,vp,nw,nh,vd⟩ ob ⟨t,lr,lg,lb,al,false⟩ (ls.drop (k+1)) k ts r9=T):=by
    show _=_
    rw [←HTT.out,List.drop_eq_getElem_cons hkl,hy,renL_cons,←hr9]
   obtain ⟨kb,ko,rfl,y0,y1,y2,y3,y4,y5⟩:=(H.out.below HMk.out.bel).at hkl hy
   obtain ⟨⟨o9,i9,f9⟩,hf9⟩:∃x,fileV t.data.toList ob=x:=⟨_,rfl⟩
   have hpn2:∀x∈o9,Plain x.2∧Nice x.2:=by rw [hf9] at hpn;exact hpn
   have HR9:Hid (coverK k ⟨vx,vy,vp,nw,nh,vd⟩ m (o9,i9,f9)=r9):=by rw [←hf9];exact hr9
   have hly:ls[k]?=some ⟨t,lr,lg,lb,al,false⟩:=by rw [List.getElem?_eq_getElem hkl,hy]
   have HML:Hid (ReM w D #[.int .i64 vx, .int .i64 vy, .int .i64 vp, .int .i64 (nw:Int), .int .i64 (nh:Int), .int .i64 vd, .slice (some ⟨kb,ko,none⟩) nl cl, .slice pd 0 cd, .int .i64 k0, .int .i64 k1, .int .i64 k2, .int .i64 ob, .int .i64 st] (wy.alloc (.cells #[.string t, .int .i64 lr, .int .i64 lg, .int .i64 lb, .int .i64 al, .bool false] tLy))):=HMk.out.below (bel_alloc _ _)
   have HLL:Hid ((wy.alloc (.cells #[.string t, .int .i64 lr, .int .i64 lg, .int .i64 lb, .int .i64 al, .bool false] tLy)).heap[wy.heap.size]?=some (.cells #[.string t, .int .i64 lr, .int .i64 lg, .int .i64 lb, .int .i64 al, .bool false] tLy)):=alloc_new _ _
   have HGL:=Lib.hid (one_below HGk.out (bel_alloc wy (.cells #[.string t, .int .i64 lr, .int .i64 lg, .int .i64 lb, .int .i64 al, .bool false] tLy)))
   have HRL:=Lib.hid (row_below HRk.out (bel_alloc wy (.cells #[.string t, .int .i64 lr, .int .i64 lg, .int .i64 lb, .int .i64 al, .bool false] tLy)))
   have hglt:=lt_of_heap HGk.out
   have hcov:=cover_c S vx vy vp nw nh vd HV.out ls (some ⟨kb,ko,none⟩) nl cl HN.out pd 0 cd k0 k1 k2 ob st k t lr lg lb al hly hfok o9 i9 f9 hf9 hpn2 G most m ⟨Hm.out.1,Hm.out.2,hm1⟩ _ (Lib.hid (H.out.below HML.out.bel)) HGL r9 HR9
   go_upto_region 20 with fail
   have HLO9:=Lib.hid hlyo
   obtain ⟨cov,fa,fb,fc,fd,m2⟩:=r9
   clear y0 y1 y2 y3 y4 y5 hfok hpn hf9 hpn2 hly HMk HGk HRk hy hmem HTT hr9 hlyo
   generalize wy.alloc (.cells #[.string t, .int .i64 lr, .int .i64 lg, .int .i64 lb, .int .i64 al, .bool false] tLy)=W9 at HML HLL HGL HRL hcov⊢
   obtain ⟨L,hL⟩:∃L,wy.heap.size=L:=⟨_,rfl⟩
   rw [hL] at HLL hglt⊢
   clear hL
   obtain ⟨j0,j1,j2,j3,j4,j5,j6,j7,j8,j9,j10,j11,j12⟩:=jb_at HML.out.j
   cases cov with
   | none=>
    have hfd:((fd !=0):Bool)=true:=by rw [bne_iff_ne];exact coverK_none HR9.out
    go_upto_region 21 with (first |(go_at_call 37;(with_reducible refine hcov.mono ?_);intro e w10 hr10;obtain ⟨hg10,hk10⟩:=CvOut.get hr10;obtain rfl:=CvOut.no hr10)| fail)
    have HM11:Hid (ReM w D #[.int .i64 vx, .int .i64 vy, .int .i64 vp, .int .i64 (nw:Int), .int .i64 (nh:Int), .int .i64 vd, .slice (some ⟨kb,ko,none⟩) nl cl, .slice pd 0 cd, .int .i64 k0, .int .i64 k1, .int .i64 k2, .int .i64 ob, .int .i64 st] (w10.alloc (.cells #[.int .i64 fa, .int .i64 fb, .int .i64 fc, .int .i64 fd] tFt))):=(HML.out.keepG HDw.out (by have:=HBB.out.1;have:=HBG.out;omega) hk10).below (bel_alloc _ _)
    have HF11:Hid ((w10.alloc (.cells #[.int .i64 fa, .int .i64 fb, .int .i64 fc, .int .i64 fd] tFt)).heap[w10.heap.size]?=some (.cells #[.int .i64 fa, .int .i64 fb, .int .i64 fc, .int .i64 fd] tFt)):=alloc_new _ _
    have HTE:Hid (.error (fa,fb,fc,fd)=T):=HT2.out
    clear hr10 hg10 hk10 hcov j0 j1 j2 j3 j4 j5 j6 j7 j8 j9 j10 j11 j12 HML HLL HGL HRL HT2
    generalize w10.alloc (.cells #[.int .i64 fa, .int .i64 fb, .int .i64 fc, .int .i64 fd] tFt)=W11 at HM11 HF11⊢
    obtain ⟨F,hF⟩:∃F,w10.heap.size=F:=⟨_,rfl⟩
    rw [hF] at HF11⊢
    clear hF
    obtain ⟨e0,e1,e2,e3⟩:=ft_at HF11.out
    have hne3:F≠D+1:=ne_of_type HF11.out HM11.out.im (by decide)
    have hne4:D+1≠F:=hne3.symm
    have x0:=cell_of (i:=0) HM11.out.im rfl
    have x1:=cell_of (i:=1) HM11.out.im rfl
    have x2:=cell_of (i:=2) HM11.out.im rfl
    have x3:=cell_of (i:=3) HM11.out.im rfl
    obtain ⟨f0,f1,f2,f3⟩:=ft_at HM11.out.ft
    have hfi:=fun i=>cells_f0 HM11.out.im i
    have hff:=fun i=>cells_f0 HM11.out.ft i
    have hne1:D+1+1≠D+1:=by omega
    have hne2:D+1≠D+1+1:=by omega
    go_upto_region 22 with fail
    go_region
    all_goals
     clear e0 e1 e2 e3 x0 x1 x2 x3 f0 f1 f2 f3 hfi hff
     have hfin:=fin8 HM11.out HDw.out (.int .i64 0) (.int .i64 0) (.bool false) (.slice none 0 0) (.int .i64 fa) (.int .i64 fb) (.int .i64 fc) (.int .i64 fd)
     go_wp2_with fail
     generalize ((((((((W11.setCell ⟨D+1,0,none⟩ (.int .i64 0)).setCell ⟨D+1,1,none⟩ (.int .i64 0)).setCell ⟨D+1,2,none⟩ (.bool false)).setCell ⟨D+1,3,none⟩ (.slice none 0 0)).setCell ⟨D+1+1,0,none⟩ (.int .i64 fa)).setCell ⟨D+1+1,1,none⟩ (.int .i64 fb)).setCell ⟨D+1+1,2,none⟩ (.int .i64 fc)).setCell ⟨D+1+1,3,none⟩ (.int .i64 fd))=W12 at hfin⊢
     obtain ⟨q1,q2,q3,_⟩:=hfin
     have q1':W12.drew.heap[D+1]?=_:=q1
     have q2':W12.drew.heap[D+1+1]?=_:=q2
     obtain ⟨e0,e1,e2,e3⟩:=ft_at q1'
     obtain ⟨f0,f1,f2,f3⟩:=ft_at q2'
     rw [←HTE.out]
     exact bodyPost_ret (v:= .tuple #[.agg #[.int .i64 0, .int .i64 0, .bool false, .slice none 0 0],ftV fa fb fc fd]) (by simp [results,Tryz.results20,go_sem,e0,e1,e2,e3,f0,f1,f2,f3]) rfl ⟨q3.drew,rfl⟩
   | some cv=>
    obtain ⟨hcvin,hcvlen,hm20,hm2m⟩:=coverK_some Hm.out.1 HR9.out
    go_upto_region 21 with (first |(go_at_call 37;(with_reducible refine hcov.mono ?_);intro e w10 hr10;obtain ⟨hg10,hk10⟩:=CvOut.get hr10;obtain ⟨sv,rfl,hcv⟩:=CvOut.yes hr10)| fail)
    have hDG:D+1+1 < G:=by have:=HBB.out.1;have:=HBG.out;omega
    have HM11:Hid (ReM w D #[.int .i64 vx, .int .i64 vy, .int .i64 vp, .int .i64 (nw:Int), .int .i64 (nh:Int), .int .i64 vd, .slice (some ⟨kb,ko,none⟩) nl cl, .slice pd 0 cd, .int .i64 k0, .int .i64 k1, .int .i64 k2, .int .i64 ob, .int .i64 st] (w10.alloc (.cells #[.int .i64 0, .int .i64 0, .int .i64 0, .int .i64 0] tFt))):=(HML.out.keepG HDw.out hDG hk10).below (bel_alloc _ _)
    have HF11:Hid ((w10.alloc (.cells #[.int .i64 0, .int .i64 0, .int .i64 0, .int .i64 0] tFt)).heap[w10.heap.size]?=some (.cells #[.int .i64 0, .int .i64 0, .int .i64 0, .int .i64 0] tFt)):=alloc_new _ _
    have HR11:Hid ((w10.alloc (.cells #[.int .i64 0, .int .i64 0, .int .i64 0, .int .i64 0] tFt)).ownsRow B tTone 2 (.slice pq N3 cq) N3 (cvsV ts)):=(row_keep HRL.out hk10 (fun k e=>fun e2=>own_other HRL.out HGL.out (by decide) (e2 ▸ e))).alloc _
    have HG11:Hid ((w10.alloc (.cells #[.int .i64 0, .int .i64 0, .int .i64 0, .int .i64 0] tFt)).heap[G]?=some (mtO most (most - m2))):=one_below hg10 (bel_alloc _ _)
    have HL11:Hid ((w10.alloc (.cells #[.int .i64 0, .int .i64 0, .int .i64 0, .int .i64 0] tFt)).heap[L]?=some (.cells #[.string t, .int .i64 lr, .int .i64 lg, .int .i64 lb, .int .i64 al, .bool false] tLy)):=one_below (hk10.get (show L≠G by omega) HLL.out) (bel_alloc _ _)
    have HC11:Hid (∃B9,(w10.alloc (.cells #[.int .i64 0, .int .i64 0, .int .i64 0, .int .i64 0] tFt)).ownsRow B9 tCov 2 sv cv.length (cvsV cv)):=by obtain ⟨B9,h9,_⟩:=hcv;exact ⟨B9,h9.alloc _⟩
    have HTE:Hid (renL ⟨vx,vy,vp,nw,nh,vd⟩ ob (ls.drop (k+1)) (k+1) (layAll lr lg lb al CE cv 0 ts) m2=T):=by have h:=HT2.out;unfold contRL at h;simp only at h;rw [HCE.out] at h;exact h
    have hcvin2:∀c∈cv,CvIn CE c:=by rw [←HCE.out];exact hcvin
    have HCI:=Lib.hid hcvin2
    have hncl:cv.length=j:=by rw [hcvlen];show (nh:Int).toNat *(nw:Int).toNat=j;rw [Int.toNat_natCast,Int.toNat_natCast,Nat.mul_comm];exact HNP.out
    have HNC:=Lib.hid hncl
    clear hr10 hg10 hk10 hcov j0 j1 j2 j3 j4 j5 j6 j7 j8 j9 j10 j11 j12 HML HLL HGL HRL HT2 hcv hcvin hcvin2 hcvlen HR9 hncl
    generalize w10.alloc (.cells #[.int .i64 0, .int .i64 0, .int .i64 0, .int .i64 0] tFt)=W11 at HM11 HF11 HR11 HG11 HL11 HC11⊢
    obtain ⟨F,hF⟩:∃F,w10.heap.size=F:=⟨_,rfl⟩
    rw [hF] at HF11⊢
    clear hF
    obtain ⟨g,rfl⟩:∃g,pq=some ⟨g,0,none⟩:=by
     rcases HR11.out.2 with ⟨e1,e2⟩|⟨g,cap,cur,e1,_⟩
     ·have h1:=HN3.out;have h2:=HNP.out;exact absurd e2 (by have:0 < nw *nh:=Nat.mul_pos (by omega) (by omega);omega)
     ·injection e1 with e1;exact ⟨g,e1⟩
    obtain ⟨B9,hrow9⟩:=HC11.out
    obtain ⟨pcv,ccv,rfl⟩:=row_form hrow9
    have HCV:=Lib.hid hrow9
    rw [HNC.out] at HCV⊢
    have e3:=cell_of (i:=3) HF11.out rfl
    clear hrow9 HC11
    obtain ⟨TT,hTT⟩:∃T,layAll lr lg lb al CE cv 0 ts=T:=⟨_,rfl⟩
    rw [hTT] at HTE
    have HTT1:Hid (layAll lr lg lb al CE (cv.drop 0) 0 ts=TT):=hTT
    have hlb:=HLO9.out
    unfold lyOk at hlb
    simp only [Bool.and_eq_true,byV,decide_eq_true_eq] at hlb
    obtain ⟨⟨hr0,hr1⟩,⟨hg0,hg1⟩,⟨hb0,hb1⟩,ha0,ha1⟩:=hlb
    clear hTT
    go_wp2_with fail
    clear e3
    go_loopw [96] (fun i wr=>∃(i9:Nat) (ts2:List Tone) (wz:World),wz=wr∧i9≤j∧i= .int .i64 i9∧Hid (Keep (fun k=>k≠g) W11 wz)∧Hid (wz.ownsRow B tTone 2 (.slice (some ⟨g,0,none⟩) N3 cq) N3 (cvsV ts2))∧Hid (ts2.length=N3∧okTs ts2)∧Hid (layAll lr lg lb al CE (cv.drop i9) i9 ts2=TT)) (fun i _=>j -(intOf i).toNat)
    case atStart=>exact ⟨0,ts,W11,rfl,Nat.zero_le _,rfl, .refl _ _,HR11.out,HTk.out,HTT1.out⟩
    case round=>
    obtain ⟨i9,ts2,wz,rfl,hi9,rfl,HKz,HRz,HTz,HTTz⟩:=hrel
    clear HTT1
    have hLg:L≠g:=by
     obtain ⟨_,cur,h⟩:=own_type HR11.out
     exact ne_of_type HL11.out h (by decide)
    by_cases hi:i9 < j
    ·have hic:i9 < cv.length:=by rw [HNC.out];exact hi
     have hii:(i9:Int)<(j:Int):=by omega
     have hi0:(0:Int)≤(i9:Int):=by omega
     obtain ⟨⟨clo,chi⟩,hc⟩:∃c,cv[i9]=c:=⟨_,rfl⟩
     have hcin:CvIn CE (clo,chi):=by rw [←hc];exact HCI.out _ (List.getElem_mem _)
     have HCIN:=Lib.hid hcin
     obtain ⟨gc,hgc⟩:∃gc,pcv=some ⟨gc,0,none⟩:=by
      rcases HCV.out.2 with ⟨e1,e2⟩|⟨gc,cap,cur,e1,_⟩
      ·omega
      ·injection e1 with e1;exact ⟨gc,e1⟩
     subst hgc
     have hgg:gc≠g:=by
      obtain ⟨_,cur,h⟩:=own_type HR11.out
      obtain ⟨_,cur2,h2⟩:=own_type HCV.out
      exact ne_of_type h2 h (by decide)
     have hcr:wz.ownsRow B9 tCov 2 (.slice (some ⟨gc,0,none⟩) j ccv) j (cvsV cv):=row_keep HCV.out HKz.out (fun k e=>by have h7:gc=k:=(by simpa [Value.ownBlock] using e);rw [←h7];exact hgg)
     obtain ⟨q0,q1⟩:=cvs_at hic
     rw [hc] at q0 q1
     have v0:=(hcr.cellAt (i9 *2) (by omega)).trans q0
     have v1:=(hcr.cellAt (i9 *2+1) (by omega)).trans q1
     have HLz:=Lib.hid (HKz.out.get hLg HL11.out)
     have l1:=cell_of (i:=1) HLz.out rfl
     have l2:=cell_of (i:=2) HLz.out rfl
     have l3:=cell_of (i:=3) HLz.out rfl
     have HTT2:Hid (layAll lr lg lb al CE (cv.drop (i9+1)) (i9+1) (pixK lr lg lb al CE (clo,chi) i9 3 ts2)=TT):=by
      show _=_
      rw [←HTTz.out,List.drop_eq_getElem_cons hic,hc]
      rfl
     clear hcr q0 q1 hc
     have hLlt:=lt_of_heap HLz.out
     go_wp2_with fail
     have HKV:Hid (Keep (fun k=>k≠g) W11 (wz.alloc (.cells #[.int .i64 clo, .int .i64 chi] tCov))):=HKz.out.trans (Keep.alloc _ _ _)
     have HRV:Hid ((wz.alloc (.cells #[.int .i64 clo, .int .i64 chi] tCov)).ownsRow B tTone 2 (.slice (some ⟨g,0,none⟩) N3 cq) N3 (cvsV (pixK lr lg lb al CE (clo,chi) i9 0 ts2))):=HRz.out.alloc _
     have HVV:Hid ((wz.alloc (.cells #[.int .i64 clo, .int .i64 chi] tCov)).heap[wz.heap.size]?=some (.cells #[.int .i64 clo, .int .i64 chi] tCov)):=alloc_new _ _
     clear v0 v1 l1 l2 l3 HLz HKz HRz HTTz
     generalize wz.alloc (.cells #[.int .i64 clo, .int .i64 chi] tCov)=WV at HKV HRV HVV⊢
     obtain ⟨V,hV⟩:∃V,wz.heap.size=V:=⟨_,rfl⟩
     rw [hV] at HVV hLlt⊢
     clear hV
     have hVg:V≠g:=by
      obtain ⟨_,cur,h⟩:=own_type HRV.out
      exact ne_of_type HVV.out h (by decide)
     go_loopw [108] (fun i wr=>∃(n:Nat) (wx:World),wx=wr∧n≤3∧i= .int .i64 n∧Hid (Keep (fun k=>k≠g) WV wx)∧Hid (wx.ownsRow B tTone 2 (.slice (some ⟨g,0,none⟩) N3 cq) N3 (cvsV (pixK lr lg lb al CE (clo,chi) i9 n ts2)))) (fun i _=>3 -(intOf i).toNat)
     case atStart=>exact ⟨0,WV,rfl,by decide,rfl, .refl _ _,HRV.out⟩
     case round=>
     obtain ⟨n,wx,rfl,hn3,rfl,HKx,HRx⟩:=hrel
     clear HRV
     by_cases hn:n < 3
     ·have hni:(n:Int)< 3:=by omega
      obtain ⟨cN,hcN⟩:∃c,(if n=0 then lr else if n=1 then lg else lb)=c:=⟨_,rfl⟩
      have hix:∀x,(Instr.index 30 (.agg #[.int .i64 lr, .int .i64 lg, .int .i64 lb]) (.int .i64 (n:Int))).run Tryz.prog x= .ok (.int .i64 cN) x:=fun x=>by rw [←hcN];exact idx_int3 lr lg lb n hn x
      have hcNr:0≤cN∧cN≤255:=by
       rw [←hcN]
       split
       ·exact ⟨hr0,hr1⟩
       ·split
        ·exact ⟨hg0,hg1⟩
        ·exact ⟨hb0,hb1⟩
      obtain ⟨M1,hM1⟩:∃M,3 *i9=M:=⟨_,rfl⟩
      obtain ⟨M2,hM2⟩:∃M,M1+n=M:=⟨_,rfl⟩
      have hN3j:3 *j=N3:=HN3.out
      have hM2b:M2 < N3:=by omega
      have hx4:IntKind.i64.wrap (3 *(i9:Int))=(M1:Int):=by rw [IntWalk.i64_in _ (by omega)];omega
      have hx5:IntKind.i64.wrap ((M1:Int)+(n:Int))=(M2:Int):=by rw [IntWalk.i64_in _ (by omega)];omega
      have hM20:(0:Int)≤(M2:Int):=by omega
      have hM21:(M2:Int)<(N3:Int):=by omega
      obtain ⟨ts3,hts3⟩:∃t,pixK lr lg lb al CE (clo,chi) i9 n ts2=t:=⟨_,rfl⟩
      have hl3:ts3.length=N3:=by rw [←hts3];exact (pixK_len _ _ _ _ _ _ _ _ _).trans HTz.out.1
      have hok3:okTs ts3:=by rw [←hts3];exact pixK_ok HTz.out.2 ⟨hr0,hr1⟩ ⟨hg0,hg1⟩ ⟨hb0,hb1⟩ ⟨ha0,ha1⟩ HCIN.out hce1 n
      obtain ⟨⟨t1,t2⟩,ht⟩:∃t,ts3.getD M2 (0,0)=t:=⟨_,rfl⟩
      have htok:okTone (t1,t2)=true:=by rw [←ht];exact getD_ok hok3 M2
      obtain ⟨⟨u1,u2⟩,hu⟩:∃t,overT (t1,t2) cN al (clo,chi) CE=t:=⟨_,rfl⟩
      have HNX:Hid (pixK lr lg lb al CE (clo,chi) i9 (n+1) ts2=ts3.set M2 (u1,u2)):=by
       show _=_
       rw [←hu,←ht,←hts3,←hM2,←hM1,←hcN]
       rfl
      have hcovok:okCov (clo,chi) CE=true:=by
       have h:=HCIN.out
       have h9:CE≤4096:=by rw [←HCE.out];exact cells_le HV.out
       unfold CvIn at h
       unfold okCov
       simp only [Bool.and_eq_true,decide_eq_true_eq]
       exact ⟨hce1,h9,h.1,h.2.1,h.2.2⟩
      have hov:∀x,Calls Tryz.prog 43 #[.agg #[.int .i64 t1, .int .i64 t2], .int .i64 cN, .int .i64 al, .agg #[.int .i64 clo, .int .i64 chi], .int .i64 CE] x fun e w'=>e= .returned (.tuple #[.agg #[.int .i64 u1, .int .i64 u2], .bool true])∧Below x.heap.size x w':=by
       intro x
       have h:=over_c (t1,t2) cN al (clo,chi) CE hcNr ⟨ha0,ha1⟩ hcovok htok x
       have e:((leastV (t1,t2) cN al (clo,chi) CE /(255 *CE),(mostV (t1,t2) cN al (clo,chi) CE+255 *CE - 1)/(255 *CE)):Int × Int)=(u1,u2):=hu
       rw [e] at h
       exact h
      have HOV:=Lib.hid hov
      rw [hts3] at HRx
      obtain ⟨q0,q1⟩:=cvs_at (l:=ts3) (i:=M2) (by omega)
      have hge:ts3[M2]'(by omega)=(t1,t2):=by rw [←ht,List.getD_eq_getElem?_getD,List.getElem?_eq_getElem (by omega)];rfl
      rw [hge] at q0 q1
      have c0:=(HRx.out.cellAt (M2 *2) (by omega)).trans q0
      have c1:=(HRx.out.cellAt (M2 *2+1) (by omega)).trans q1
      have HLx:=Lib.hid (HKx.out.get hLg (HKV.out.get hLg HL11.out))
      have HVx:=Lib.hid (HKx.out.get hVg HVV.out)
      have l4:=cell_of (i:=4) HLx.out rfl
      have v0:=cell_of (i:=0) HVx.out rfl
      have v1:=cell_of (i:=1) HVx.out rfl
      have HGx:Hid (∃cur,wx.heap[g]?=some (.cells cur tTone (0,0))):=(own_type HRx.out).2
      have hkey:∀y,Below wx.drew.heap.size wx.drew y→y.cell? ⟨g,M2 *2,none⟩=some (.int .i64 t1)∧y.cell? ⟨g,M2 *2+1,none⟩=some (.int .i64 t2)∧(∀i,y.frozen? ⟨g,i,none⟩=false):=by
       intro y hy
       have h:=row_below (w:=wx.drew) HRx.out.drew hy
       have a0:=(h.cellAt (M2 *2) (by omega)).trans q0
       have a1:=(h.cellAt (M2 *2+1) (by omega)).trans q1
       obtain ⟨cur,hcur⟩:=(own_type h).2
       exact ⟨a0,a1,fun i=>cells_f0 hcur i⟩
      clear hov q0 q1 hge hts3 ht hu hcN hcovok htok hl3 hok3
      go_upto_region 29 with fail
      go_region_law (first |(rw [if_pos (by rfl)];go_simp;go_at_call 43;(with_reducible refine (HOV.out _).mono ?_);rintro e w8 ⟨rfl,hb8⟩;obtain ⟨z0,z1,zf⟩:=hkey w8 hb8)| fail)
      all_goals
       have HK9:Hid (Keep (fun k=>k≠g) WV ((w8.setCell ⟨g,M2 *2,none⟩ (.int .i64 u1)).setCell ⟨g,M2 *2+1,none⟩ (.int .i64 u2))):=((HKx.out.trans (Keep.of_below (Below.refl _ _).drew)).trans (Keep.of_below hb8)).trans ((Keep.set (a:=⟨g,M2 *2,none⟩) (fun hk=>hk rfl) _).trans (Keep.set (a:=⟨g,M2 *2+1,none⟩) (fun hk=>hk rfl) _))
       have HR9:Hid (((w8.setCell ⟨g,M2 *2,none⟩ (.int .i64 u1)).setCell ⟨g,M2 *2+1,none⟩ (.int .i64 u2)).ownsRow B tTone 2 (.slice (some ⟨g,0,none⟩) N3 cq) N3 (cvsV (pixK lr lg lb al CE (clo,chi) i9 (n+1) ts2))):=by
        rw [HNX.out]
        exact own_tone (row_below (w:=wx.drew) HRx.out.drew hb8) hM2b (u1,u2)
       clear hb8 z0 z1 zf hkey HKx HRx c0 c1 l4 v0 v1 HLx HVx
       generalize (w8.setCell ⟨g,M2 *2,none⟩ (.int .i64 u1)).setCell ⟨g,M2 *2+1,none⟩ (.int .i64 u2)=W12 at HK9 HR9⊢
       go_wp2_with fail
       go_round <;> first | exact ⟨n+1,_,rfl,by omega,by go_num,HK9.out,HR9.out⟩|(simp [intOf] <;> omega)
     ·have hne:n=3:=by omega
      subst hne
      have HKe:=Lib.hid (HKV.out.trans HKx.out)
      have HTe:Hid ((pixK lr lg lb al CE (clo,chi) i9 3 ts2).length=N3∧okTs (pixK lr lg lb al CE (clo,chi) i9 3 ts2)):=⟨(pixK_len _ _ _ _ _ _ _ _ _).trans HTz.out.1,pixK_ok HTz.out.2 ⟨hr0,hr1⟩ ⟨hg0,hg1⟩ ⟨hb0,hb1⟩ ⟨ha0,ha1⟩ HCIN.out hce1 3⟩
      go_wp2_with fail
      go_round <;> first | exact ⟨i9+1,_,_,rfl,by omega,by go_num,HKe.out,HRx.out,HTe.out,HTT2.out⟩|(simp [intOf] <;> omega)
    ·have hie:i9=j:=by omega
     subst hie
     have hBg:=(own_type HR11.out).1
     have hGg:G≠g:=by
      obtain ⟨_,cur,h⟩:=own_type HR11.out
      exact ne_of_type HG11.out h (by decide)
     have HMe:Hid (ReM w D #[.int .i64 vx, .int .i64 vy, .int .i64 vp, .int .i64 (nw:Int), .int .i64 (nh:Int), .int .i64 vd, .slice (some ⟨kb,ko,none⟩) nl cl, .slice pd 0 cd, .int .i64 k0, .int .i64 k1, .int .i64 k2, .int .i64 ob, .int .i64 st] wz):=HM11.out.keepG HDw.out (by have:=HBB.out.1;omega) HKz.out
     have HGe:=Lib.hid (HKz.out.get hGg HG11.out)
     have hTe:ts2=TT:=by
      have h:=HTTz.out
      rw [List.drop_eq_nil_of_le (by rw [HNC.out];exact Nat.le_refl _)] at h
      exact h
     have HTEe:Hid (renL ⟨vx,vy,vp,nw,nh,vd⟩ ob (ls.drop (k+1)) (k+1) ts2 m2=T):=by rw [hTe];exact HTE
     have Hme:Hid (0≤m2∧m2≤most):=⟨hm20,by have:=Hm.out.2;omega⟩
     clear hTe HTTz HTE
     go_wp2_with fail
     go_round
     case rel=>exact ⟨k+1,ts2,m2,_,rfl,by omega,by go_num,HMe.out,HRz.out,HGe.out,Hme.out,HTz.out,HTEe.out⟩
     case measure=>simp [intOf];omega
  ·have hke:nl=k:=by omega
   subst hke
   have hTk: .ok ts=T:=by
    have h:=HTT.out
    rw [List.drop_eq_nil_of_le (by rw [HN.out];exact Nat.le_refl _)] at h
    exact h
   have HTK:=Lib.hid hTk
   obtain ⟨g,rfl⟩:∃g,pq=some ⟨g,0,none⟩:=by
    rcases HRk.out.2 with ⟨e1,e2⟩|⟨g,cap,cur,e1,_⟩
    ·have h1:=HN3.out;have h2:=HNP.out;exact absurd e2 (by have:0 < nw *nh:=Nat.mul_pos (by omega) (by omega);omega)
    ·injection e1 with e1;exact ⟨g,e1⟩
   obtain ⟨i1,hi,hz0,hz1,hz2⟩:=info_parts info_u8
   have HJ:=Lib.hid (And.intro hi (And.intro hz0 (And.intro hz1 hz2)))
   have hBw:=HMk.out.bel.size
   clear hi hz0 hz1 hz2 hTk HTT HGk
   go_upto_region 34 with (first |(refine wpList_make_own _ rfl _ _ _ rfl wy.heap.size 5 i1 (.int .u8 0) 1 Tryz.underlying52 HJ.out.1 HJ.out.2.1 HJ.out.2.2.1 .i64 .i64 (N3:Int) N3 (by rfl) (by rfl) (by rfl) (by rw [HJ.out.2.2.2];omega) (by unfold maxLen;omega) (Nat.le_refl _) ?_;intro W5b hown hgr5))
   have HMb:=Lib.hid (HMk.out.below (below_grown hgr5))
   have HRb:Hid (W5b.ownsRow B tTone 2 (.slice (some ⟨g,0,none⟩) N3 cq) N3 (cvsV ts)):=row_below HRk.out (below_grown hgr5)
   obtain ⟨B6,hB6⟩:∃B,wy.heap.size=B:=⟨_,rfl⟩
   rw [hB6] at hown⊢
   have HB6:Hid (D+1+1 < B6∧g < B6∧B6≤W5b.heap.size):=⟨by rw [←hB6];exact lt_of_heap HMk.out.ft,by rw [←hB6];exact (HRk.out.lt g rfl).2,by rw [←hB6];exact hgr5.size⟩
   have HY0:Hid (W5b.ownsRow B6 5 1 (.slice (some ⟨B6,0,none⟩) 0 N3) 0 ((ts.take 0).map fun t=> .int .u8 (byteV t))):=hown
   clear hown hgr5 hB6 HMk HRk hBw
   go_wp2_with fail
   go_loopw [19,142] (fun bv i wr=>∃(n:Nat) (tq:Value) (wz:World),wz=wr∧n≤N3∧i= .int .i64 n∧bv=tq∧Hid (Keep (fun k=>k < B6) W5b wz)∧Hid (wz.ownsRow B6 5 1 tq n ((ts.take n).map fun t=> .int .u8 (byteV t)))) (fun _ i _=>N3 -(intOf i).toNat)
   case atStart=>exact ⟨0,_,W5b,rfl,Nat.zero_le _,rfl,rfl, .refl _ _,HY0.out⟩
   case round=>
   obtain ⟨n,tq,wz,rfl,hn,rfl,rfl,HKz,HYz⟩:=hrel
   clear HY0
   obtain ⟨py,cy,rfl⟩:=row_form HYz.out
   have HBz:Hid (B6≤wz.heap.size):=Nat.le_trans HB6.out.2.2 HKz.out.size
   by_cases hlt:n < N3
   ·have hlti:(n:Int)<(N3:Int):=by omega
    have hn0:(0:Int)≤(n:Int):=by omega
    have hnl:n < ts.length:=by rw [HTk.out.1];exact hlt
    obtain ⟨⟨t1,t2⟩,ht⟩:∃t,ts[n]=t:=⟨_,rfl⟩
    have hrz:wz.ownsRow B tTone 2 (.slice (some ⟨g,0,none⟩) N3 cq) N3 (cvsV ts):=row_keep HRb.out HKz.out (fun k e=>by have h7:g=k:=(by simpa [Value.ownBlock] using e);rw [←h7];exact HB6.out.2.1)
    obtain ⟨q0,q1⟩:=cvs_at hnl
    rw [ht] at q0 q1
    have c0:=(hrz.cellAt (n *2) (by omega)).trans q0
    have c1:=(hrz.cellAt (n *2+1) (by omega)).trans q1
    obtain ⟨bt,hbt⟩:∃b,byteV (t1,t2)=b:=⟨_,rfl⟩
    have HTN:Hid ((ts.take (n+1)).map (fun t=>(.int .u8 (byteV t):Value))=(ts.take n).map (fun t=>(.int .u8 (byteV t):Value))++ [.int .u8 bt]):=by
     show _=_
     rw [List.take_succ_eq_append_getElem hnl,List.map_append,ht,←hbt]
     rfl
    have hby:∀x,Calls Tryz.prog 44 #[.agg #[.int .i64 t1, .int .i64 t2]] x fun e w'=>e= .returned (.int .u8 bt)∧Below x.heap.size x w':=fun x=>by have h:=byte_c (t1,t2) x;rw [hbt] at h;exact h
    have HBY:=Lib.hid hby
    clear hrz q0 q1 ht hbt hby
    go_upto_region 37 with fail
    have HKa:Hid (Keep (fun k=>k < B6) W5b (wz.alloc (.cells #[.int .i64 t1, .int .i64 t2] tTone))):=HKz.out.trans (Keep.alloc _ _ _)
    have HYa:Hid ((wz.alloc (.cells #[.int .i64 t1, .int .i64 t2] tTone)).ownsRow B6 5 1 (.slice py n cy) n ((ts.take n).map fun t=> .int .u8 (byteV t))):=HYz.out.alloc _
    have HVa:Hid ((wz.alloc (.cells #[.int .i64 t1, .int .i64 t2] tTone)).heap[wz.heap.size]?=some (.cells #[.int .i64 t1, .int .i64 t2] tTone)):=alloc_new _ _
    have HBa:Hid (B6≤(wz.alloc (.cells #[.int .i64 t1, .int .i64 t2] tTone)).heap.size):=Nat.le_trans HBz.out (bel_alloc _ _).size
    clear c0 c1 HKz HYz HBz
    generalize wz.alloc (.cells #[.int .i64 t1, .int .i64 t2] tTone)=Wa at HKa HYa HVa HBa⊢
    obtain ⟨d0,d1⟩:=pt_at2 HVa.out
    go_upto_region 38 with (first
     |(go_at_call 44;(with_reducible refine (HBY.out _).mono ?_);rintro e w6 ⟨rfl,hb6⟩;have hsz6:=hb6.size;have hBz:=HBa.out;have HXO:World.ownsRow (w6.alloc (.cells #[.int .u8 bt] 5)) B6 5 1 (.slice py n cy) n ((ts.take n).map fun t=> .int .u8 (byteV t)):=(row_below HYa.out hb6).alloc _)
     |(at_builtin;refine wpList_append_lies _ rfl _ _ _ rfl B6 5 i1 (.int .u8 0) 1 1 Tryz.underlying52 HJ.out.1 HJ.out.2.1 HJ.out.2.2.1 HJ.out.2.2.2 rfl (by omega) (.slice py n cy) n _ (by rfl) HXO ⟨w6.heap.size,0,none⟩ 1 1 [.int .u8 bt] (by rfl) (by rfl) (World.news_of_block (cs:= #[.int .u8 bt]) (t:=5) (fr:=(0,0)) (heap_alloc_new w6 _)) (by simp [Value.oneCell']) (by omega) (by unfold maxLen;omega) (by omega) (by simp;omega) (w6.heap.size+1) (by simp) ?_;intro gg cap2 w7 hown hgrow hat hltt))
    have HK7:Hid (Keep (fun k=>k < B6) W5b w7):=((HKa.out.trans (Keep.of_below hb6)).trans (Keep.alloc _ w6 (.cells #[.int .u8 bt] 5))).trans (Keep.grown hgrow (fun k e hk=>Nat.not_lt_of_le (HXO.lt k e).1 hk))
    have HY7:Hid (w7.ownsRow B6 5 1 (.slice (some ⟨gg,0,none⟩) (n+1) cap2) (n+1) ((ts.take (n+1)).map fun t=> .int .u8 (byteV t))):=by rw [HTN.out];exact hown
    clear hown hgrow hat hltt HXO hb6 hsz6 hBz d0 d1 HKa HYa HVa
    go_wp2_with fail
    go_round <;> first | exact ⟨n+1,_,_,rfl,by omega,by go_num,rfl,HK7.out,HY7.out⟩|(simp [intOf] <;> omega)
   ·have hne:n=N3:=by omega
    subst hne
    have HMz:Hid (ReM w D #[.int .i64 vx, .int .i64 vy, .int .i64 vp, .int .i64 (nw:Int), .int .i64 (nh:Int), .int .i64 vd, .slice pl nl cl, .slice pd 0 cd, .int .i64 k0, .int .i64 k1, .int .i64 k2, .int .i64 ob, .int .i64 st] wz):=HMb.out.keep HDw.out HB6.out.1 HKz.out
    have HYf:Hid (wz.ownsRow B6 5 1 (.slice py n cy) n (ts.map fun t=> .int .u8 (byteV t))):=by have h:=HYz.out;rw [←HTk.out.1,List.take_length] at h;rw [←HTk.out.1];exact h
    obtain ⟨_,_,_,j3,j4,_,_,_,_,_,_,_,_⟩:=jb_at HMz.out.j
    have x0:=cell_of (i:=0) HMz.out.im rfl
    have x1:=cell_of (i:=1) HMz.out.im rfl
    have x2:=cell_of (i:=2) HMz.out.im rfl
    have x3:=cell_of (i:=3) HMz.out.im rfl
    obtain ⟨f0,f1,f2,f3⟩:=ft_at HMz.out.ft
    have hfi:=fun i=>cells_f0 HMz.out.im i
    have hff:=fun i=>cells_f0 HMz.out.ft i
    have hne1:D+1+1≠D+1:=by omega
    have hne2:D+1≠D+1+1:=by omega
    have hfin:=fin8 HMz.out HDw.out (.int .i64 (nw:Int)) (.int .i64 (nh:Int)) (.bool true) (.slice py n cy) (.int .i64 0) (.int .i64 0) (.int .i64 0) (.int .i64 0)
    go_wp2_with fail
    generalize ((((((((wz.setCell ⟨D+1,0,none⟩ (.int .i64 (nw:Int))).setCell ⟨D+1,1,none⟩ (.int .i64 (nh:Int))).setCell ⟨D+1,2,none⟩ (.bool true)).setCell ⟨D+1,3,none⟩ (.slice py n cy)).setCell ⟨D+1+1,0,none⟩ (.int .i64 0)).setCell ⟨D+1+1,1,none⟩ (.int .i64 0)).setCell ⟨D+1+1,2,none⟩ (.int .i64 0)).setCell ⟨D+1+1,3,none⟩ (.int .i64 0))=W12 at hfin⊢
    obtain ⟨q1,q2,q3,q4⟩:=hfin
    obtain ⟨e0,e1,e2,e3⟩:=ft_at q1
    obtain ⟨f0,f1,f2,f3⟩:=ft_at q2
    rw [←HTK.out]
    have hY9:W12.ownsRow w.heap.size 5 1 (.slice py ts.length cy) ts.length (ts.map fun t=> .int .u8 (byteV t)):=by
     rw [HTk.out.1]
     refine own_base (row_keep HYf.out q4 (fun k e=>?_)) (by have:=HB6.out.1;have:=HDD.out;omega)
     have h1:=(HYf.out.lt k e).1
     have h2:=HB6.out.1
     exact ⟨by omega,by omega⟩
    refine bodyPost_ret (v:= .tuple #[.agg #[.int .i64 (nw:Int), .int .i64 (nh:Int), .bool true, .slice py n cy],ftV 0 0 0 0]) (by simp [results,Tryz.results20,go_sem,e0,e1,e2,e3,f0,f1,f2,f3]) rfl ⟨q3,py,cy,?_,hY9⟩
    rw [HTk.out.1]
end Go.Proofs.YtfldplmgkeiimaaGreatDoor.VW
