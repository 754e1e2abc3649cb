/-
  Several texts of this proof in one: Zx, Zy, BoardGreysW, BoardGreysC.
-/
import Derived.Test.YtfldplmgkeiimaaGreatDoorQ43
import Derived.ProofKit
set_option linter.unusedVariables false
set_option linter.unusedSimpArgs false
namespace Go.Proofs.YtfldplmgkeiimaaGreatDoor.BG
open Go.RowKit Go.Proofs.YtfldplmgkeiimaaGreatDoor.Vp Go.Proofs.YtfldplmgkeiimaaGreatDoor.VW
abbrev hd:List UInt8:= [37,70,83,76,65,88,50,54,89,50,54,42,37,37,77,79,77,77,42,37,71,51,54,42,88,48,89,45,56,68,48,50,42,88]
abbrev tl:List UInt8:= [68,48,49,42,89,56,48,48,68,48,49,42,88,48,68,48,49,42,89,45,56,68,48,49,42,71,51,55,42,77,48,50,42]
def tx (a:Nat):List UInt8:=hd++ [UInt8.ofNat (48+a / 100),UInt8.ofNat (48+a / 10 % 10),UInt8.ofNat (48+a % 10)] ++tl
def obA (a:Nat):List Ob:= [(true,⟨⟨2,(0,0),(0,0),(0,0),0, [[(0,-80),(10 *(a:Int),-80),(10 *(a:Int),8000),(0,8000)]]⟩, .nil⟩)]
theorem upto {p:Nat→Bool} {n a:Nat} (h:(List.range n).all p=true) (ha:a < n):p a=true:=List.all_eq_true.1 h a (List.mem_range.2 ha)
theorem files:(List.range 128).all (fun a=>decide (fileV (tx a) 9=(obA a,0,0)))=true:=by decide+kernel
theorem runs:(List.range 128).all (fun a=>runR ((Go.Proofs.YtfldplmgkeiimaaGreatDoor.Gp.parseG (tx a)).1.map Prod.snd) (pl0 9) && decide ((Go.Proofs.YtfldplmgkeiimaaGreatDoor.Gp.parseG (tx a)).1.length≤500000))=true:=by decide+kernel
theorem file {a:Nat} (h:a < 128):fileV (tx a) 9=(obA a,0,0):=of_decide_eq_true (upto files h)
theorem len (a:Nat):(tx a).length=70:=rfl
theorem fileOk {a:Nat} (h:a < 128) (t:ByteArray) (ht:t.data.toList=tx a):FileOk t 9:=by
 have h1:=upto runs h
 simp only [Bool.and_eq_true,decide_eq_true_eq] at h1
 refine ⟨?_,by rw [ht];exact h1.1,by rw [ht];exact h1.2⟩
 have h2:t.data.toList.length=70:=by rw [ht];exact len a
 have h3:t.size=70:=h2
 omega
theorem fine (a:Nat):∀x∈obA a,Plain x.2∧Nice x.2:=by
 intro x hx
 unfold obA at hx
 rw [List.mem_singleton.1 hx]
 refine ⟨⟨rfl,fun c hc=>?_⟩,rfl, .inr rfl⟩
 rw [List.mem_singleton.1 hc]
 exact Nat.zero_lt_succ _
def one (a:Int) (n cells:Int) (i:Nat) (c:Int × Int):Bool:=
 decide (c.1 *160≤min (max (10 *a - 160 *(i:Int)) 0) 160 *n) && decide (min (max (10 *a - 160 *(i:Int)) 0) 160 *n≤c.2 *160) &&
 (decide (160 *((i:Int)+1)< 10 *a→0 < i→greyV c cells=255)) && decide (10 *a < 160 *(i:Int)→greyV c cells=0) && decide (0≤c.1∧c.1≤4096∧0≤c.2∧c.2≤4096)
def good (a:Nat) (d n:Int):CvR→Bool
 |⟨some cv,_,_,_,_,_⟩=>decide (cv.length=8) && (List.range 8).all fun i=>one a n n i (cv.getD i (0,0))
 | _=>false
theorem g0:(List.range 128).all (fun a=>good a 0 1 (coverK 0 ⟨0,0,160,8,1,0⟩ 9999 (obA a,0,0)))=true:=by decide+kernel
theorem g1:(List.range 128).all (fun a=>good a 1 4 (coverK 0 ⟨0,0,160,8,1,1⟩ 9999 (obA a,0,0)))=true:=by decide+kernel
theorem g2:(List.range 128).all (fun a=>good a 2 16 (coverK 0 ⟨0,0,160,8,1,2⟩ 9999 (obA a,0,0)))=true:=by decide+kernel
theorem g3:(List.range 128).all (fun a=>good a 3 64 (coverK 0 ⟨0,0,160,8,1,3⟩ 9999 (obA a,0,0)))=true:=by decide+kernel
theorem cells0:cellsV ⟨0,0,160,8,1,0⟩=1∧cellsV ⟨0,0,160,8,1,1⟩=4∧cellsV ⟨0,0,160,8,1,2⟩=16∧cellsV ⟨0,0,160,8,1,3⟩=64:=by decide+kernel
end Go.Proofs.YtfldplmgkeiimaaGreatDoor.BG
namespace Go.Proofs.YtfldplmgkeiimaaGreatDoor.VW
open Go.RowKit Go.Proofs.YtfldplmgkeiimaaGreatDoor.Vp
def GrOut (w:World) (vw vh:Int) (bs:List Int) (e:Ending) (w':World):Prop:=Below w.heap.size w w'∧∃q cp,e= .returned (.tuple #[.agg #[.int .i64 vw, .int .i64 vh, .bool false, .slice q bs.length cp],ftV 0 0 0 0])∧w'.ownsRow w.heap.size 5 1 (.slice q bs.length cp) bs.length (bs.map (Value.int .u8))
theorem CoOut.yes {w:World} {l:List Cv} {a b c d m:Int} {e:Ending} {w':World} (h:CoOut w ⟨some l,a,b,c,d,m⟩ e w'):∃sv,e= .returned (.tuple #[sv,ftV 0 0 0 0])∧CvsIn (fun k=>w.heap.size≤k) w' sv l:=h.2
set_option maxRecDepth 100000 in
set_option maxHeartbeats 25600000 in
theorem Grey_ok (S:Nat→Prop) (vx vy vp:Int) (nw nh:Nat) (vd:Int) (ls:List Ly) (pl:Option Addr) (nl cl:Nat) (hn:nl=ls.length) (pd:Option Addr) (cd:Nat) (k0 k1 k2 ob st:Int) (k:Nat) (hjob:jobOk ⟨vx,vy,vp,nw,nh,vd⟩ ls 0 k0 k1 k2=true) (t:ByteArray) (lr lg lb al:Int) (hy:ls[k]?=some ⟨t,lr,lg,lb,al,false⟩) (hok:FileOk t ob) (o:List Ob) (i f:Nat) (hfile:fileV t.data.toList ob=(o,i,f)) (hpl:∀x∈o,Plain x.2∧Nice x.2) (w:World) (H:Hid (LysIn S w pl ls)) (cv:List Cv) (m9:Int) (hr:Hid (coverK k ⟨vx,vy,vp,nw,nh,vd⟩ (max 0 (min st 100000000)) (o,i,f)=⟨some cv,0,0,0,0,m9⟩)) (hc0:0 < cv.length) (hc1:cv.length≤65536):
  Calls Tryz.prog 32 #[.agg #[.int .i64 vx, .int .i64 vy, .int .i64 vp, .int .i64 (nw:Int), .int .i64 (nh:Int), .int .i64 vd, .slice pl nl cl, .slice pd 0 cd, .int .i64 k0, .int .i64 k1, .int .i64 k2, .int .i64 ob, .int .i64 st], .int .i64 (k:Int)] w fun e w'=>GrOut w nw nh (cv.map fun c=>greyV c (cellsV ⟨vx,vy,vp,nw,nh,vd⟩)) e w':=by
 have hv:viewOk ⟨vx,vy,vp,nw,nh,vd⟩=true:=by have h:=hjob;unfold jobOk at h;rw [Bool.and_eq_true] at h;exact h.1
 have hcov:∀W,Below w.heap.size w W→Calls Tryz.prog 16 #[.agg #[.int .i64 vx, .int .i64 vy, .int .i64 vp, .int .i64 (nw:Int), .int .i64 (nh:Int), .int .i64 vd, .slice pl nl cl, .slice pd 0 cd, .int .i64 k0, .int .i64 k1, .int .i64 k2, .int .i64 ob, .int .i64 st], .int .i64 (k:Int)] W fun e w'=>CoOut W ⟨some cv,0,0,0,0,m9⟩ e w':=fun W hW=>Cover_ok S vx vy vp nw nh vd ls pl nl cl hn pd cd k0 k1 k2 ob st k hjob t lr lg lb al hy hok o i f hfile hpl W (Lib.hid (H.out.below hW)) _ hr
 have HCO:=Lib.hid hcov
 obtain ⟨CE,hCE⟩:∃c,cellsV ⟨vx,vy,vp,nw,nh,vd⟩=c:=⟨_,rfl⟩
 have hcel:∀W,Calls Tryz.prog 42 #[.agg #[.int .i64 vx, .int .i64 vy, .int .i64 vp, .int .i64 (nw:Int), .int .i64 (nh:Int), .int .i64 vd]] W fun e w'=>e= .returned (.int .i64 CE)∧Below W.heap.size W w':=fun W=>by rw [←hCE];exact cells_c ⟨vx,vy,vp,nw,nh,vd⟩ hv W
 have HCL:=Lib.hid hcel
 rw [hCE]
 clear hCE hcel
 clear hcov hjob hy hok hfile hpl hr hn hv H
 go_enter Tryz.func32,Tryz.ntmps32
 go_upto_region 1 with fail
 obtain ⟨W,hW⟩:∃W,((w.alloc (.cells #[.int .i64 vx, .int .i64 vy, .int .i64 vp, .int .i64 (nw:Int), .int .i64 (nh:Int), .int .i64 vd, .slice pl nl cl, .slice pd 0 cd, .int .i64 k0, .int .i64 k1, .int .i64 k2, .int .i64 ob, .int .i64 st] tJb)).alloc (.cells #[.int .i64 0, .int .i64 0, .bool false, .slice none 0 0] tIm)).alloc (.cells #[.int .i64 0, .int .i64 0, .int .i64 0, .int .i64 0] tFt)=W:=⟨_,rfl⟩
 have s1:(w.alloc (.cells #[.int .i64 vx, .int .i64 vy, .int .i64 vp, .int .i64 (nw:Int), .int .i64 (nh:Int), .int .i64 vd, .slice pl nl cl, .slice pd 0 cd, .int .i64 k0, .int .i64 k1, .int .i64 k2, .int .i64 ob, .int .i64 st] tJb)).heap.size=w.heap.size+1:=Array.size_push _
 have s2:((w.alloc (.cells #[.int .i64 vx, .int .i64 vy, .int .i64 vp, .int .i64 (nw:Int), .int .i64 (nh:Int), .int .i64 vd, .slice pl nl cl, .slice pd 0 cd, .int .i64 k0, .int .i64 k1, .int .i64 k2, .int .i64 ob, .int .i64 st] tJb)).alloc (.cells #[.int .i64 0, .int .i64 0, .bool false, .slice none 0 0] tIm)).heap.size=w.heap.size+1+1:=(Array.size_push _).trans (congrArg (· +1) s1)
 have HM:Hid (ReM w w.heap.size #[.int .i64 vx, .int .i64 vy, .int .i64 vp, .int .i64 (nw:Int), .int .i64 (nh:Int), .int .i64 vd, .slice pl nl cl, .slice pd 0 cd, .int .i64 k0, .int .i64 k1, .int .i64 k2, .int .i64 ob, .int .i64 st] W):=by
  have a1:=alloc_new (w.alloc (.cells #[.int .i64 vx, .int .i64 vy, .int .i64 vp, .int .i64 (nw:Int), .int .i64 (nh:Int), .int .i64 vd, .slice pl nl cl, .slice pd 0 cd, .int .i64 k0, .int .i64 k1, .int .i64 k2, .int .i64 ob, .int .i64 st] tJb)) (.cells #[.int .i64 0, .int .i64 0, .bool false, .slice none 0 0] tIm)
  rw [s1] at a1
  have a2:=alloc_new ((w.alloc (.cells #[.int .i64 vx, .int .i64 vy, .int .i64 vp, .int .i64 (nw:Int), .int .i64 (nh:Int), .int .i64 vd, .slice pl nl cl, .slice pd 0 cd, .int .i64 k0, .int .i64 k1, .int .i64 k2, .int .i64 ob, .int .i64 st] tJb)).alloc (.cells #[.int .i64 0, .int .i64 0, .bool false, .slice none 0 0] tIm)) (.cells #[.int .i64 0, .int .i64 0, .int .i64 0, .int .i64 0] tFt)
  rw [s2,hW] at a2
  refine ⟨?_,?_,?_,a2⟩
  ·rw [←hW];exact (bel_alloc _ _).trans (((bel_alloc _ _).trans ((bel_alloc _ _).mono (bel_alloc _ _).size)).mono (bel_alloc _ _).size)
  ·rw [←hW];exact one_below (one_below (alloc_new w _) (bel_alloc _ _)) (bel_alloc _ _)
  ·rw [←hW];exact one_below a1 (bel_alloc _ _)
 rw [hW]
 clear hW s1 s2
 obtain ⟨D,hD⟩:∃D,w.heap.size=D:=⟨_,rfl⟩
 have HDD:=Lib.hid hD
 have HDw:Hid (w.heap.size≤D):=Nat.le_of_eq hD
 rw [hD] at HM⊢
 clear hD
 obtain ⟨j0,j1,j2,j3,j4,j5,j6,j7,j8,j9,j10,j11,j12⟩:=jb_at HM.out.j
 have hcov:=HCO.out W HM.out.bel
 go_upto_region 2 with (go_at_call 16;(with_reducible refine hcov.mono ?_);intro e W2 hr;have hb2:Below W.heap.size W W2:=hr.1;obtain ⟨sv,rfl,hcv⟩:=CoOut.yes hr)
 have HM3:Hid (ReM w D #[.int .i64 vx, .int .i64 vy, .int .i64 vp, .int .i64 (nw:Int), .int .i64 (nh:Int), .int .i64 vd, .slice pl nl cl, .slice pd 0 cd, .int .i64 k0, .int .i64 k1, .int .i64 k2, .int .i64 ob, .int .i64 st] (W2.alloc (.cells #[.int .i64 0, .int .i64 0, .int .i64 0, .int .i64 0] tFt))):=(HM.out.below hb2).below (bel_alloc _ _)
 have HF3:Hid ((W2.alloc (.cells #[.int .i64 0, .int .i64 0, .int .i64 0, .int .i64 0] tFt)).heap[W2.heap.size]?=some (.cells #[.int .i64 0, .int .i64 0, .int .i64 0, .int .i64 0] tFt)):=alloc_new _ _
 have HC3:Hid (∃B9,(W2.alloc (.cells #[.int .i64 0, .int .i64 0, .int .i64 0, .int .i64 0] tFt)).ownsRow B9 tCov 2 sv cv.length (cvsV cv)):=by obtain ⟨B9,h9,_⟩:=hcv;exact ⟨B9,h9.alloc _⟩
 clear hr hb2 hcv hcov j0 j1 j2 j3 j4 j5 j6 j7 j8 j9 j10 j11 j12 HM
 generalize W2.alloc (.cells #[.int .i64 0, .int .i64 0, .int .i64 0, .int .i64 0] tFt)=W3 at HM3 HF3 HC3⊢
 obtain ⟨F,hF⟩:∃F,W2.heap.size=F:=⟨_,rfl⟩
 rw [hF] at HF3⊢
 clear hF
 obtain ⟨n,hnc⟩:∃n,cv.length=n:=⟨_,rfl⟩
 have HNC:=Lib.hid hnc
 obtain ⟨B9,hrow9⟩:=HC3.out
 obtain ⟨gc,ccv,rfl,_,hglt⟩:=hrow9.form hc0
 rw [hnc] at hrow9 hc0 hc1⊢
 have HCV:=Lib.hid hrow9
 have HGL:=Lib.hid hglt
 clear hrow9 HC3 hnc hglt
 have z3:=cell_of (i:=3) HF3.out rfl
 obtain ⟨j0,j1,j2,j3,j4,j5,j6,j7,j8,j9,j10,j11,j12⟩:=jb_at HM3.out.j
 have hcel:=HCL.out W3
 go_upto_region 5 with (go_at_call 42;(with_reducible refine hcel.mono ?_);rintro e W4 ⟨rfl,hb4⟩)
 have HM4:=Lib.hid (HM3.out.below hb4)
 have HC4:=Lib.hid (row_below HCV.out hb4)
 have HG4:Hid (gc < W4.heap.size):=Nat.lt_of_lt_of_le HGL.out hb4.size
 clear hcel hb4 z3 j0 j1 j2 j3 j4 j5 j6 j7 j8 j9 j10 j11 j12 HM3 HCV HGL HF3
 obtain ⟨i1,hi,hz0,hz1,hz2⟩:=info_parts info_u8
 have HJ:=Lib.hid (And.intro hi (And.intro hz0 (And.intro hz1 hz2)))
 clear hi hz0 hz1 hz2
 have HCN:Hid (0≤n):=Nat.zero_le _
 go_upto_region 6 with (first |(refine wpList_make_own _ rfl _ _ _ rfl W4.heap.size 5 i1 (.int .u8 0) 1 Tryz.underlying52 HJ.out.1 HJ.out.2.1 HJ.out.2.2.1 .i64 .i64 (n:Int) n (by rfl) (by rfl) (by rfl) (by rw [HJ.out.2.2.2];omega) (by unfold maxLen;omega) (Nat.le_refl _) ?_;intro W5b hown hgr5))
 have HMb:=Lib.hid (HM4.out.below (below_grown hgr5))
 have HRb:Hid (W5b.ownsRow B9 tCov 2 (.slice (some ⟨gc,0,none⟩) n ccv) n (cvsV cv)):=row_below HC4.out (below_grown hgr5)
 obtain ⟨B6,hB6⟩:∃B,W4.heap.size=B:=⟨_,rfl⟩
 rw [hB6] at hown⊢
 have HB6:Hid (D+1+1 < B6∧gc < B6∧B6≤W5b.heap.size):=⟨by rw [←hB6];exact lt_of_heap HM4.out.ft,by rw [←hB6];exact HG4.out,by rw [←hB6];exact hgr5.size⟩
 have HY0:Hid (W5b.ownsRow B6 5 1 (.slice (some ⟨B6,0,none⟩) 0 n) 0 (((cv.map fun c=>greyV c CE).take 0).map (Value.int .u8))):=hown
 clear hown hgr5 hB6 HM4 HC4 HG4 HCN
 go_wp2_with fail
 go_loopw [9,31] (fun bv i wr=>∃(x:Nat) (tq:Value) (wz:World),wz=wr∧x≤n∧i= .int .i64 x∧bv=tq∧Hid (Keep (fun k=>k < B6) W5b wz)∧Hid (wz.ownsRow B6 5 1 tq x (((cv.map fun c=>greyV c CE).take x).map (Value.int .u8)))) (fun _ i _=>n -(intOf i).toNat)
 case atStart=>exact ⟨0,_,W5b,rfl,Nat.zero_le _,rfl,rfl, .refl _ _,HY0.out⟩
 case round=>
 obtain ⟨x,tq,wz,rfl,hx,rfl,rfl,HKz,HYz⟩:=hrel
 clear HY0
 obtain ⟨py,cy,rfl⟩:=row_form HYz.out
 have HBz:Hid (B6≤wz.heap.size):=Nat.le_trans HB6.out.2.2 HKz.out.size
 by_cases hlt:x < n
 ·have hlti:(x:Int)<(n:Int):=by omega
  have hx0:(0:Int)≤(x:Int):=by omega
  have hnl:x < cv.length:=by rw [HNC.out];exact hlt
  obtain ⟨⟨t1,t2⟩,ht⟩:∃t,cv[x]=t:=⟨_,rfl⟩
  have hrz:wz.ownsRow B9 tCov 2 (.slice (some ⟨gc,0,none⟩) n ccv) n (cvsV cv):=row_keep HRb.out HKz.out (fun k e=>by have h7:gc=k:=(by simpa [Value.ownBlock] using e);rw [←h7];exact HB6.out.2.1)
  obtain ⟨q0,q1⟩:=cvs_at hnl
  rw [ht] at q0 q1
  have c0:=(hrz.cellAt (x *2) (by omega)).trans q0
  have c1:=(hrz.cellAt (x *2+1) (by omega)).trans q1
  obtain ⟨bt,hbt⟩:∃b,greyV (t1,t2) CE=b:=⟨_,rfl⟩
  have HTN:Hid (((cv.map fun c=>greyV c CE).take (x+1)).map (Value.int .u8)=((cv.map fun c=>greyV c CE).take x).map (Value.int .u8)++ [.int .u8 bt]):=by
   show _=_
   rw [List.take_succ_eq_append_getElem (by rw [List.length_map];exact hnl),List.map_append,List.getElem_map,ht,←hbt]
   rfl
  have hby:∀y,Calls Tryz.prog 56 #[.agg #[.int .i64 t1, .int .i64 t2], .int .i64 CE] y fun e w'=>e= .returned (.int .u8 bt)∧Below y.heap.size y w':=fun y=>by have h:=grey_c (t1,t2) CE y;rw [hbt] at h;exact h
  have HBY:=Lib.hid hby
  clear hrz q0 q1 ht hbt hby
  go_upto_region 9 with fail
  have HKa:Hid (Keep (fun k=>k < B6) W5b (wz.alloc (.cells #[.int .i64 t1, .int .i64 t2] tCov))):=HKz.out.trans (Keep.alloc _ _ _)
  have HYa:Hid ((wz.alloc (.cells #[.int .i64 t1, .int .i64 t2] tCov)).ownsRow B6 5 1 (.slice py x cy) x (((cv.map fun c=>greyV c CE).take x).map (Value.int .u8))):=HYz.out.alloc _
  have HVa:Hid ((wz.alloc (.cells #[.int .i64 t1, .int .i64 t2] tCov)).heap[wz.heap.size]?=some (.cells #[.int .i64 t1, .int .i64 t2] tCov)):=alloc_new _ _
  have HBa:Hid (B6≤(wz.alloc (.cells #[.int .i64 t1, .int .i64 t2] tCov)).heap.size):=Nat.le_trans HBz.out (bel_alloc _ _).size
  clear c0 c1 HKz HYz HBz
  generalize wz.alloc (.cells #[.int .i64 t1, .int .i64 t2] tCov)=Wa at HKa HYa HVa HBa⊢
  obtain ⟨d0,d1⟩:=pt_at2 HVa.out
  go_upto_region 10 with (first
   |(go_at_call 56;(with_reducible refine (HBY.out _).mono ?_);rintro e w6 ⟨rfl,hb6⟩;have hsz6:=hb6.size;have hBz:=HBa.out;have HXO:World.ownsRow (w6.alloc (.cells #[.int .u8 bt] 5)) B6 5 1 (.slice py x cy) x (((cv.map fun c=>greyV c CE).take x).map (Value.int .u8)):=(row_below HYa.out hb6).alloc _)
   |(at_builtin;refine wpList_append_lies _ rfl _ _ _ rfl B6 5 i1 (.int .u8 0) 1 1 Tryz.underlying52 HJ.out.1 HJ.out.2.1 HJ.out.2.2.1 HJ.out.2.2.2 rfl (by omega) (.slice py x cy) x _ (by rfl) HXO ⟨w6.heap.size,0,none⟩ 1 1 [.int .u8 bt] (by rfl) (by rfl) (World.news_of_block (cs:= #[.int .u8 bt]) (t:=5) (fr:=(0,0)) (heap_alloc_new w6 _)) (by simp [Value.oneCell']) (by omega) (by unfold maxLen;omega) (by omega) (by simp;omega) (w6.heap.size+1) (by simp) ?_;intro gg cap2 w7 hown hgrow hat hltt))
  have HK7:Hid (Keep (fun k=>k < B6) W5b w7):=((HKa.out.trans (Keep.of_below hb6)).trans (Keep.alloc _ w6 (.cells #[.int .u8 bt] 5))).trans (Keep.grown hgrow (fun k e hk=>Nat.not_lt_of_le (HXO.lt k e).1 hk))
  have HY7:Hid (w7.ownsRow B6 5 1 (.slice (some ⟨gg,0,none⟩) (x+1) cap2) (x+1) (((cv.map fun c=>greyV c CE).take (x+1)).map (Value.int .u8))):=by rw [HTN.out];exact hown
  clear hown hgrow hat hltt HXO hb6 hsz6 hBz d0 d1 HKa HYa HVa
  go_wp2_with fail
  go_round <;> first | exact ⟨x+1,_,_,rfl,by omega,by go_num,rfl,HK7.out,HY7.out⟩|(simp [intOf] <;> omega)
 ·have hne:x=n:=by omega
  subst hne
  have HMz:Hid (ReM w D #[.int .i64 vx, .int .i64 vy, .int .i64 vp, .int .i64 (nw:Int), .int .i64 (nh:Int), .int .i64 vd, .slice pl nl cl, .slice pd 0 cd, .int .i64 k0, .int .i64 k1, .int .i64 k2, .int .i64 ob, .int .i64 st] wz):=HMb.out.keep HDw.out HB6.out.1 HKz.out
  have hlen:(cv.map fun c=>greyV c CE).length=x:=by rw [List.length_map];exact HNC.out
  have HYf:Hid (wz.ownsRow B6 5 1 (.slice py x cy) x ((cv.map fun c=>greyV c CE).map (Value.int .u8))):=by have h:=HYz.out;rw [List.take_of_length_le (Nat.le_of_eq hlen)] at h;exact h
  obtain ⟨_,_,_,j3,j4,_,_,_,_,_,_,_,_⟩:=jb_at HMz.out.j
  have x0:=cell_of (i:=0) HMz.out.im rfl
  have x1:=cell_of (i:=1) HMz.out.im rfl
  have x2:=cell_of (i:=2) HMz.out.im rfl
  have x3:=cell_of (i:=3) HMz.out.im rfl
  obtain ⟨f0,f1,f2,f3⟩:=ft_at HMz.out.ft
  have hfi:=fun i=>cells_f0 HMz.out.im i
  have hff:=fun i=>cells_f0 HMz.out.ft i
  have hne1:D+1+1≠D+1:=by omega
  have hne2:D+1≠D+1+1:=by omega
  have hfin:=fin8 HMz.out HDw.out (.int .i64 (nw:Int)) (.int .i64 (nh:Int)) (.bool false) (.slice py x cy) (.int .i64 0) (.int .i64 0) (.int .i64 0) (.int .i64 0)
  go_wp2_with fail
  generalize ((((((((wz.setCell ⟨D+1,0,none⟩ (.int .i64 (nw:Int))).setCell ⟨D+1,1,none⟩ (.int .i64 (nh:Int))).setCell ⟨D+1,2,none⟩ (.bool false)).setCell ⟨D+1,3,none⟩ (.slice py x cy)).setCell ⟨D+1+1,0,none⟩ (.int .i64 0)).setCell ⟨D+1+1,1,none⟩ (.int .i64 0)).setCell ⟨D+1+1,2,none⟩ (.int .i64 0)).setCell ⟨D+1+1,3,none⟩ (.int .i64 0))=W12 at hfin⊢
  obtain ⟨q1,q2,q3,q4⟩:=hfin
  obtain ⟨e0,e1,e2,e3⟩:=ft_at q1
  obtain ⟨f0,f1,f2,f3⟩:=ft_at q2
  have hY9:W12.ownsRow w.heap.size 5 1 (.slice py (cv.map fun c=>greyV c CE).length cy) (cv.map fun c=>greyV c CE).length ((cv.map fun c=>greyV c CE).map (Value.int .u8)):=by
   rw [hlen]
   refine own_base (row_keep HYf.out q4 (fun k e=>?_)) (by have:=HB6.out.1;have:=HDD.out;omega)
   have h1:=(HYf.out.lt k e).1
   have h2:=HB6.out.1
   exact ⟨by omega,by omega⟩
  refine bodyPost_ret (v:= .tuple #[.agg #[.int .i64 (nw:Int), .int .i64 (nh:Int), .bool false, .slice py x cy],ftV 0 0 0 0]) (by simp [results,Tryz.results32,go_sem,e0,e1,e2,e3,f0,f1,f2,f3]) rfl ⟨q3,py,cy,?_,hY9⟩
  rw [hlen]
end Go.Proofs.YtfldplmgkeiimaaGreatDoor.VW
namespace Go.Proofs.YtfldplmgkeiimaaGreatDoor.BoardGreys
open Go.ChangeShapes Go.WideShapes Go.ChangeAt Go.WideMaps Go.WideElems Go.RowKit
open Go.Proofs.YtfldplmgkeiimaaGreatDoor.Vp Go.Proofs.YtfldplmgkeiimaaGreatDoor.VW Go.Proofs.YtfldplmgkeiimaaGreatDoor.BG
open Go.Proofs.YtfldplmgkeiimaaGreatDoor.Mem (RB)
theorem good_cov {a:Nat} {d N:Int} {v:Vw} {m:Int} {o:List Ob} (h:good a d N (coverK 0 v m (o,0,0))=true):∃cv m9,coverK 0 v m (o,0,0)=⟨some cv,0,0,0,0,m9⟩∧cv.length=8∧∀i,i < 8→one a N N i (cv.getD i (0,0))=true:=by
 obtain ⟨⟨r,m9⟩,hx⟩:∃x,rastV o v m=x:=⟨_,rfl⟩
 cases r with
 | none=>
  have e:coverK 0 v m (o,0,0)=⟨none,1,0,0,6,m9⟩:=by unfold coverK;simp only;rw [if_neg (by decide),hx]
  rw [e] at h
  exact absurd h (by simp [good])
 | some cv=>
  have e:coverK 0 v m (o,0,0)=⟨some cv,0,0,0,0,m9⟩:=by unfold coverK;simp only;rw [if_neg (by decide),hx]
  rw [e] at h⊢
  unfold good at h
  simp only [Bool.and_eq_true,decide_eq_true_eq,List.all_eq_true,List.mem_range] at h
  exact ⟨cv,m9,rfl,h.1,h.2⟩
theorem goods {n:Nat} (hn:n < 128) {d N:Int} (hd:d=0∧N=1∨d=1∧N=4∨d=2∧N=16∨d=3∧N=64):good n d N (coverK 0 ⟨0,0,160,8,1,d⟩ 9999 (obA n,0,0))=true∧cellsV ⟨0,0,160,8,1,d⟩=N:=by
 rcases hd with ⟨rfl,rfl⟩|⟨rfl,rfl⟩|⟨rfl,rfl⟩|⟨rfl,rfl⟩
 ·exact ⟨upto g0 hn,cells0.1⟩
 ·exact ⟨upto g1 hn,cells0.2.1⟩
 ·exact ⟨upto g2 hn,cells0.2.2.1⟩
 ·exact ⟨upto g3 hn,cells0.2.2.2⟩
theorem jobG (t:ByteArray) {d:Int} (hd:0≤d∧d≤3):jobOk ⟨0,0,160,8,1,d⟩ [⟨t,0,0,0,0,false⟩] 0 0 0 0=true:=by
 rcases (show d=0∨d=1∨d=2∨d=3 by omega) with rfl | rfl | rfl | rfl <;> rfl
theorem and127 (n:Int):bits .and .i64 n 127=n % 128:=by
 have hm:(BitVec.ofInt 64 127).toNat=2 ^ 7 - 1:=by decide
 have key:(BitVec.ofInt 64 n &&& BitVec.ofInt 64 127).toNat=(n % ((2 ^ 64:Nat):Int)).toNat % 2 ^ 7:=by
  rw [BitVec.toNat_and,BitVec.toNat_ofInt,hm,Nat.and_two_pow_sub_one_eq_mod]
 show IntKind.i64.wrap ((BitVec.ofInt 64 n &&& BitVec.ofInt 64 127).toNat:Nat)=n % 128
 rw [key,IntKind.wrap_i64]
 omega
theorem and_127 (n:Int):0≤bits BinOp.and IntKind.i64 n 127∧bits BinOp.and IntKind.i64 n 127≤127:=by
 rw [Go.Proofs.YtfldplmgkeiimaaGreatDoor.BoardGreys.and127]
 omega
theorem and_3 (n:Int):0≤bits BinOp.and IntKind.i64 n 3∧bits BinOp.and IntKind.i64 n 3≤3:=by
 rw [Go.Proofs.YtfldplmgkeiimaaGreatDoor.Bits.and3]
 omega
set_option maxRecDepth 100000 in
set_option maxHeartbeats 12800000 in
theorem walk (a0:Int) (_ha0:-9223372036854775808≤a0) (_ha1:a0≤9223372036854775807) (d0:Int) (_hd0:-9223372036854775808≤d0) (_hd1:d0≤9223372036854775807) (w:World):
  Calls Tryz.prog 10 #[.int .i64 a0, .int .i64 d0] w fun e w'=>e= .returned (.bool true)∧Below w.heap.size w w':=by
 clear _ha0 _ha1 _hd0 _hd1
 go_enter Tryz.func10,Tryz.ntmps10
 go_upto_region 3 with fail
 have ha:=and_127 a0
 have hd:=and_3 d0
 generalize bits BinOp.and IntKind.i64 a0 127=a at ha⊢
 generalize bits BinOp.and IntKind.i64 d0 3=d at hd⊢
 obtain ⟨n,hn⟩:∃n:Nat,a=n:=⟨a.toNat,by omega⟩
 subst hn
 have hn7:n < 128:=by omega
 obtain ⟨b1,hb1⟩:∃b:UInt8,b.toNat=48+n / 100∧UInt8.ofNat (48+n / 100)=b:=⟨_,UInt8.toNat_ofNat_of_lt' (by show 48+n / 100 < 256;omega),rfl⟩
 obtain ⟨b2,hb2⟩:∃b:UInt8,b.toNat=48+n / 10 % 10∧UInt8.ofNat (48+n / 10 % 10)=b:=⟨_,UInt8.toNat_ofNat_of_lt' (by show 48+n / 10 % 10 < 256;omega),rfl⟩
 obtain ⟨b3,hb3⟩:∃b:UInt8,b.toNat=48+n % 10∧UInt8.ofNat (48+n % 10)=b:=⟨_,UInt8.toNat_ofNat_of_lt' (by show 48+n % 10 < 256;omega),rfl⟩
 have hRB:RB (w.alloc (.cells #[.int .u8 (48+(n:Int)/ 100), .int .u8 (48+(n:Int)/ 10 % 10), .int .u8 (48+(n:Int) % 10)] 5)) (some ⟨w.heap.size,0,none⟩) [b1,b2,b3]:=by
  have h:=alloc_new w (.cells #[.int .u8 (48+(n:Int)/ 100), .int .u8 (48+(n:Int)/ 10 % 10), .int .u8 (48+(n:Int) % 10)] 5)
  rw [show (48+(n:Int)/ 100)=(b1.toNat:Int) by rw [hb1.1];omega,show (48+(n:Int)/ 10 % 10)=(b2.toNat:Int) by rw [hb2.1];omega,show (48+(n:Int) % 10)=(b3.toNat:Int) by rw [hb3.1];omega] at h⊢
  refine RB.of fun i hi=>?_
  have hi3:i < 3:=hi
  rcases (show i=0∨i=1∨i=2 by omega) with rfl | rfl | rfl <;> exact cell_of h rfl
 have hS:=hRB.str (P:=Tryz.prog) 52 5 9 Tryz.underlying52 Tryz.underlying5 Tryz.underlying9 3 3 rfl
 clear hRB
 obtain ⟨TB,hTB⟩:∃t:ByteArray,(⟨#[37,70,83,76,65,88,50,54,89,50,54,42,37,37,77,79,77,77,42,37,71,51,54,42,88,48,89,45,56,68,48,50,42,88]⟩++⟨#[b1,b2,b3]⟩++⟨#[68,48,49,42,89,56,48,48,68,48,49,42,88,48,68,48,49,42,89,45,56,68,48,49,42,71,51,55,42,77,48,50,42]⟩:ByteArray)=t:=⟨_,rfl⟩
 have HTX:Hid (TB.data.toList=tx n):=by
  show _=_
  rw [←hTB]
  unfold tx
  rw [hb1.2,hb2.2,hb3.2]
  simp [ByteArray.data_append]
 go_upto_region 5 with fail
 obtain ⟨W,hW⟩:∃W,((w.alloc (.cells #[.int .u8 (48+(n:Int)/ 100), .int .u8 (48+(n:Int)/ 10 % 10), .int .u8 (48+(n:Int) % 10)] 5)).alloc (.cells #[.string TB, .int .i64 0, .int .i64 0, .int .i64 0, .int .i64 0, .bool false] tLy)).alloc (.cells #[.int .i64 0, .int .i64 0, .int .i64 160, .int .i64 8, .int .i64 1, .int .i64 d, .slice (some ⟨w.heap.size+1,0,none⟩) 1 1, .slice none 0 0, .int .i64 0, .int .i64 0, .int .i64 0, .int .i64 9, .int .i64 9999] tJb)=W:=⟨_,rfl⟩
 have s1:(w.alloc (.cells #[.int .u8 (48+(n:Int)/ 100), .int .u8 (48+(n:Int)/ 10 % 10), .int .u8 (48+(n:Int) % 10)] 5)).heap.size=w.heap.size+1:=Array.size_push _
 have s2:((w.alloc (.cells #[.int .u8 (48+(n:Int)/ 100), .int .u8 (48+(n:Int)/ 10 % 10), .int .u8 (48+(n:Int) % 10)] 5)).alloc (.cells #[.string TB, .int .i64 0, .int .i64 0, .int .i64 0, .int .i64 0, .bool false] tLy)).heap.size=w.heap.size+1+1:=(Array.size_push _).trans (congrArg (· +1) s1)
 have HB:Hid (Below w.heap.size w W):=by show Below _ _ _;rw [←hW];exact (bel_alloc _ _).trans (((bel_alloc _ _).trans ((bel_alloc _ _).mono (bel_alloc _ _).size)).mono (bel_alloc _ _).size)
 have HLY:Hid (W.heap[w.heap.size+1]?=some (.cells #[.string TB, .int .i64 0, .int .i64 0, .int .i64 0, .int .i64 0, .bool false] tLy)):=by show _=_;rw [←hW,←s1];exact one_below (alloc_new _ _) (bel_alloc _ _)
 have HJB:Hid (W.heap[w.heap.size+1+1]?=some (.cells #[.int .i64 0, .int .i64 0, .int .i64 160, .int .i64 8, .int .i64 1, .int .i64 d, .slice (some ⟨w.heap.size+1,0,none⟩) 1 1, .slice none 0 0, .int .i64 0, .int .i64 0, .int .i64 0, .int .i64 9, .int .i64 9999] tJb)):=by show _=_;rw [←hW,←s2];exact alloc_new _ _
 rw [hW]
 clear hW s1 s2 hS hTB hb1 hb2 hb3
 obtain ⟨D,hD⟩:∃D,w.heap.size=D:=⟨_,rfl⟩
 rw [hD] at HLY HJB⊢
 clear hD
 obtain ⟨j0,j1,j2,j3,j4,j5,j6,j7,j8,j9,j10,j11,j12⟩:=jb_at HJB.out
 obtain ⟨N,hN⟩:∃N:Int,d=0∧N=1∨d=1∧N=4∨d=2∧N=16∨d=3∧N=64:=by
  rcases (show d=0∨d=1∨d=2∨d=3 by omega) with h | h | h | h
  ·exact ⟨1, .inl ⟨h,rfl⟩⟩
  ·exact ⟨4, .inr (.inl ⟨h,rfl⟩)⟩
  ·exact ⟨16, .inr (.inr (.inl ⟨h,rfl⟩))⟩
  ·exact ⟨64, .inr (.inr (.inr ⟨h,rfl⟩))⟩
 obtain ⟨hgd,hcl⟩:=goods hn7 hN
 obtain ⟨cv,m9,hcv,hc8,hone⟩:=good_cov hgd
 have HONE:=Lib.hid hone
 have HC8:=Lib.hid hc8
 have HCL:=Lib.hid hcl
 have hcov:Calls Tryz.prog 16 #[.agg #[.int .i64 0, .int .i64 0, .int .i64 160, .int .i64 8, .int .i64 1, .int .i64 d, .slice (some ⟨D+1,0,none⟩) 1 1, .slice none 0 0, .int .i64 0, .int .i64 0, .int .i64 0, .int .i64 9, .int .i64 9999], .int .i64 (0:Int)] W fun e w'=>CoOut W ⟨some cv,0,0,0,0,m9⟩ e w':=Cover_ok (fun _=>True) 0 0 160 8 1 d [⟨TB,0,0,0,0,false⟩] (some ⟨D+1,0,none⟩) 1 1 rfl none 0 0 0 0 9 9999 0 (jobG TB hd) TB 0 0 0 0 rfl (fileOk hn7 TB HTX.out) (obA n) 0 0 (by rw [HTX.out];exact file hn7) (fine n) W (Lib.hid (lys1 HLY.out)) _ (Lib.hid hcv)
 have hgr:∀W',Below W.heap.size W W'→Calls Tryz.prog 32 #[.agg #[.int .i64 0, .int .i64 0, .int .i64 160, .int .i64 8, .int .i64 1, .int .i64 d, .slice (some ⟨D+1,0,none⟩) 1 1, .slice none 0 0, .int .i64 0, .int .i64 0, .int .i64 0, .int .i64 9, .int .i64 9999], .int .i64 (0:Int)] W' fun e w'=>GrOut W' 8 1 (cv.map fun c=>greyV c N) e w':=fun W' hb=>by
  have h:=Grey_ok (fun _=>True) 0 0 160 8 1 d [⟨TB,0,0,0,0,false⟩] (some ⟨D+1,0,none⟩) 1 1 rfl none 0 0 0 0 9 9999 0 (jobG TB hd) TB 0 0 0 0 rfl (fileOk hn7 TB HTX.out) (obA n) 0 0 (by rw [HTX.out];exact file hn7) (fine n) W' (Lib.hid (lys1 (one_below HLY.out hb))) cv m9 (Lib.hid hcv) (by omega) (by omega)
  have e:cellsV ⟨0,0,160,((8:Nat):Int),((1:Nat):Int),d⟩=N:=hcl
  rw [e] at h
  exact h
 have HGR:=Lib.hid hgr
 clear hgr hone hcv hgd hcl
 go_upto_region 6 with (first |(go_at_call 16;(with_reducible refine hcov.mono ?_);intro e W2 hr;have hb2:Below W.heap.size W W2:=hr.1;obtain ⟨sv,rfl,hcvs⟩:=CoOut.yes hr)| fail)
 have HC3:Hid (∃B9,(W2.alloc (.cells #[.int .i64 0, .int .i64 0, .int .i64 0, .int .i64 0] tFt)).ownsRow B9 tCov 2 sv cv.length (cvsV cv)):=by obtain ⟨B9,h9,_⟩:=hcvs;exact ⟨B9,h9.alloc _⟩
 have HB3:Hid (Below W.heap.size W (W2.alloc (.cells #[.int .i64 0, .int .i64 0, .int .i64 0, .int .i64 0] tFt))):=hb2.trans ((bel_alloc _ _).mono hb2.size)
 have HF3:Hid ((W2.alloc (.cells #[.int .i64 0, .int .i64 0, .int .i64 0, .int .i64 0] tFt)).heap[W2.heap.size]?=some (.cells #[.int .i64 0, .int .i64 0, .int .i64 0, .int .i64 0] tFt)):=alloc_new _ _
 clear hr hb2 hcvs hcov j0 j1 j2 j3 j4 j5 j6 j7 j8 j9 j10 j11 j12
 generalize W2.alloc (.cells #[.int .i64 0, .int .i64 0, .int .i64 0, .int .i64 0] tFt)=W3 at HC3 HB3 HF3⊢
 obtain ⟨F,hF⟩:∃F,W2.heap.size=F:=⟨_,rfl⟩
 rw [hF] at HF3⊢
 clear hF
 obtain ⟨B9,hrow9⟩:=HC3.out
 obtain ⟨gc,ccv,rfl,_,_⟩:=hrow9.form (by omega)
 rw [HC8.out] at hrow9⊢
 have HCV:=Lib.hid hrow9
 clear hrow9 HC3
 obtain ⟨j0,j1,j2,j3,j4,j5,j6,j7,j8,j9,j10,j11,j12⟩:=jb_at (one_below HJB.out HB3.out)
 have hg:=HGR.out W3 HB3.out
 have HL8:Hid ((cv.map fun c=>greyV c N).length=8):=by show _=_;rw [List.length_map];exact HC8.out
 go_upto_region 7 with (first |(go_at_call 32;(with_reducible refine hg.mono ?_);intro e W4 hr;obtain ⟨hb4,qg,cg,he,hrowg⟩:=hr;rw [HL8.out] at he hrowg;subst he)| fail)
 obtain ⟨gg,cgg,hgg,_,_⟩:=hrowg.form (by omega)
 injection hgg with hgg _ _
 subst hgg
 have hs1:(W4.alloc (.cells #[.int .i64 8, .int .i64 1, .bool false, .slice (some ⟨gg,0,none⟩) 8 cg] tIm)).heap.size=W4.heap.size+1:=Array.size_push _
 have hb5:Below W3.heap.size W3 ((W4.alloc (.cells #[.int .i64 8, .int .i64 1, .bool false, .slice (some ⟨gg,0,none⟩) 8 cg] tIm)).alloc (.cells #[.int .i64 0, .int .i64 0, .int .i64 0, .int .i64 0] tFt)):=(hb4.trans ((bel_alloc _ _).mono hb4.size)).trans ((bel_alloc _ _).mono (Nat.le_trans hb4.size (bel_alloc _ _).size))
 have HF5:=Lib.hid (one_below HF3.out hb5)
 have HC5:=Lib.hid (row_below HCV.out hb5)
 have HG5:Hid (((W4.alloc (.cells #[.int .i64 8, .int .i64 1, .bool false, .slice (some ⟨gg,0,none⟩) 8 cg] tIm)).alloc (.cells #[.int .i64 0, .int .i64 0, .int .i64 0, .int .i64 0] tFt)).ownsRow W3.heap.size 5 1 (.slice (some ⟨gg,0,none⟩) 8 cg) 8 ((cv.map fun c=>greyV c N).map (Value.int .u8))):=(hrowg.alloc _).alloc _
 have HI5:Hid (((W4.alloc (.cells #[.int .i64 8, .int .i64 1, .bool false, .slice (some ⟨gg,0,none⟩) 8 cg] tIm)).alloc (.cells #[.int .i64 0, .int .i64 0, .int .i64 0, .int .i64 0] tFt)).heap[W4.heap.size]?=some (.cells #[.int .i64 8, .int .i64 1, .bool false, .slice (some ⟨gg,0,none⟩) 8 cg] tIm)):=one_below (alloc_new _ _) (bel_alloc _ _)
 have HK5:Hid (((W4.alloc (.cells #[.int .i64 8, .int .i64 1, .bool false, .slice (some ⟨gg,0,none⟩) 8 cg] tIm)).alloc (.cells #[.int .i64 0, .int .i64 0, .int .i64 0, .int .i64 0] tFt)).heap[W4.heap.size+1]?=some (.cells #[.int .i64 0, .int .i64 0, .int .i64 0, .int .i64 0] tFt)):=by show _=_;rw [←hs1];exact alloc_new _ _
 have HB5:Hid (Below w.heap.size w ((W4.alloc (.cells #[.int .i64 8, .int .i64 1, .bool false, .slice (some ⟨gg,0,none⟩) 8 cg] tIm)).alloc (.cells #[.int .i64 0, .int .i64 0, .int .i64 0, .int .i64 0] tFt))):=(HB.out.trans (HB3.out.mono HB.out.size)).trans (hb5.mono (Nat.le_trans HB.out.size HB3.out.size))
 clear hs1 hb4 hb5 hrowg hg j0 j1 j2 j3 j4 j5 j6 j7 j8 j9 j10 j11 j12 HF3 HCV HB3 HJB HLY HB HGR
 generalize (W4.alloc (.cells #[.int .i64 8, .int .i64 1, .bool false, .slice (some ⟨gg,0,none⟩) 8 cg] tIm)).alloc (.cells #[.int .i64 0, .int .i64 0, .int .i64 0, .int .i64 0] tFt)=W5 at HF5 HC5 HG5 HI5 HK5 HB5⊢
 obtain ⟨I,hI⟩:∃I,W4.heap.size=I:=⟨_,rfl⟩
 rw [hI] at HI5 HK5⊢
 clear hI
 obtain ⟨e0,e1,e2,e3⟩:=ft_at HF5.out
 obtain ⟨f0,f1,f2,f3⟩:=ft_at HK5.out
 have i3:=cell_of (i:=3) HI5.out rfl
 go_upto_region 9 with fail
 clear e0 e1 e2 e3 f0 f1 f2 f3 i3
 go_upto_region 10 with fail
 have hshl:wrap64 (2 ^(2 *d).toNat)=N:=by rcases hN with ⟨rfl,rfl⟩|⟨rfl,rfl⟩|⟨rfl,rfl⟩|⟨rfl,rfl⟩<;> decide+kernel
 rw [hshl]
 have hNb:1≤N∧N≤64:=by omega
 clear hshl hN HCL
 go_wp2_with fail
 go_loopw [12] (fun i wr=>∃x:Nat,wr=W5∧x≤8∧i= .int .i64 x) (fun i _=>8 -(intOf i).toNat)
 case atStart=>exact ⟨0,rfl,by decide,rfl⟩
 case round=>
 obtain ⟨x,rfl,hx8,rfl⟩:=hrel
 by_cases hx:x < 8
 ·have hxi:(x:Int)< 8:=by omega
  have hx0:(0:Int)≤(x:Int):=by omega
  have hxc:x < cv.length:=by rw [HC8.out];exact hx
  obtain ⟨⟨c1,c2⟩,hc⟩:∃c,cv[x]=c:=⟨_,rfl⟩
  have hon:=HONE.out x hx
  rw [List.getD_eq_getElem?_getD,List.getElem?_eq_getElem hxc,hc] at hon
  obtain ⟨G,hG⟩:∃g,greyV (c1,c2) N=g:=⟨_,rfl⟩
  obtain ⟨P,hP⟩:∃p,min (max (10 *(n:Int) - 160 *(x:Int)) 0) 160=p:=⟨_,rfl⟩
  have hP0:0≤P∧P≤160:=by omega
  simp only [one,Option.getD_some,Bool.and_eq_true,decide_eq_true_eq,hG,hP] at hon
  obtain ⟨⟨⟨⟨o1,o2⟩,o3⟩,o4⟩,o5,o6,o7,o8⟩:=hon
  have hPN:0≤P *N∧P *N≤160 *64:=⟨Int.mul_nonneg hP0.1 (by omega),Int.le_trans (Int.mul_le_mul_of_nonneg_right hP0.2 (by omega)) (Int.mul_le_mul_of_nonneg_left hNb.2 (by decide))⟩
  obtain ⟨M,hM⟩:∃m,P *N=m:=⟨_,rfl⟩
  rw [hM] at o1 o2 hPN
  have y1:IntKind.i64.wrap (P *N)=M:=by rw [hM];exact IntWalk.i64_in _ (by omega)
  have y2:wrap64 (P *N)=M:=by rw [hM];exact (show wrap64 M=IntKind.i64.wrap M by simp [IntKind.wrap_i64,wrap64]).trans (IntWalk.i64_in _ (by omega))
  have q0:=cvs_at hxc
  rw [hc] at q0
  have v0:=(HC5.out.cellAt (x *2) (by omega)).trans q0.1
  have v1:=(HC5.out.cellAt (x *2+1) (by omega)).trans q0.2
  have v2:wr.cell? ⟨gg,x,none⟩=some (.int .u8 G):=by
   have h:=HG5.out.cellAt x (by omega)
   rw [h,List.getElem?_map,List.getElem?_map,List.getElem?_eq_getElem hxc,hc]
   show some (Value.int .u8 (greyV (c1,c2) N))=_
   rw [hG]
  have i3:=cell_of (i:=3) HI5.out rfl
  have z1:decide (M < c1 *160)=false:=decide_eq_false (by omega)
  have z2:decide (c2 *160 < M)=false:=decide_eq_false (by omega)
  clear q0 hc
  go_wp2_with fail
  all_goals (go_round <;> first | exact ⟨x+1,trivial,by omega,by go_num⟩| exact ⟨x+1,rfl,by omega,by go_num⟩|(simp [intOf] <;> omega))
 ·have hne:x=8:=by omega
  subst hne
  go_wp2_with (first |(go_at_call 31;(with_reducible refine (awake27_c _).mono ?_);rintro e W11 ⟨rfl,hb12⟩)| fail)
  go_ret
  exact ⟨rfl,HB5.out.trans (hb12.mono HB5.out.size)⟩
end Go.Proofs.YtfldplmgkeiimaaGreatDoor.BoardGreys
namespace Go.Proofs.YtfldplmgkeiimaaGreatDoor.BoardGreys
open Go.ChangeShapes Go.WideShapes Go.ChangeAt Go.RowKit
set_option maxRecDepth 100000 in
set_option maxHeartbeats 25600000 in
theorem closed:joinedFacts Tryz.pinned.checked.prog 10 Tryz.f10 Rows.boardGreysSpec Rows.boardGreysRow=true:=by
 unfold joinedFacts
 simp only [Bool.and_eq_true]
 repeat' (apply And.intro)
 all_goals (as_aux_lemma=>kernel_rfl)
end Go.Proofs.YtfldplmgkeiimaaGreatDoor.BoardGreys
