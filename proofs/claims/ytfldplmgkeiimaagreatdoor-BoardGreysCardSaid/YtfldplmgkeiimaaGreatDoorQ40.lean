/-
  Several texts of this proof in one: Zq, Zr, Zs.
-/
import Derived.Test.YtfldplmgkeiimaaGreatDoorQ39
import Derived.Test.YtfldplmgkeiimaaGreatDoorQ35
import Derived.Test.YtfldplmgkeiimaaGreatDoorQ4
set_option linter.unusedVariables false
set_option linter.unusedSimpArgs false
namespace Go.Proofs.YtfldplmgkeiimaaGreatDoor.VW
open Go.RowKit Go.Proofs.YtfldplmgkeiimaaGreatDoor.Vp
open Go.Proofs.YtfldplmgkeiimaaGreatDoor.Gp (C parseG)
set_option maxRecDepth 100000 in
set_option maxHeartbeats 12800000 in
theorem drilled0_c (vx vy vp vw vh vd:Int) (pl:Option Addr) (nl cl:Nat) (pd:Option Addr) (cd:Nat) (k0 k1 k2 ob st:Int) (w:World):
  Calls Tryz.prog 36 #[.agg #[.int .i64 vx, .int .i64 vy, .int .i64 vp, .int .i64 vw, .int .i64 vh, .int .i64 vd, .slice pl nl cl, .slice pd 0 cd, .int .i64 k0, .int .i64 k1, .int .i64 k2, .int .i64 ob, .int .i64 st]] w fun e w'=>e= .returned (.tuple #[.slice none 0 0,ftV 0 0 0 0])∧Below w.heap.size w w':=by
 go_enter Tryz.func36,Tryz.ntmps36
 go_upto_region 1 with fail
 obtain ⟨W,hW⟩:∃W,(w.alloc (.cells #[.int .i64 vx, .int .i64 vy, .int .i64 vp, .int .i64 vw, .int .i64 vh, .int .i64 vd, .slice pl nl cl, .slice pd 0 cd, .int .i64 k0, .int .i64 k1, .int .i64 k2, .int .i64 ob, .int .i64 st] tJb)).alloc (.cells #[.int .i64 0, .int .i64 0, .int .i64 0, .int .i64 0] tFt)=W:=⟨_,rfl⟩
 have HB:Hid (Below w.heap.size w W):=by show Below _ _ _;rw [←hW];exact (bel_alloc _ _).trans ((bel_alloc _ _).mono (bel_alloc _ _).size)
 have HJ:Hid (W.heap[w.heap.size]?=some (.cells #[.int .i64 vx, .int .i64 vy, .int .i64 vp, .int .i64 vw, .int .i64 vh, .int .i64 vd, .slice pl nl cl, .slice pd 0 cd, .int .i64 k0, .int .i64 k1, .int .i64 k2, .int .i64 ob, .int .i64 st] tJb)):=by show _=_;rw [←hW];exact one_below (alloc_new w _) (bel_alloc _ _)
 have HF:Hid (W.heap[w.heap.size+1]?=some (.cells #[.int .i64 0, .int .i64 0, .int .i64 0, .int .i64 0] tFt)):=by
  show _=_
  rw [←hW,show w.heap.size+1=(w.alloc (.cells #[.int .i64 vx, .int .i64 vy, .int .i64 vp, .int .i64 vw, .int .i64 vh, .int .i64 vd, .slice pl nl cl, .slice pd 0 cd, .int .i64 k0, .int .i64 k1, .int .i64 k2, .int .i64 ob, .int .i64 st] tJb)).heap.size from (Array.size_push _).symm]
  exact alloc_new _ _
 rw [hW]
 clear hW
 obtain ⟨D,hD⟩:∃D,w.heap.size=D:=⟨_,rfl⟩
 have HDD:=Lib.hid hD
 rw [hD] at HJ HF⊢
 clear hD
 have j7:=cell_of (i:=7) HJ.out rfl
 go_wp2_with fail
 clear j7
 go_loopw [4,13] (fun hv i wr=>hv= .slice none 0 0∧i= .int .i64 0∧wr=W) (fun _ _ _=>0)
 case atStart=>exact ⟨rfl,rfl,rfl⟩
 case round=>
 obtain ⟨rfl,rfl,rfl⟩:=hrel
 obtain ⟨a0,a1,a2,a3⟩:=ft_at HF.out
 have g0:=cells_f0 HF.out 0
 have g1:=cells_f0 HF.out 1
 have g2:=cells_f0 HF.out 2
 have g3:=cells_f0 HF.out 3
 go_wp2_with fail
 have HFA:Hid (((((wr.setCell ⟨D+1,0,none⟩ (.int .i64 0)).setCell ⟨D+1,1,none⟩ (.int .i64 0)).setCell ⟨D+1,2,none⟩ (.int .i64 0)).setCell ⟨D+1,3,none⟩ (.int .i64 0)).heap[D+1]?=some (.cells #[.int .i64 0, .int .i64 0, .int .i64 0, .int .i64 0] tFt)):=set4 HF.out _ _ _ _
 have HBA:Hid (Below w.heap.size w ((((wr.setCell ⟨D+1,0,none⟩ (.int .i64 0)).setCell ⟨D+1,1,none⟩ (.int .i64 0)).setCell ⟨D+1,2,none⟩ (.int .i64 0)).setCell ⟨D+1,3,none⟩ (.int .i64 0))):=(((HB.out.setCell (p:=⟨D+1,0,none⟩) (by have:=HDD.out;show _≤D+1;omega) _).setCell (p:=⟨D+1,1,none⟩) (by have:=HDD.out;show _≤D+1;omega) _).setCell (p:=⟨D+1,2,none⟩) (by have:=HDD.out;show _≤D+1;omega) _).setCell (p:=⟨D+1,3,none⟩) (by have:=HDD.out;show _≤D+1;omega) _
 clear a0 a1 a2 a3 g0 g1 g2 g3
 generalize (((wr.setCell ⟨D+1,0,none⟩ (.int .i64 0)).setCell ⟨D+1,1,none⟩ (.int .i64 0)).setCell ⟨D+1,2,none⟩ (.int .i64 0)).setCell ⟨D+1,3,none⟩ (.int .i64 0)=W9 at HFA HBA⊢
 obtain ⟨e0,e1,e2,e3⟩:=ft_at HFA.out
 exact bodyPost_ret (v:= .tuple #[.slice none 0 0,ftV 0 0 0 0]) (by simp [results,Tryz.results36,go_sem,e0,e1,e2,e3]) rfl ⟨rfl,HBA.out⟩
structure CoM (D:Nat) (jb:Array Value) (v0 v1 v2 v3:Value) (x:World):Prop where
 j:x.heap[D]?=some (.cells jb tJb)
 f:x.heap[D+1]?=some (.cells #[v0,v1,v2,v3] tFt)
abbrev CoS (D:Nat) (c0 c1 c2 c3 c4 c5 c6 c7 c8 c9 c10 c11 c12:Value) (x:World):Prop:=
 x.cell? ⟨D,0,none⟩=some c0∧x.cell? ⟨D,1,none⟩=some c1∧x.cell? ⟨D,2,none⟩=some c2∧x.cell? ⟨D,3,none⟩=some c3∧x.cell? ⟨D,4,none⟩=some c4∧x.cell? ⟨D,5,none⟩=some c5∧x.cell? ⟨D,6,none⟩=some c6∧x.cell? ⟨D,7,none⟩=some c7∧x.cell? ⟨D,8,none⟩=some c8∧x.cell? ⟨D,9,none⟩=some c9∧x.cell? ⟨D,10,none⟩=some c10∧x.cell? ⟨D,11,none⟩=some c11∧x.cell? ⟨D,12,none⟩=some c12∧
 x.cell? ⟨D+1,0,none⟩=some (valAt x (D+1) 0)∧x.frozen? ⟨D+1,0,none⟩=false∧x.cell? ⟨D+1,1,none⟩=some (valAt x (D+1) 1)∧x.frozen? ⟨D+1,1,none⟩=false∧x.cell? ⟨D+1,2,none⟩=some (valAt x (D+1) 2)∧x.frozen? ⟨D+1,2,none⟩=false∧x.cell? ⟨D+1,3,none⟩=some (valAt x (D+1) 3)∧x.frozen? ⟨D+1,3,none⟩=false∧
 ∃v0 v1 v2 v3,CoM D #[c0,c1,c2,c3,c4,c5,c6,c7,c8,c9,c10,c11,c12] v0 v1 v2 v3 x
theorem cos_of {D:Nat} {c0 c1 c2 c3 c4 c5 c6 c7 c8 c9 c10 c11 c12 v0 v1 v2 v3:Value} {x:World} (h:CoM D #[c0,c1,c2,c3,c4,c5,c6,c7,c8,c9,c10,c11,c12] v0 v1 v2 v3 x):CoS D c0 c1 c2 c3 c4 c5 c6 c7 c8 c9 c10 c11 c12 x:=by
 obtain ⟨j0,j1,j2,j3,j4,j5,j6,j7,j8,j9,j10,j11,j12⟩:=jb_at h.j
 obtain ⟨a0,a1,a2,a3⟩:=ft_at h.f
 exact ⟨j0,j1,j2,j3,j4,j5,j6,j7,j8,j9,j10,j11,j12,valAt_eq a0,cells_f0 h.f 0,valAt_eq a1,cells_f0 h.f 1,valAt_eq a2,cells_f0 h.f 2,valAt_eq a3,cells_f0 h.f 3,_,_,_,_,h⟩
theorem cos_m {D:Nat} {c0 c1 c2 c3 c4 c5 c6 c7 c8 c9 c10 c11 c12:Value} {x:World} (h:CoS D c0 c1 c2 c3 c4 c5 c6 c7 c8 c9 c10 c11 c12 x):∃v0 v1 v2 v3,CoM D #[c0,c1,c2,c3,c4,c5,c6,c7,c8,c9,c10,c11,c12] v0 v1 v2 v3 x:=h.2.2.2.2.2.2.2.2.2.2.2.2.2.2.2.2.2.2.2.2.2
theorem cos_keep {D:Nat} {c0 c1 c2 c3 c4 c5 c6 c7 c8 c9 c10 c11 c12:Value} {x y:World} (hb:Below x.heap.size x y) (h:CoS D c0 c1 c2 c3 c4 c5 c6 c7 c8 c9 c10 c11 c12 x):CoS D c0 c1 c2 c3 c4 c5 c6 c7 c8 c9 c10 c11 c12 y:=by
 obtain ⟨_,_,_,_,h⟩:=cos_m h
 exact cos_of ⟨one_below h.j hb,one_below h.f hb⟩
theorem cos_keep2 {D gm:Nat} (h1:D≠gm) (h2:D+1≠gm) {c0 c1 c2 c3 c4 c5 c6 c7 c8 c9 c10 c11 c12:Value} {x y:World} (hk:Keep (fun k=>k≠gm) x y) (h:CoS D c0 c1 c2 c3 c4 c5 c6 c7 c8 c9 c10 c11 c12 x):CoS D c0 c1 c2 c3 c4 c5 c6 c7 c8 c9 c10 c11 c12 y:=by
 obtain ⟨_,_,_,_,h⟩:=cos_m h
 exact cos_of ⟨hk.get h1 h.j,hk.get h2 h.f⟩
theorem cos_set {D:Nat} {c0 c1 c2 c3 c4 c5 c6 c7 c8 c9 c10 c11 c12 u0 u1 u2 u3:Value} {x:World} (h:CoS D c0 c1 c2 c3 c4 c5 c6 c7 c8 c9 c10 c11 c12 x):CoS D c0 c1 c2 c3 c4 c5 c6 c7 c8 c9 c10 c11 c12 ((((x.setCell ⟨D+1,0,none⟩ u0).setCell ⟨D+1,1,none⟩ u1).setCell ⟨D+1,2,none⟩ u2).setCell ⟨D+1,3,none⟩ u3):=by
 obtain ⟨_,_,_,_,h⟩:=cos_m h
 exact cos_of ⟨(keep4 (S:=fun k=>k≠D+1) (fun hk=>hk rfl) _ _ _ _).get (by omega) h.j,set4 h.f _ _ _ _⟩
end Go.Proofs.YtfldplmgkeiimaaGreatDoor.VW
namespace Go.Proofs.YtfldplmgkeiimaaGreatDoor.VW
open Go.RowKit Go.Proofs.YtfldplmgkeiimaaGreatDoor.Vp
open Go.Proofs.YtfldplmgkeiimaaGreatDoor.Gp (C parseG)
def CoOut (w:World) (r:CvR) (e:Ending) (w':World):Prop:=Below w.heap.size w w'∧match r.cov with
 | none=>e= .returned (.tuple #[.slice none 0 0,ftV r.wh r.n r.at_ r.e])
 | some l=>∃sv,e= .returned (.tuple #[sv,ftV 0 0 0 0])∧CvsIn (fun k=>w.heap.size≤k) w' sv l
theorem CvOut.get {gm:Nat} {most:Int} {w:World} {r:CvR} {e:Ending} {w':World} (h:CvOut gm most w r e w'):w'.heap[gm]?=some (mtO most (most - r.m))∧Keep (fun k=>k≠gm) w w':=⟨h.1,h.2.1⟩
theorem CvOut.no {gm:Nat} {most wh n a e9 m:Int} {w:World} {e:Ending} {w':World} (h:CvOut gm most w ⟨none,wh,n,a,e9,m⟩ e w'):e= .returned (.tuple #[.slice none 0 0,ftV wh n a e9]):=h.2.2
theorem CvOut.yes {gm:Nat} {most wh n a e9 m:Int} {l:List Cv} {w:World} {e:Ending} {w':World} (h:CvOut gm most w ⟨some l,wh,n,a,e9,m⟩ e w'):∃sv,e= .returned (.tuple #[sv,ftV 0 0 0 0])∧CvsIn (fun k=>w.heap.size≤k) w' sv l:=h.2.2
set_option maxRecDepth 100000 in
set_option maxHeartbeats 12800000 in
theorem Cover_bad (S:Nat→Prop) (vx vy vp vw vh vd:Int) (ls:List Ly) (pl:Option Addr) (nl cl:Nat) (hn:nl=ls.length) (pd:Option Addr) (cd:Nat) (k0 k1 k2 ob st:Int) (k:Int) (hjob:jobOk ⟨vx,vy,vp,vw,vh,vd⟩ ls 0 k0 k1 k2=true) (hk:(nl:Int)≤k) (w:World) (H:Hid (LysIn S w pl ls)):
  Calls Tryz.prog 16 #[.agg #[.int .i64 vx, .int .i64 vy, .int .i64 vp, .int .i64 vw, .int .i64 vh, .int .i64 vd, .slice pl nl cl, .slice pd 0 cd, .int .i64 k0, .int .i64 k1, .int .i64 k2, .int .i64 ob, .int .i64 st], .int .i64 k] w fun e w'=>CoOut w ⟨none,0,0,0,1,0⟩ e w':=by
 have HJK:=Lib.hid hjob
 have HN:=Lib.hid hn
 have hk0:¬k < 0:=by omega
 clear hjob hn
 go_enter Tryz.func16,Tryz.ntmps16
 go_upto_region 1 with fail
 obtain ⟨W,hW⟩:∃W,(w.alloc (.cells #[.int .i64 vx, .int .i64 vy, .int .i64 vp, .int .i64 vw, .int .i64 vh, .int .i64 vd, .slice pl nl cl, .slice pd 0 cd, .int .i64 k0, .int .i64 k1, .int .i64 k2, .int .i64 ob, .int .i64 st] tJb)).alloc (.cells #[.int .i64 0, .int .i64 0, .int .i64 0, .int .i64 0] tFt)=W:=⟨_,rfl⟩
 have HB:Hid (Below w.heap.size w W):=by show Below _ _ _;rw [←hW];exact (bel_alloc _ _).trans ((bel_alloc _ _).mono (bel_alloc _ _).size)
 have HJ:Hid (W.heap[w.heap.size]?=some (.cells #[.int .i64 vx, .int .i64 vy, .int .i64 vp, .int .i64 vw, .int .i64 vh, .int .i64 vd, .slice pl nl cl, .slice pd 0 cd, .int .i64 k0, .int .i64 k1, .int .i64 k2, .int .i64 ob, .int .i64 st] tJb)):=by show _=_;rw [←hW];exact one_below (alloc_new w _) (bel_alloc _ _)
 have HF:Hid (W.heap[w.heap.size+1]?=some (.cells #[.int .i64 0, .int .i64 0, .int .i64 0, .int .i64 0] tFt)):=by
  show _=_
  rw [←hW,show w.heap.size+1=(w.alloc (.cells #[.int .i64 vx, .int .i64 vy, .int .i64 vp, .int .i64 vw, .int .i64 vh, .int .i64 vd, .slice pl nl cl, .slice pd 0 cd, .int .i64 k0, .int .i64 k1, .int .i64 k2, .int .i64 ob, .int .i64 st] tJb)).heap.size from (Array.size_push _).symm]
  exact alloc_new _ _
 rw [hW]
 clear hW
 obtain ⟨D,hD⟩:∃D,w.heap.size=D:=⟨_,rfl⟩
 have HDD:=Lib.hid hD
 rw [hD] at HJ HF⊢
 clear hD
 obtain ⟨j0,j1,j2,j3,j4,j5,j6,j7,j8,j9,j10,j11,j12⟩:=jb_at HJ.out
 have hval:=valid_j S vx vy vp vw vh vd ls pl nl cl HN.out pd 0 cd k0 k1 k2 ob st W (Lib.hid (H.out.below HB.out)) true HJK
 go_upto_region 2 with (go_at_call 35;(with_reducible refine hval.mono ?_);rintro e W2 ⟨rfl,hb2⟩;have j6:=cell_keep hb2 j6)
 have HB2:=Lib.hid (HB.out.trans (hb2.mono HB.out.size))
 have HF2:=Lib.hid (one_below HF.out hb2)
 obtain ⟨a0,a1,a2,a3⟩:=ft_at HF2.out
 have g0:=cells_f0 HF2.out 0
 have g1:=cells_f0 HF2.out 1
 have g2:=cells_f0 HF2.out 2
 have g3:=cells_f0 HF2.out 3
 go_wp2_with fail
 have HFA:Hid (((((W2.setCell ⟨D+1,0,none⟩ (.int .i64 0)).setCell ⟨D+1,1,none⟩ (.int .i64 0)).setCell ⟨D+1,2,none⟩ (.int .i64 0)).setCell ⟨D+1,3,none⟩ (.int .i64 1)).heap[D+1]?=some (.cells #[.int .i64 0, .int .i64 0, .int .i64 0, .int .i64 1] tFt)):=set4 HF2.out (.int .i64 0) (.int .i64 0) (.int .i64 0) (.int .i64 1)
 have HK9:Hid (Keep (fun k=>k≠D+1) W2 ((((W2.setCell ⟨D+1,0,none⟩ (.int .i64 0)).setCell ⟨D+1,1,none⟩ (.int .i64 0)).setCell ⟨D+1,2,none⟩ (.int .i64 0)).setCell ⟨D+1,3,none⟩ (.int .i64 1))):=keep4 (fun hk=>hk rfl) (.int .i64 0) (.int .i64 0) (.int .i64 0) (.int .i64 1)
 have HBA:Hid (Below w.heap.size w ((((W2.setCell ⟨D+1,0,none⟩ (.int .i64 0)).setCell ⟨D+1,1,none⟩ (.int .i64 0)).setCell ⟨D+1,2,none⟩ (.int .i64 0)).setCell ⟨D+1,3,none⟩ (.int .i64 1))):=HB2.out.trans (HK9.out.below _ HB2.out.size (fun k hk=>by have:=HDD.out;omega))
 generalize (((W2.setCell ⟨D+1,0,none⟩ (.int .i64 0)).setCell ⟨D+1,1,none⟩ (.int .i64 0)).setCell ⟨D+1,2,none⟩ (.int .i64 0)).setCell ⟨D+1,3,none⟩ (.int .i64 1)=W9 at HFA HK9 HBA⊢
 obtain ⟨e0,e1,e2,e3⟩:=ft_at HFA.out
 exact bodyPost_ret (v:= .tuple #[.slice none 0 0,ftV 0 0 0 1]) (by simp [results,Tryz.results16,go_sem,e0,e1,e2,e3]) rfl ⟨HBA.out,rfl⟩
set_option maxRecDepth 100000 in
set_option maxHeartbeats 12800000 in
theorem Cover_ok (S:Nat→Prop) (vx vy vp vw vh vd:Int) (ls:List Ly) (pl:Option Addr) (nl cl:Nat) (hn:nl=ls.length) (pd:Option Addr) (cd:Nat) (k0 k1 k2 ob st:Int) (k:Nat) (hjob:jobOk ⟨vx,vy,vp,vw,vh,vd⟩ ls 0 k0 k1 k2=true) (t:ByteArray) (lr lg lb al:Int) (hy:ls[k]?=some ⟨t,lr,lg,lb,al,false⟩) (hok:FileOk t ob) (o:List Ob) (i f:Nat) (hfile:fileV t.data.toList ob=(o,i,f)) (hpl:∀x∈o,Plain x.2∧Nice x.2) (w:World) (H:Hid (LysIn S w pl ls)) (r:CvR) (hr:Hid (coverK k ⟨vx,vy,vp,vw,vh,vd⟩ (max 0 (min st 100000000)) (o,i,f)=r)):
  Calls Tryz.prog 16 #[.agg #[.int .i64 vx, .int .i64 vy, .int .i64 vp, .int .i64 vw, .int .i64 vh, .int .i64 vd, .slice pl nl cl, .slice pd 0 cd, .int .i64 k0, .int .i64 k1, .int .i64 k2, .int .i64 ob, .int .i64 st], .int .i64 (k:Int)] w fun e w'=>CoOut w r e w':=by
 obtain ⟨hkl,_⟩:=List.getElem?_eq_some_iff.1 hy
 have hv:viewOk ⟨vx,vy,vp,vw,vh,vd⟩=true:=by have h:=hjob;unfold jobOk at h;rw [Bool.and_eq_true] at h;exact h.1
 have HJK:=Lib.hid hjob
 have HN:=Lib.hid hn
 have HALL:=Lib.hid (And.intro hv (And.intro hy (And.intro hok (And.intro hfile hpl))))
 have hk0:¬(k:Int)< 0:=by omega
 have hk1:¬(nl:Int)≤(k:Int):=by rw [hn];omega
 clear hjob hn hv hy hok hfile hpl
 go_enter Tryz.func16,Tryz.ntmps16
 go_upto_region 1 with fail
 obtain ⟨W,hW⟩:∃W,(w.alloc (.cells #[.int .i64 vx, .int .i64 vy, .int .i64 vp, .int .i64 vw, .int .i64 vh, .int .i64 vd, .slice pl nl cl, .slice pd 0 cd, .int .i64 k0, .int .i64 k1, .int .i64 k2, .int .i64 ob, .int .i64 st] tJb)).alloc (.cells #[.int .i64 0, .int .i64 0, .int .i64 0, .int .i64 0] tFt)=W:=⟨_,rfl⟩
 have HB:Hid (Below w.heap.size w W):=by show Below _ _ _;rw [←hW];exact (bel_alloc _ _).trans ((bel_alloc _ _).mono (bel_alloc _ _).size)
 have HJ:Hid (W.heap[w.heap.size]?=some (.cells #[.int .i64 vx, .int .i64 vy, .int .i64 vp, .int .i64 vw, .int .i64 vh, .int .i64 vd, .slice pl nl cl, .slice pd 0 cd, .int .i64 k0, .int .i64 k1, .int .i64 k2, .int .i64 ob, .int .i64 st] tJb)):=by show _=_;rw [←hW];exact one_below (alloc_new w _) (bel_alloc _ _)
 have HF:Hid (W.heap[w.heap.size+1]?=some (.cells #[.int .i64 0, .int .i64 0, .int .i64 0, .int .i64 0] tFt)):=by
  show _=_
  rw [←hW,show w.heap.size+1=(w.alloc (.cells #[.int .i64 vx, .int .i64 vy, .int .i64 vp, .int .i64 vw, .int .i64 vh, .int .i64 vd, .slice pl nl cl, .slice pd 0 cd, .int .i64 k0, .int .i64 k1, .int .i64 k2, .int .i64 ob, .int .i64 st] tJb)).heap.size from (Array.size_push _).symm]
  exact alloc_new _ _
 rw [hW]
 clear hW
 obtain ⟨D,hD⟩:∃D,w.heap.size=D:=⟨_,rfl⟩
 have HDD:=Lib.hid hD
 rw [hD] at HJ HF⊢
 clear hD
 obtain ⟨j0,j1,j2,j3,j4,j5,j6,j7,j8,j9,j10,j11,j12⟩:=jb_at HJ.out
 have hval:=valid_j S vx vy vp vw vh vd ls pl nl cl HN.out pd 0 cd k0 k1 k2 ob st W (Lib.hid (H.out.below HB.out)) true HJK
 go_upto_region 3 with (go_at_call 35;(with_reducible refine hval.mono ?_);rintro e W2 ⟨rfl,hb2⟩;have j6:=cell_keep hb2 j6)
 have HB2:=Lib.hid (HB.out.trans (hb2.mono HB.out.size))
 have HF2:=Lib.hid (one_below HF.out hb2)
 have HJ2:=Lib.hid (one_below HJ.out hb2)
 have HS2:Hid (D+1 < W2.heap.size):=lt_of_heap HF2.out
 clear hval hb2 j0 j1 j2 j3 j4 j5 j6 j7 j8 j9 j10 j11 j12 HB HF HJ
 obtain ⟨j0,j1,j2,j3,j4,j5,j6,j7,j8,j9,j10,j11,j12⟩:=jb_at HJ2.out
 have hdr:=drilled0_c vx vy vp vw vh vd pl nl cl pd cd k0 k1 k2 ob st W2
 go_upto_region 4 with (go_at_call 36;(with_reducible refine hdr.mono ?_);rintro e W3 ⟨rfl,hb3⟩)
 have HB3:Hid (Below w.heap.size w (W3.alloc (.cells #[.int .i64 0, .int .i64 0, .int .i64 0, .int .i64 0] tFt))):=(HB2.out.trans (hb3.mono HB2.out.size)).trans ((bel_alloc _ _).mono (Nat.le_trans HB2.out.size hb3.size))
 have HJ4:=Lib.hid (one_below (one_below HJ2.out hb3) (bel_alloc W3 (.cells #[.int .i64 0, .int .i64 0, .int .i64 0, .int .i64 0] tFt)))
 have HF4:=Lib.hid (one_below (one_below HF2.out hb3) (bel_alloc W3 (.cells #[.int .i64 0, .int .i64 0, .int .i64 0, .int .i64 0] tFt)))
 have HFL:Hid ((W3.alloc (.cells #[.int .i64 0, .int .i64 0, .int .i64 0, .int .i64 0] tFt)).heap[W3.heap.size]?=some (.cells #[.int .i64 0, .int .i64 0, .int .i64 0, .int .i64 0] tFt)):=alloc_new _ _
 have HS4:Hid (D+1 <(W3.alloc (.cells #[.int .i64 0, .int .i64 0, .int .i64 0, .int .i64 0] tFt)).heap.size):=lt_of_heap HF4.out
 clear hdr hb3 j0 j1 j2 j3 j4 j5 j6 j7 j8 j9 j10 j11 j12 HB2 HF2 HJ2 HS2
 generalize W3.alloc (.cells #[.int .i64 0, .int .i64 0, .int .i64 0, .int .i64 0] tFt)=W4 at HB3 HJ4 HF4 HFL HS4⊢
 have z3:=cell_of (i:=3) HFL.out rfl
 have HBM:Hid (Below w.heap.size w ((W4.alloc (mtO (max 0 (min st 100000000)) 0)).drew)):=(HB3.out.alloc HB3.out.size _).drew
 have HFM:=Lib.hid (one_below HF4.out (bel_alloc W4 (mtO (max 0 (min st 100000000)) 0)).drew)
 have HGm:Hid (D+1 < W4.heap.size):=HS4.out
 have hDg:D≠W4.heap.size:=by have:=HGm.out;omega
 have hDg1:D+1≠W4.heap.size:=by have:=HGm.out;omega
 have HSx:Hid (((W4.alloc (mtO (max 0 (min st 100000000)) 0)).drew).heap.size=W4.heap.size+1):=Array.size_push _
 have HCV:=Lib.hid (cover_c S vx vy vp vw vh vd HALL.out.1 ls pl nl cl HN.out pd 0 cd k0 k1 k2 ob st k t lr lg lb al HALL.out.2.1 HALL.out.2.2.1 o i f HALL.out.2.2.2.1 HALL.out.2.2.2.2 W4.heap.size (max 0 (min st 100000000)) (max 0 (min st 100000000)) ⟨by omega,Int.le_refl _,by omega⟩ ((W4.alloc (mtO (max 0 (min st 100000000)) 0)).drew) (Lib.hid (H.out.below HBM.out)) (Lib.hid (by rw [Int.sub_self];exact alloc_new W4 _)) r hr)
 have HM4:Hid (CoM D #[.int .i64 vx, .int .i64 vy, .int .i64 vp, .int .i64 vw, .int .i64 vh, .int .i64 vd, .slice pl nl cl, .slice pd 0 cd, .int .i64 k0, .int .i64 k1, .int .i64 k2, .int .i64 ob, .int .i64 st] (.int .i64 0) (.int .i64 0) (.int .i64 0) (.int .i64 0) W4):=⟨HJ4.out,HF4.out⟩
 have HS0:=Lib.hid (cos_of HM4.out)
 have HSD:=Lib.hid (cos_keep (Below.refl _ _).drew (cos_of HM4.out))
 obtain ⟨cov,wh,n9,at9,e9,m9⟩:=r
 clear hr HALL HJ4 HF4 HFL HM4 H
 cases cov with
 | none=>
  go_upto_region 6 with fail
  go_region_held3 (fun Z=>CoS D (.int .i64 vx) (.int .i64 vy) (.int .i64 vp) (.int .i64 vw) (.int .i64 vh) (.int .i64 vd) (.slice pl nl cl) (.slice pd 0 cd) (.int .i64 k0) (.int .i64 k1) (.int .i64 k2) (.int .i64 ob) (.int .i64 st) Z) (first | with_reducible exact HSD.out | with_reducible exact HS0.out | with_reducible exact cos_keep (bel_alloc _ _) (by assumption)| with_reducible exact cos_keep2 hDg hDg1 (by assumption) (by assumption)| with_reducible exact cos_set (by assumption)| assumption | fail) (first |(go_at_call 38;(with_reducible refine (newMeter_c st _).mono ?_);rintro e w7 ⟨rfl,rfl⟩)|(go_at_call 37;(with_reducible refine (HCV.out).mono ?_);intro e w8 hr7;obtain ⟨hg8,hk8⟩:=CvOut.get hr7;obtain rfl:=CvOut.no hr7)| fail)
  all_goals
   have HB8:Hid (Below w.heap.size w w8):=HBM.out.trans (hk8.below _ HBM.out.size (fun k hk=>by have:=HDD.out;have:=HGm.out;omega))
   have HF8:Hid (w8.heap[D+1]?=some (.cells #[.int .i64 0, .int .i64 0, .int .i64 0, .int .i64 0] tFt)):=hk8.get hDg1 HFM.out
   go_wp2_with fail
   have HFA:Hid (((((w8.setCell ⟨D+1,0,none⟩ (.int .i64 wh)).setCell ⟨D+1,1,none⟩ (.int .i64 n9)).setCell ⟨D+1,2,none⟩ (.int .i64 at9)).setCell ⟨D+1,3,none⟩ (.int .i64 e9)).heap[D+1]?=some (.cells #[.int .i64 wh, .int .i64 n9, .int .i64 at9, .int .i64 e9] tFt)):=set4 HF8.out (.int .i64 wh) (.int .i64 n9) (.int .i64 at9) (.int .i64 e9)
   have HK9:Hid (Keep (fun k=>k≠D+1) w8 ((((w8.setCell ⟨D+1,0,none⟩ (.int .i64 wh)).setCell ⟨D+1,1,none⟩ (.int .i64 n9)).setCell ⟨D+1,2,none⟩ (.int .i64 at9)).setCell ⟨D+1,3,none⟩ (.int .i64 e9))):=keep4 (fun hk=>hk rfl) (.int .i64 wh) (.int .i64 n9) (.int .i64 at9) (.int .i64 e9)
   have HBA:Hid (Below w.heap.size w ((((w8.setCell ⟨D+1,0,none⟩ (.int .i64 wh)).setCell ⟨D+1,1,none⟩ (.int .i64 n9)).setCell ⟨D+1,2,none⟩ (.int .i64 at9)).setCell ⟨D+1,3,none⟩ (.int .i64 e9))):=HB8.out.trans (HK9.out.below _ HB8.out.size (fun k hk=>by have:=HDD.out;omega))
   generalize (((w8.setCell ⟨D+1,0,none⟩ (.int .i64 wh)).setCell ⟨D+1,1,none⟩ (.int .i64 n9)).setCell ⟨D+1,2,none⟩ (.int .i64 at9)).setCell ⟨D+1,3,none⟩ (.int .i64 e9)=W9 at HFA HK9 HBA⊢
   obtain ⟨e0,e1,e2,e3⟩:=ft_at HFA.out
   exact bodyPost_ret (v:= .tuple #[.slice none 0 0,ftV wh n9 at9 e9]) (by simp [results,Tryz.results16,go_sem,e0,e1,e2,e3]) rfl ⟨HBA.out,rfl⟩
 | some lc=>
  go_upto_region 6 with fail
  go_region_held3 (fun Z=>CoS D (.int .i64 vx) (.int .i64 vy) (.int .i64 vp) (.int .i64 vw) (.int .i64 vh) (.int .i64 vd) (.slice pl nl cl) (.slice pd 0 cd) (.int .i64 k0) (.int .i64 k1) (.int .i64 k2) (.int .i64 ob) (.int .i64 st) Z) (first | with_reducible exact HSD.out | with_reducible exact HS0.out | with_reducible exact cos_keep (bel_alloc _ _) (by assumption)| with_reducible exact cos_keep2 hDg hDg1 (by assumption) (by assumption)| with_reducible exact cos_set (by assumption)| assumption | fail) (first |(go_at_call 38;(with_reducible refine (newMeter_c st _).mono ?_);rintro e w7 ⟨rfl,rfl⟩)|(go_at_call 37;(with_reducible refine (HCV.out).mono ?_);intro e w8 hr7;obtain ⟨hg8,hk8⟩:=CvOut.get hr7;obtain ⟨sv,rfl,hcv⟩:=CvOut.yes hr7)| fail)
  all_goals
   have HB8:Hid (Below w.heap.size w w8):=HBM.out.trans (hk8.below _ HBM.out.size (fun k hk=>by have:=HDD.out;have:=HGm.out;omega))
   have HF8:Hid (w8.heap[D+1]?=some (.cells #[.int .i64 0, .int .i64 0, .int .i64 0, .int .i64 0] tFt)):=hk8.get hDg1 HFM.out
   go_wp2_with fail
   have HFA:Hid (((((w8.setCell ⟨D+1,0,none⟩ (.int .i64 0)).setCell ⟨D+1,1,none⟩ (.int .i64 0)).setCell ⟨D+1,2,none⟩ (.int .i64 0)).setCell ⟨D+1,3,none⟩ (.int .i64 0)).heap[D+1]?=some (.cells #[.int .i64 0, .int .i64 0, .int .i64 0, .int .i64 0] tFt)):=set4 HF8.out (.int .i64 0) (.int .i64 0) (.int .i64 0) (.int .i64 0)
   have HK9:Hid (Keep (fun k=>k≠D+1) w8 ((((w8.setCell ⟨D+1,0,none⟩ (.int .i64 0)).setCell ⟨D+1,1,none⟩ (.int .i64 0)).setCell ⟨D+1,2,none⟩ (.int .i64 0)).setCell ⟨D+1,3,none⟩ (.int .i64 0))):=keep4 (fun hk=>hk rfl) (.int .i64 0) (.int .i64 0) (.int .i64 0) (.int .i64 0)
   have HBA:Hid (Below w.heap.size w ((((w8.setCell ⟨D+1,0,none⟩ (.int .i64 0)).setCell ⟨D+1,1,none⟩ (.int .i64 0)).setCell ⟨D+1,2,none⟩ (.int .i64 0)).setCell ⟨D+1,3,none⟩ (.int .i64 0))):=HB8.out.trans (HK9.out.below _ HB8.out.size (fun k hk=>by have:=HDD.out;omega))
   generalize (((w8.setCell ⟨D+1,0,none⟩ (.int .i64 0)).setCell ⟨D+1,1,none⟩ (.int .i64 0)).setCell ⟨D+1,2,none⟩ (.int .i64 0)).setCell ⟨D+1,3,none⟩ (.int .i64 0)=W9 at HFA HK9 HBA⊢
   obtain ⟨e0,e1,e2,e3⟩:=ft_at HFA.out
   obtain ⟨B9,hrow9,hro9⟩:=hcv
   refine bodyPost_ret (v:= .tuple #[sv,ftV 0 0 0 0]) (by simp [results,Tryz.results16,go_sem,e0,e1,e2,e3]) rfl ⟨HBA.out,sv,rfl,B9,row_keep hrow9 HK9.out (fun k e=>?_),fun k e=>?_⟩
   ·have h1:=hro9 k e;have h2:=HGm.out;have h3:=HSx.out;show k≠D+1;omega
   ·have h1:=hro9 k e;have h2:=HGm.out;have h3:=HSx.out;have h4:=HDD.out;show w.heap.size≤k;omega
end Go.Proofs.YtfldplmgkeiimaaGreatDoor.VW
namespace Go.Proofs.YtfldplmgkeiimaaGreatDoor.Vp
theorem rowV_in (v:Vw) (g:List Ex) (y:Nat):∀(k x:Nat) (acc:List Cv) (m:Int) (r:List Cv) (m':Int),0≤m→rowV v g y k x acc m=(some r,m')→(∀c∈acc,CvIn (4 ^ v.depth.toNat) c)→(∀c∈r,CvIn (4 ^ v.depth.toNat) c)∧r.length=acc.length+k∧0≤m'∧m'≤m
 | 0,x,acc,m,r,m',hm,h,ha=>by
  simp only [rowV,Prod.mk.injEq,Option.some.injEq] at h
  obtain ⟨rfl,rfl⟩:=h
  exact ⟨ha,rfl,hm,Int.le_refl _⟩
 | k+1,x,acc,m,r,m',hm,h,ha=>by
  unfold rowV at h
  split at h
  ·simp at h
  ·rename_i c m1 he
   obtain ⟨h1,h2,h3⟩:=examV_in _ _ _ _ _ _ he
   obtain ⟨g1,g2,g3,g4⟩:=rowV_in v g y k (x+1) (acc++ [c]) m1 r m' h2 h (fun d hd=>by
    rcases List.mem_append.1 hd with hd | hd
    ·exact ha d hd
    ·rw [List.mem_singleton.1 hd];exact h1)
   refine ⟨g1,?_,g3,by omega⟩
   rw [g2,List.length_append];simp only [List.length_singleton];omega
theorem rowsV_in (v:Vw) (g:List Ex):∀(k y:Nat) (acc:List Cv) (m:Int) (r:List Cv) (m':Int),0≤m→rowsV v g k y acc m=(some r,m')→(∀c∈acc,CvIn (4 ^ v.depth.toNat) c)→(∀c∈r,CvIn (4 ^ v.depth.toNat) c)∧r.length=acc.length+k *v.w.toNat∧0≤m'∧m'≤m
 | 0,y,acc,m,r,m',hm,h,ha=>by
  simp only [rowsV,Prod.mk.injEq,Option.some.injEq] at h
  obtain ⟨rfl,rfl⟩:=h
  exact ⟨ha,by omega,hm,Int.le_refl _⟩
 | k+1,y,acc,m,r,m',hm,h,ha=>by
  unfold rowsV at h
  split at h
  ·simp at h
  ·rename_i a m1 he
   obtain ⟨h1,h2,h3,h4⟩:=rowV_in v _ y _ 0 acc m a m1 hm he ha
   obtain ⟨g1,g2,g3,g4⟩:=rowsV_in v g k (y+1) a m1 r m' h3 h h1
   refine ⟨g1,?_,g3,by omega⟩
   rw [g2,h2,Nat.succ_mul];omega
theorem rastV_in {o:List Ob} {v:Vw} {m:Int} {r:List Cv} {m':Int} (hm:0≤m) (h:rastV o v m=(some r,m')):(∀c∈r,CvIn (4 ^ v.depth.toNat) c)∧r.length=v.h.toNat *v.w.toNat∧0≤m'∧m'≤m:=by
 obtain ⟨h1,h2,h3,h4⟩:=rowsV_in v _ _ 0 [] m r m' hm h (fun c hc=>absurd hc (by simp))
 exact ⟨h1,by simpa using h2,h3,h4⟩
abbrev Tone:=Int × Int
def overT (t:Tone) (c al:Int) (v:Cv) (cells:Int):Tone:=(leastV t c al v cells /(255 *cells),(mostV t c al v cells+255 *cells - 1)/(255 *cells))
def pix3 (y0 y1 y2 al:Int) (cells:Int) (v:Cv) (i:Nat) (ts:List Tone):List Tone:=
 let a:=ts.set (3 *i) (overT (ts.getD (3 *i) (0,0)) y0 al v cells)
 let b:=a.set (3 *i+1) (overT (a.getD (3 *i+1) (0,0)) y1 al v cells)
 b.set (3 *i+2) (overT (b.getD (3 *i+2) (0,0)) y2 al v cells)
def layAll (y0 y1 y2 al:Int) (cells:Int):List Cv→Nat→List Tone→List Tone
 | [],_,ts=>ts
 | v :: l,i,ts=>layAll y0 y1 y2 al cells l (i+1) (pix3 y0 y1 y2 al cells v i ts)
def fill3 (k0 k1 k2:Int):Nat→List Tone
 | 0=> []
 | n+1=>fill3 k0 k1 k2 n++ [startV k0,startV k1,startV k2]
def okTs (ts:List Tone):Prop:=∀t∈ts,okTone t=true
theorem okTone_iff (t:Tone):okTone t=true↔0≤t.1∧t.1≤t.2∧t.2≤16711680:=by
 unfold okTone
 simp only [Bool.and_eq_true,decide_eq_true_eq]
theorem start_ok (c:Int):okTone (startV c)=true:=by
 rw [okTone_iff]
 unfold startV
 simp only
 omega
theorem layV_in {t c al k cells:Int} (ht:0≤t∧t≤16711680) (hc:0≤c∧c≤255) (ha:0≤al∧al≤255) (hk:0≤k∧k≤cells):0≤layV t c al k cells∧layV t c al k cells≤16711680 *(255 *cells):=by
 unfold layV
 have h0:0≤al *k:=Int.mul_nonneg ha.1 hk.1
 have h1:al *k≤255 *cells:=by
  have h2:al *k≤255 *k:=Int.mul_le_mul_of_nonneg_right ha.2 hk.1
  have h3:255 *k≤255 *cells:=Int.mul_le_mul_of_nonneg_left hk.2 (by decide)
  omega
 generalize al *k=x at h0 h1⊢
 generalize 255 *cells=y at h1⊢
 have a1:0≤t *(y - x):=Int.mul_nonneg ht.1 (by omega)
 have a2:t *(y - x)≤16711680 *(y - x):=Int.mul_le_mul_of_nonneg_right ht.2 (by omega)
 have a3:0≤65536 *c *x:=Int.mul_nonneg (by omega) h0
 have a4:65536 *c *x≤16711680 *x:=Int.mul_le_mul_of_nonneg_right (by omega) h0
 have a5:16711680 *(y - x)=16711680 *y - 16711680 *x:=Int.mul_sub ..
 omega
theorem over_ok {t:Tone} {c al:Int} {v:Cv} {cells:Int} (ht:okTone t=true) (hc:0≤c∧c≤255) (ha:0≤al∧al≤255) (hv:0≤v.1∧v.1≤v.2∧v.2≤cells) (h1:1≤cells):okTone (overT t c al v cells)=true:=by
 rw [okTone_iff] at ht⊢
 have b1:=layV_in (t:=t.1) (c:=c) (al:=al) (k:=v.1) (cells:=cells) ⟨ht.1,by omega⟩ hc ha ⟨hv.1,by omega⟩
 have b2:=layV_in (t:=t.2) (c:=c) (al:=al) (k:=v.1) (cells:=cells) ⟨by omega,by omega⟩ hc ha ⟨hv.1,by omega⟩
 have b3:=layV_in (t:=t.1) (c:=c) (al:=al) (k:=v.2) (cells:=cells) ⟨ht.1,by omega⟩ hc ha ⟨by omega,by omega⟩
 have b4:=layV_in (t:=t.2) (c:=c) (al:=al) (k:=v.2) (cells:=cells) ⟨by omega,by omega⟩ hc ha ⟨by omega,by omega⟩
 have hd:0 < 255 *cells:=by omega
 have e1:0≤leastV t c al v cells∧leastV t c al v cells≤mostV t c al v cells∧mostV t c al v cells≤16711680 *(255 *cells):=by
  unfold leastV mostV
  omega
 obtain ⟨e1,e2,e3⟩:=e1
 unfold overT
 simp only
 generalize leastV t c al v cells=a at e1 e2⊢
 generalize mostV t c al v cells=b at e2 e3⊢
 generalize 255 *cells=y at hd e3⊢
 refine ⟨Int.ediv_nonneg e1 (by omega),Int.ediv_le_ediv hd (by omega),?_⟩
 have h9:(b+y - 1)/ y < 16711681:=Int.ediv_lt_of_lt_mul hd (by omega)
 exact Int.lt_add_one_iff.1 h9
theorem set_ok {ts:List Tone} (h:okTs ts) (j:Nat) {t:Tone} (ht:okTone t=true):okTs (ts.set j t):=fun x hx=>by
 rcases List.mem_or_eq_of_mem_set hx with hx | rfl
 ·exact h x hx
 ·exact ht
theorem getD_ok {ts:List Tone} (h:okTs ts) (j:Nat):okTone (ts.getD j (0,0))=true:=by
 rw [List.getD_eq_getElem?_getD]
 cases hj:ts[j]? with
 | none=>rfl
 | some t=>exact h t (List.mem_of_getElem? hj)
theorem fill3_len (k0 k1 k2:Int):∀n,(fill3 k0 k1 k2 n).length=3 *n
 | 0=>rfl
 | n+1=>by unfold fill3;rw [List.length_append,fill3_len k0 k1 k2 n];simp;omega
theorem fill3_ok (k0 k1 k2:Int):∀n,okTs (fill3 k0 k1 k2 n)
 | 0=>fun t h=>absurd h (by simp [fill3])
 | n+1=>fun t h=>by
  unfold fill3 at h
  rcases List.mem_append.1 h with h | h
  ·exact fill3_ok k0 k1 k2 n t h
  ·simp at h
   rcases h with rfl | rfl | rfl <;> exact start_ok _
end Go.Proofs.YtfldplmgkeiimaaGreatDoor.Vp
