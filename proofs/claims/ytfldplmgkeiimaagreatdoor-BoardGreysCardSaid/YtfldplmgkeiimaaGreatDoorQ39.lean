/-
  Several texts of this proof in one: Qu, Zp, Qv.
-/
import Derived.Test.YtfldplmgkeiimaaGreatDoorQ36
import Derived.Test.YtfldplmgkeiimaaGreatDoorQ6
import Derived.Test.YtfldplmgkeiimaaGreatDoorQ34
import Derived.Test.YtfldplmgkeiimaaGreatDoorQ38
set_option linter.unusedVariables false
set_option linter.unusedSimpArgs false
namespace Go.Proofs.YtfldplmgkeiimaaGreatDoor.VW
open Go.RowKit Go.Proofs.YtfldplmgkeiimaaGreatDoor.Vp
def byV (c:Int):Bool:=decide (0≤c) && decide (c≤255)
theorem isByte_c (c:Int) (f:Bool) (hf:Hid (byV c=f)) (w:World):Calls Tryz.prog 59 #[.int .i64 c] w fun e w'=>e= .returned (.bool f)∧w'=w:=by
 go_enter Tryz.func59,Tryz.ntmps59
 go_wp2_with fail
 all_goals
  go_ret
  refine ⟨ret_b (bool_eq ⟨fun h=>?_,fun h=>?_⟩ hf.out),rfl⟩<;> simp only [byV,Bool.and_eq_true,decide_eq_true_eq,Bool.false_eq_true] at h⊢<;> omega
structure Ly where
 t:ByteArray
 r:Int
 g:Int
 b:Int
 al:Int
 cu:Bool
abbrev tLy:TypeId:=35
abbrev lyVs (l:Ly):List Value:= [.string l.t, .int .i64 l.r, .int .i64 l.g, .int .i64 l.b, .int .i64 l.al, .bool l.cu]
def LysIn (S:Nat→Prop) (w:World) (p:Option Addr) (l:List Ly):Prop:=l.length≤big∧(0 < l.length→∃(k o:Nat) (cs:Array Value),p=some ⟨k,o,none⟩∧S k∧w.heap[k]?=some (.cells cs tLy)∧∀i (hi:i < l.length),(cs.toList.drop (o+i *6)).take 6=lyVs l[i])
theorem LysIn.keep {S:Nat→Prop} {w w':World} {p:Option Addr} {l:List Ly} (h:LysIn S w p l) (hk:Keep S w w'):LysIn S w' p l:=by
 refine ⟨h.1,fun hl=>?_⟩
 obtain ⟨k,o,cs,e,hS,hh,hp⟩:=h.2 hl
 exact ⟨k,o,cs,e,hS,hk.get hS hh,hp⟩
theorem LysIn.below {S:Nat→Prop} {w w':World} {p:Option Addr} {l:List Ly} (h:LysIn S w p l) (hb:Below w.heap.size w w'):LysIn S w' p l:=h.keep (.of_below hb)
theorem LysIn.at {S:Nat→Prop} {w:World} {p:Option Addr} {l:List Ly} (h:LysIn S w p l) {i:Nat} (hi:i < l.length) {y:Ly} (he:l[i]=y):
  ∃k o,p=some ⟨k,o,none⟩∧w.cell? ⟨k,o+i *6,none⟩=some (.string y.t)∧w.cell? ⟨k,o+i *6+1,none⟩=some (.int .i64 y.r)∧w.cell? ⟨k,o+i *6+2,none⟩=some (.int .i64 y.g)∧w.cell? ⟨k,o+i *6+3,none⟩=some (.int .i64 y.b)∧w.cell? ⟨k,o+i *6+4,none⟩=some (.int .i64 y.al)∧w.cell? ⟨k,o+i *6+5,none⟩=some (.bool y.cu):=by
 obtain ⟨k,o,cs,rfl,_,hh,hp⟩:=h.2 (by omega)
 have h1:=hp i hi
 rw [he] at h1
 have key:∀j,j < 6→cs[o+i *6+j]?=(lyVs y)[j]?:=by
  intro j hj
  rw [←h1,List.getElem?_take,if_pos hj,List.getElem?_drop]
  simp
 have k0:=key 0 (by decide)
 simp only [Nat.add_zero] at k0
 exact ⟨k,o,rfl,cell_of hh k0,cell_of hh (key 1 (by decide)),cell_of hh (key 2 (by decide)),cell_of hh (key 3 (by decide)),cell_of hh (key 4 (by decide)),cell_of hh (key 5 (by decide))⟩
abbrev tJb:TypeId:=32
theorem jb_at {w:World} {k:Nat} {v0 v1 v2 v3 v4 v5 v6 v7 v8 v9 v10 v11 v12:Value} {t:TypeId} (h:w.heap[k]?=some (.cells #[v0,v1,v2,v3,v4,v5,v6,v7,v8,v9,v10,v11,v12] t)):
  w.cell? ⟨k,0,none⟩=some v0∧w.cell? ⟨k,1,none⟩=some v1∧w.cell? ⟨k,2,none⟩=some v2∧w.cell? ⟨k,3,none⟩=some v3∧w.cell? ⟨k,4,none⟩=some v4∧w.cell? ⟨k,5,none⟩=some v5∧w.cell? ⟨k,6,none⟩=some v6∧w.cell? ⟨k,7,none⟩=some v7∧w.cell? ⟨k,8,none⟩=some v8∧w.cell? ⟨k,9,none⟩=some v9∧w.cell? ⟨k,10,none⟩=some v10∧w.cell? ⟨k,11,none⟩=some v11∧w.cell? ⟨k,12,none⟩=some v12:=by
 refine ⟨?_,?_,?_,?_,?_,?_,?_,?_,?_,?_,?_,?_,?_⟩<;> simp [World.cell?,h]
end Go.Proofs.YtfldplmgkeiimaaGreatDoor.VW
namespace Go.Proofs.YtfldplmgkeiimaaGreatDoor.VW
open Go.RowKit Go.Proofs.YtfldplmgkeiimaaGreatDoor.Vp
open Go.Proofs.YtfldplmgkeiimaaGreatDoor.Gp (C parseG)
abbrev tFt:TypeId:=39
abbrev ftV (a b c d:Int):Value:= .agg #[.int .i64 a, .int .i64 b, .int .i64 c, .int .i64 d]
structure CvR where
 cov:Option (List Cv)
 wh:Int
 n:Int
 at_:Int
 e:Int
 m:Int
def coverK (k:Int) (v:Vw) (m:Int):List Ob × Nat × Nat→CvR
 |(o,i,f)=>if f≠0 then ⟨none,1,k,i,f,m⟩ else match rastV o v m with
  |(none,m')=>⟨none,1,k,0,6,m'⟩
  |(some l,m')=>⟨some l,0,0,0,0,m'⟩
def CvOut (gm:Nat) (most:Int) (w:World) (r:CvR) (e:Ending) (w':World):Prop:=
 w'.heap[gm]?=some (mtO most (most - r.m))∧Keep (fun k=>k≠gm) w w'∧match r.cov with
  | none=>e= .returned (.tuple #[.slice none 0 0,ftV r.wh r.n r.at_ r.e])
  | some l=>∃sv,e= .returned (.tuple #[sv,ftV 0 0 0 0])∧CvsIn (fun k=>w.heap.size≤k) w' sv l
theorem ft_at {w:World} {k:Nat} {a b c d:Value} {t:TypeId} (h:w.heap[k]?=some (.cells #[a,b,c,d] t)):w.cell? ⟨k,0,none⟩=some a∧w.cell? ⟨k,1,none⟩=some b∧w.cell? ⟨k,2,none⟩=some c∧w.cell? ⟨k,3,none⟩=some d:=by
 refine ⟨?_,?_,?_,?_⟩<;> simp [World.cell?,h]
theorem RnOut.get {gm:Nat} {most:Int} {w:World} {r:Option (List Cv)× Int} {e:Ending} {w':World} (h:RnOut gm most w r e w'):w'.heap[gm]?=some (mtO most (most - r.2))∧Keep (fun k=>k≠gm) w w':=⟨h.1,h.2.1⟩
theorem RnOut.no {gm:Nat} {most m:Int} {w:World} {e:Ending} {w':World} (h:RnOut gm most w (none,m) e w'):e= .returned (.tuple #[.slice none 0 0, .int .i64 6]):=h.2.2
theorem RnOut.yes {gm:Nat} {most m:Int} {w:World} {l:List Cv} {e:Ending} {w':World} (h:RnOut gm most w (some l,m) e w'):∃sv,e= .returned (.tuple #[sv, .int .i64 0])∧CvsIn (fun k=>w.heap.size≤k) w' sv l:=h.2.2
structure CrM (D L gm:Nat) (jb ft ly mt:Obj) (x:World):Prop where
 j:x.heap[D]?=some jb
 f:x.heap[D+1]?=some ft
 l:x.heap[L]?=some ly
 g:x.heap[gm]?=some mt
theorem CrM.keep {S:Nat→Prop} {D L gm:Nat} {jb ft ly mt:Obj} {x y:World} (h:CrM D L gm jb ft ly mt x) (hk:Keep S x y) (h1:S D) (h2:S (D+1)) (h3:S L) (h4:S gm):CrM D L gm jb ft ly mt y:=⟨hk.get h1 h.j,hk.get h2 h.f,hk.get h3 h.l,hk.get h4 h.g⟩
theorem set4 {w:World} {k:Nat} {a b c d:Value} {t:TypeId} (h:w.heap[k]?=some (.cells #[a,b,c,d] t)) (a' b' c' d':Value):((((w.setCell ⟨k,0,none⟩ a').setCell ⟨k,1,none⟩ b').setCell ⟨k,2,none⟩ c').setCell ⟨k,3,none⟩ d').heap[k]?=some (.cells #[a',b',c',d'] t):=by
 have:=set_at (i:=3) d' (set_at (i:=2) c' (set_at (i:=1) b' (set_at (i:=0) a' h)))
 exact this
theorem keep4 {S:Nat→Prop} {w:World} {k:Nat} (h:¬S k) (a b c d:Value):Keep S w ((((w.setCell ⟨k,0,none⟩ a).setCell ⟨k,1,none⟩ b).setCell ⟨k,2,none⟩ c).setCell ⟨k,3,none⟩ d):=
 (((Keep.set (a:=⟨k,0,none⟩) h a).trans (Keep.set (a:=⟨k,1,none⟩) h b)).trans (Keep.set (a:=⟨k,2,none⟩) h c)).trans (Keep.set (a:=⟨k,3,none⟩) h d)
set_option maxRecDepth 100000 in
set_option maxHeartbeats 12800000 in
theorem cover_c (S:Nat→Prop) (vx vy vp vw vh vd:Int) (hv:viewOk ⟨vx,vy,vp,vw,vh,vd⟩=true) (ls:List Ly) (pl:Option Addr) (nl cl:Nat) (hn:nl=ls.length) (pd:Option Addr) (nd cd:Nat) (k0 k1 k2 ob st:Int) (k:Nat) (t:ByteArray) (lr lg lb al:Int) (hy:ls[k]?=some ⟨t,lr,lg,lb,al,false⟩) (hok:FileOk t ob) (o:List Ob) (i f:Nat) (hfile:fileV t.data.toList ob=(o,i,f)) (hpl:∀x∈o,Plain x.2∧Nice x.2)
  (gm:Nat) (most m:Int) (hm:0≤m∧m≤most∧most≤100000000) (w:World) (H:Hid (LysIn S w pl ls)) (HM:Hid (w.heap[gm]?=some (mtO most (most - m)))) (r:CvR) (hr:Hid (coverK k ⟨vx,vy,vp,vw,vh,vd⟩ m (o,i,f)=r)):
  Calls Tryz.prog 37 #[.agg #[.int .i64 vx, .int .i64 vy, .int .i64 vp, .int .i64 vw, .int .i64 vh, .int .i64 vd, .slice pl nl cl, .slice pd nd cd, .int .i64 k0, .int .i64 k1, .int .i64 k2, .int .i64 ob, .int .i64 st], .int .i64 (k:Int), .slice none 0 0, .pointer (some ⟨gm,0,none⟩)] w fun e w'=>CvOut gm most w r e w':=by
 obtain ⟨hk,hyk⟩:=List.getElem?_eq_some_iff.1 hy
 have HV:=Lib.hid hv
 have HOK:=Lib.hid hok
 have HFI:=Lib.hid hfile
 have HPL:=Lib.hid hpl
 have HY:=Lib.hid hyk
 have HKL:=Lib.hid hk
 have hknl:k < nl:=by rw [hn];exact hk
 have hkb:nl≤1000000000:=by rw [hn];exact H.out.1
 have hk0:(0:Int)≤(k:Int):=by omega
 have hk1:(k:Int)<(nl:Int):=by omega
 have hglt:=lt_of_heap HM.out
 clear hv hn hy hok hfile hpl hyk
 go_enter Tryz.func37,Tryz.ntmps37
 go_upto_region 1 with fail
 obtain ⟨W,hW⟩:∃W,(w.alloc (.cells #[.int .i64 vx, .int .i64 vy, .int .i64 vp, .int .i64 vw, .int .i64 vh, .int .i64 vd, .slice pl nl cl, .slice pd nd cd, .int .i64 k0, .int .i64 k1, .int .i64 k2, .int .i64 ob, .int .i64 st] tJb)).alloc (.cells #[.int .i64 0, .int .i64 0, .int .i64 0, .int .i64 0] tFt)=W:=⟨_,rfl⟩
 have HB:Hid (Below w.heap.size w W):=by show Below _ _ _;rw [←hW];exact (bel_alloc _ _).trans ((bel_alloc _ _).mono (bel_alloc _ _).size)
 have HJ:Hid (W.heap[w.heap.size]?=some (.cells #[.int .i64 vx, .int .i64 vy, .int .i64 vp, .int .i64 vw, .int .i64 vh, .int .i64 vd, .slice pl nl cl, .slice pd nd cd, .int .i64 k0, .int .i64 k1, .int .i64 k2, .int .i64 ob, .int .i64 st] tJb)):=by show _=_;rw [←hW];exact one_below (alloc_new w _) (bel_alloc _ _)
 have HF:Hid (W.heap[w.heap.size+1]?=some (.cells #[.int .i64 0, .int .i64 0, .int .i64 0, .int .i64 0] tFt)):=by
  show _=_
  rw [←hW,show w.heap.size+1=(w.alloc (.cells #[.int .i64 vx, .int .i64 vy, .int .i64 vp, .int .i64 vw, .int .i64 vh, .int .i64 vd, .slice pl nl cl, .slice pd nd cd, .int .i64 k0, .int .i64 k1, .int .i64 k2, .int .i64 ob, .int .i64 st] tJb)).heap.size from (Array.size_push _).symm]
  exact alloc_new _ _
 rw [hW]
 clear hW
 obtain ⟨D,hD⟩:∃D,w.heap.size=D:=⟨_,rfl⟩
 have HDD:=Lib.hid hD
 rw [hD] at HJ HF hglt⊢
 clear hD
 obtain ⟨kb,ko,rfl,y0,y1,y2,y3,y4,y5⟩:=(H.out.below HB.out).at hk HY.out
 obtain ⟨j0,j1,j2,j3,j4,j5,j6,j7,j8,j9,j10,j11,j12⟩:=jb_at HJ.out
 go_upto_region 2 with fail
 have HC2:Hid (CrM D W.heap.size gm (.cells #[.int .i64 vx, .int .i64 vy, .int .i64 vp, .int .i64 vw, .int .i64 vh, .int .i64 vd, .slice (some ⟨kb,ko,none⟩) nl cl, .slice pd nd cd, .int .i64 k0, .int .i64 k1, .int .i64 k2, .int .i64 ob, .int .i64 st] tJb) (.cells #[.int .i64 0, .int .i64 0, .int .i64 0, .int .i64 0] tFt) (.cells #[.string t, .int .i64 lr, .int .i64 lg, .int .i64 lb, .int .i64 al, .bool false] tLy) (mtO most (most - m)) (W.alloc (.cells #[.string t, .int .i64 lr, .int .i64 lg, .int .i64 lb, .int .i64 al, .bool false] tLy))):=⟨one_below HJ.out (bel_alloc _ _),one_below HF.out (bel_alloc _ _),alloc_new _ _,one_below (one_below HM.out HB.out) (bel_alloc _ _)⟩
 have HB2:Hid (Below w.heap.size w (W.alloc (.cells #[.string t, .int .i64 lr, .int .i64 lg, .int .i64 lb, .int .i64 al, .bool false] tLy))):=HB.out.trans ((bel_alloc _ _).mono HB.out.size)
 have HSz:Hid (D+1 < W.heap.size∧W.heap.size <(W.alloc (.cells #[.string t, .int .i64 lr, .int .i64 lg, .int .i64 lb, .int .i64 al, .bool false] tLy)).heap.size):=⟨lt_of_heap HF.out,by rw [show (W.alloc (.cells #[.string t, .int .i64 lr, .int .i64 lg, .int .i64 lb, .int .i64 al, .bool false] tLy)).heap.size=W.heap.size+1 from Array.size_push _];exact Nat.lt_succ_self _⟩
 clear y0 y1 y2 y3 y4 y5 j0 j1 j2 j3 j4 j5 j6 j7 j8 j9 j10 j11 j12 HJ HF HB HM
 generalize W.alloc (.cells #[.string t, .int .i64 lr, .int .i64 lg, .int .i64 lb, .int .i64 al, .bool false] tLy)=W2 at HC2 HB2 HSz⊢
 obtain ⟨L,hL⟩:∃L,W.heap.size=L:=⟨_,rfl⟩
 rw [hL] at HC2 HSz⊢
 clear hL
 have l0:=cell_of (i:=0) HC2.out.l rfl
 have j11:=cell_of (i:=11) HC2.out.j rfl
 have hnew:=lnew_c t ob W2
 have hla:(W2.alloc (.cells (laCs t ob 0 0 0 0 (.slice none 0 0) 0 0) tLa)).heap[W2.heap.size]?=some (.cells (laCs t ob 0 0 0 0 (.slice none 0 0) 0 0) tLa):=alloc_new _ _
 have hobj:=objects_c W2.heap.size t ob HOK.out o (fun x hx=>(HPL.out x hx).1) i f HFI.out _ hla
 have hb2:=bel_alloc W2 (.cells (laCs t ob 0 0 0 0 (.slice none 0 0) 0 0) tLa)
 have hs2:(W2.alloc (.cells (laCs t ob 0 0 0 0 (.slice none 0 0) 0 0) tLa)).heap.size=W2.heap.size+1:=Array.size_push _
 go_upto_region 3 with (first |(go_at_call 22;refine hnew.mono ?_;rintro e w' ⟨rfl,rfl⟩)|(go_at_call 26;refine hobj.mono ?_;rintro e w4 ⟨qo,d,rfl,ho4,hk4⟩))
 have HK24:Hid (Keep (fun k=>k≠W2.heap.size) W2 w4):=(Keep.of_below hb2).trans hk4
 have HO4:Hid (ObsIn (fun k=>W2.heap.size≤k) w4 qo o):=ho4.mono fun k _ hk=>by have h1:_≤k:=hk;rw [hs2] at h1;omega
 have HC4:Hid (CrM D L gm (.cells #[.int .i64 vx, .int .i64 vy, .int .i64 vp, .int .i64 vw, .int .i64 vh, .int .i64 vd, .slice (some ⟨kb,ko,none⟩) nl cl, .slice pd nd cd, .int .i64 k0, .int .i64 k1, .int .i64 k2, .int .i64 ob, .int .i64 st] tJb) (.cells #[.int .i64 0, .int .i64 0, .int .i64 0, .int .i64 0] tFt) (.cells #[.string t, .int .i64 lr, .int .i64 lg, .int .i64 lb, .int .i64 al, .bool false] tLy) (mtO most (most - m)) w4):=HC2.out.keep HK24.out (by have:=HSz.out;omega) (by have:=HSz.out;omega) (by have:=HSz.out;omega) (by have:=HSz.out;omega)
 have HKw:Hid (Keep (fun k=>k < D) w w4):=(Keep.of_below HB2.out).trans (HK24.out.mono fun k _ hk=>by have h1:k < D:=hk;have:=HSz.out;omega)
 clear l0 j11 hnew hla hobj hb2 hs2 ho4 hk4 HC2
 by_cases hf0:f=0
 ·subst hf0
  obtain ⟨⟨cov,m2⟩,hrv⟩:∃x,rastV o ⟨vx,vy,vp,vw,vh,vd⟩ m=x:=⟨_,rfl⟩
  have HRV:=Lib.hid hrv
  have hgW:¬W2.heap.size≤gm:=by have:=HSz.out;omega
  have hrd:Calls Tryz.prog 60 #[.slice qo o.length d, .agg #[.int .i64 vx, .int .i64 vy, .int .i64 vp, .int .i64 vw, .int .i64 vh, .int .i64 vd], .pointer (some ⟨gm,0,none⟩)] w4 (RnOut gm most w4 (cov,m2)):=render_c (fun k=>W2.heap.size≤k) o (fun x hx=>(HPL.out x hx).2) qo o.length d rfl ⟨vx,vy,vp,vw,vh,vd⟩ HV.out gm hgW most m hm w4 HO4 (Lib.hid HC4.out.g) (cov,m2) HRV
  have hwsz:=HKw.out.size
  have hW2:D≤W2.heap.size:=by have:=HSz.out;omega
  have l5:=cell_of (i:=5) HC4.out.l rfl
  obtain ⟨j0,j1,j2,j3,j4,j5,_,_,_,_,_,_,_⟩:=jb_at HC4.out.j
  clear hrv
  cases cov with
  | none=>
   go_upto_region 8 with (first |(go_at_call 60;(with_reducible refine hrd.mono ?_);intro e w6 hr6;obtain ⟨hg6,hk6⟩:=RnOut.get hr6;obtain rfl:=RnOut.no hr6)| fail)
   have HK6:=Lib.hid hk6
   have HG6:=Lib.hid hg6
   have HC6:Hid (CrM D L gm (.cells #[.int .i64 vx, .int .i64 vy, .int .i64 vp, .int .i64 vw, .int .i64 vh, .int .i64 vd, .slice (some ⟨kb,ko,none⟩) nl cl, .slice pd nd cd, .int .i64 k0, .int .i64 k1, .int .i64 k2, .int .i64 ob, .int .i64 st] tJb) (.cells #[.int .i64 0, .int .i64 0, .int .i64 0, .int .i64 0] tFt) (.cells #[.string t, .int .i64 lr, .int .i64 lg, .int .i64 lb, .int .i64 al, .bool false] tLy) (mtO most (most - m2)) w6):=⟨hk6.get (show D≠gm by omega) HC4.out.j,hk6.get (show D+1≠gm by omega) HC4.out.f,hk6.get (show L≠gm by have:=HSz.out;omega) HC4.out.l,hg6⟩
   clear l5 j0 j1 j2 j3 j4 j5 hrd hr6 hk6 hg6
   have HR:Hid (⟨none,1,k,0,6,m2⟩=r):=by rw [←hr.out];unfold coverK;simp only;rw [if_neg (by decide),HRV.out];exact rfl
   obtain ⟨a0,a1,a2,a3⟩:=ft_at HC6.out.f
   have g0:=cells_f0 HC6.out.f 0
   have g1:=cells_f0 HC6.out.f 1
   have g2:=cells_f0 HC6.out.f 2
   have g3:=cells_f0 HC6.out.f 3
   go_wp2_with fail
   have HFA:Hid (((((w6.setCell ⟨D+1,0,none⟩ (.int .i64 1)).setCell ⟨D+1,1,none⟩ (.int .i64 (k:Int))).setCell ⟨D+1,2,none⟩ (.int .i64 0)).setCell ⟨D+1,3,none⟩ (.int .i64 6)).heap[D+1]?=some (.cells #[.int .i64 1, .int .i64 (k:Int), .int .i64 0, .int .i64 6] tFt)):=set4 HC6.out.f (.int .i64 1) (.int .i64 (k:Int)) (.int .i64 0) (.int .i64 6)
   have HK9:Hid (Keep (fun k=>k≠D+1) w6 ((((w6.setCell ⟨D+1,0,none⟩ (.int .i64 1)).setCell ⟨D+1,1,none⟩ (.int .i64 (k:Int))).setCell ⟨D+1,2,none⟩ (.int .i64 0)).setCell ⟨D+1,3,none⟩ (.int .i64 6))):=keep4 (fun hk=>hk rfl) (.int .i64 1) (.int .i64 (k:Int)) (.int .i64 0) (.int .i64 6)
   clear a0 a1 a2 a3 g0 g1 g2 g3
   generalize (((w6.setCell ⟨D+1,0,none⟩ (.int .i64 1)).setCell ⟨D+1,1,none⟩ (.int .i64 (k:Int))).setCell ⟨D+1,2,none⟩ (.int .i64 0)).setCell ⟨D+1,3,none⟩ (.int .i64 6)=W9 at HFA HK9⊢
   obtain ⟨e0,e1,e2,e3⟩:=ft_at HFA.out
   rw [←HR.out]
   refine bodyPost_ret (v:= .tuple #[.slice none 0 0,ftV 1 (k:Int) 0 6]) (by simp [results,Tryz.results37,go_sem,e0,e1,e2,e3]) rfl ⟨?_,?_,?_⟩
   ·exact HK9.out.get (show gm≠D+1 by omega) HC6.out.g
   ·exact ((HKw.out.mono (R:=fun k=>k < D∧k≠gm∧k≠D+1) fun k _ hk=>hk.1).trans ((HK6.out.mono (R:=fun k=>k < D∧k≠gm∧k≠D+1) fun k _ hk=>hk.2.1).trans (HK9.out.mono (R:=fun k=>k < D∧k≠gm∧k≠D+1) fun k _ hk=>hk.2.2))).mono fun k hk hne=>⟨by have:=HDD.out;omega,hne,by have:=HDD.out;omega⟩
   ·exact rfl
  | some lc=>
   go_upto_region 8 with (first |(go_at_call 60;(with_reducible refine hrd.mono ?_);intro e w6 hr6;obtain ⟨hg6,hk6⟩:=RnOut.get hr6;obtain ⟨sv,rfl,hcv⟩:=RnOut.yes hr6)| fail)
   have HK6:=Lib.hid hk6
   have HG6:=Lib.hid hg6
   have HC6:Hid (CrM D L gm (.cells #[.int .i64 vx, .int .i64 vy, .int .i64 vp, .int .i64 vw, .int .i64 vh, .int .i64 vd, .slice (some ⟨kb,ko,none⟩) nl cl, .slice pd nd cd, .int .i64 k0, .int .i64 k1, .int .i64 k2, .int .i64 ob, .int .i64 st] tJb) (.cells #[.int .i64 0, .int .i64 0, .int .i64 0, .int .i64 0] tFt) (.cells #[.string t, .int .i64 lr, .int .i64 lg, .int .i64 lb, .int .i64 al, .bool false] tLy) (mtO most (most - m2)) w6):=⟨hk6.get (show D≠gm by omega) HC4.out.j,hk6.get (show D+1≠gm by omega) HC4.out.f,hk6.get (show L≠gm by have:=HSz.out;omega) HC4.out.l,hg6⟩
   have HCV:=Lib.hid hcv
   clear l5 j0 j1 j2 j3 j4 j5 hrd hr6 hk6 hg6 hcv
   have HR:Hid (⟨some lc,0,0,0,0,m2⟩=r):=by rw [←hr.out];unfold coverK;simp only;rw [if_neg (by decide),HRV.out];exact rfl
   obtain ⟨a0,a1,a2,a3⟩:=ft_at HC6.out.f
   have g0:=cells_f0 HC6.out.f 0
   have g1:=cells_f0 HC6.out.f 1
   have g2:=cells_f0 HC6.out.f 2
   have g3:=cells_f0 HC6.out.f 3
   go_wp2_with fail
   have HFA:Hid (((((w6.setCell ⟨D+1,0,none⟩ (.int .i64 0)).setCell ⟨D+1,1,none⟩ (.int .i64 0)).setCell ⟨D+1,2,none⟩ (.int .i64 0)).setCell ⟨D+1,3,none⟩ (.int .i64 0)).heap[D+1]?=some (.cells #[.int .i64 0, .int .i64 0, .int .i64 0, .int .i64 0] tFt)):=set4 HC6.out.f (.int .i64 0) (.int .i64 0) (.int .i64 0) (.int .i64 0)
   have HK9:Hid (Keep (fun k=>k≠D+1) w6 ((((w6.setCell ⟨D+1,0,none⟩ (.int .i64 0)).setCell ⟨D+1,1,none⟩ (.int .i64 0)).setCell ⟨D+1,2,none⟩ (.int .i64 0)).setCell ⟨D+1,3,none⟩ (.int .i64 0))):=keep4 (fun hk=>hk rfl) (.int .i64 0) (.int .i64 0) (.int .i64 0) (.int .i64 0)
   clear a0 a1 a2 a3 g0 g1 g2 g3
   generalize (((w6.setCell ⟨D+1,0,none⟩ (.int .i64 0)).setCell ⟨D+1,1,none⟩ (.int .i64 0)).setCell ⟨D+1,2,none⟩ (.int .i64 0)).setCell ⟨D+1,3,none⟩ (.int .i64 0)=W9 at HFA HK9⊢
   obtain ⟨e0,e1,e2,e3⟩:=ft_at HFA.out
   rw [←HR.out]
   refine bodyPost_ret (v:= .tuple #[sv,ftV 0 0 0 0]) (by simp [results,Tryz.results37,go_sem,e0,e1,e2,e3]) rfl ⟨?_,?_,?_⟩
   ·exact HK9.out.get (show gm≠D+1 by omega) HC6.out.g
   ·exact ((HKw.out.mono (R:=fun k=>k < D∧k≠gm∧k≠D+1) fun k _ hk=>hk.1).trans ((HK6.out.mono (R:=fun k=>k < D∧k≠gm∧k≠D+1) fun k _ hk=>hk.2.1).trans (HK9.out.mono (R:=fun k=>k < D∧k≠gm∧k≠D+1) fun k _ hk=>hk.2.2))).mono fun k hk hne=>⟨by have:=HDD.out;omega,hne,by have:=HDD.out;omega⟩
   ·refine ⟨sv,rfl,?_⟩
    obtain ⟨B9,hrow9,hro9⟩:=HCV.out
    exact ⟨B9,row_keep hrow9 HK9.out (fun k e=>by have h1:w4.heap.size≤k:=hro9 k e;have h2:=lt_of_heap HC4.out.f;show k≠D+1;omega),fun k e=>by have h1:w4.heap.size≤k:=hro9 k e;show w.heap.size≤k;omega⟩
 ·have hf1:(((f:Int) !=0):Bool)=true:=by rw [bne_iff_ne];omega
  have HR:Hid (⟨none,1,k,i,f,m⟩=r):=by rw [←hr.out];unfold coverK;simp only;rw [if_pos hf0];exact rfl
  obtain ⟨a0,a1,a2,a3⟩:=ft_at HC4.out.f
  have g0:=cells_f0 HC4.out.f 0
  have g1:=cells_f0 HC4.out.f 1
  have g2:=cells_f0 HC4.out.f 2
  have g3:=cells_f0 HC4.out.f 3
  go_wp2_with fail
  have HFA:Hid (((((w4.setCell ⟨D+1,0,none⟩ (.int .i64 1)).setCell ⟨D+1,1,none⟩ (.int .i64 (k:Int))).setCell ⟨D+1,2,none⟩ (.int .i64 (i:Int))).setCell ⟨D+1,3,none⟩ (.int .i64 (f:Int))).heap[D+1]?=some (.cells #[.int .i64 1, .int .i64 (k:Int), .int .i64 (i:Int), .int .i64 (f:Int)] tFt)):=set4 HC4.out.f (.int .i64 1) (.int .i64 (k:Int)) (.int .i64 (i:Int)) (.int .i64 (f:Int))
  have HK9:Hid (Keep (fun k=>k≠D+1) w4 ((((w4.setCell ⟨D+1,0,none⟩ (.int .i64 1)).setCell ⟨D+1,1,none⟩ (.int .i64 (k:Int))).setCell ⟨D+1,2,none⟩ (.int .i64 (i:Int))).setCell ⟨D+1,3,none⟩ (.int .i64 (f:Int)))):=keep4 (fun hk=>hk rfl) (.int .i64 1) (.int .i64 (k:Int)) (.int .i64 (i:Int)) (.int .i64 (f:Int))
  clear a0 a1 a2 a3 g0 g1 g2 g3
  generalize (((w4.setCell ⟨D+1,0,none⟩ (.int .i64 1)).setCell ⟨D+1,1,none⟩ (.int .i64 (k:Int))).setCell ⟨D+1,2,none⟩ (.int .i64 (i:Int))).setCell ⟨D+1,3,none⟩ (.int .i64 (f:Int))=W9 at HFA HK9⊢
  obtain ⟨e0,e1,e2,e3⟩:=ft_at HFA.out
  rw [←HR.out]
  refine bodyPost_ret (v:= .tuple #[.slice none 0 0,ftV 1 (k:Int) (i:Int) (f:Int)]) (by simp [results,Tryz.results37,go_sem,e0,e1,e2,e3]) rfl ⟨?_,?_,rfl⟩
  ·exact HK9.out.get (show gm≠D+1 by omega) HC4.out.g
  ·exact ((HKw.out.mono (R:=fun k=>k < D∧k≠D+1) fun k _ hk=>hk.1).trans (HK9.out.mono (R:=fun k=>k < D∧k≠D+1) fun k _ hk=>hk.2)).mono fun k hk hne=>⟨by have:=HDD.out;omega,by have:=HDD.out;omega⟩
end Go.Proofs.YtfldplmgkeiimaaGreatDoor.VW
namespace Go.Proofs.YtfldplmgkeiimaaGreatDoor.VW
open Go.RowKit Go.Proofs.YtfldplmgkeiimaaGreatDoor.Vp
def lyOk (l:Ly):Bool:=byV l.r && (byV l.g && (byV l.b && byV l.al))
def jobOk (v:Vw) (ls:List Ly) (nd:Nat) (k0 k1 k2:Int):Bool:=viewOk v && (decide (ls.length≤32) && (decide (nd≤32) && (ls.all lyOk && (byV k0 && (byV k1 && byV k2)))))
set_option maxRecDepth 100000 in
set_option maxHeartbeats 25600000 in
theorem valid_j (S:Nat→Prop) (vx vy vp vw vh vd:Int) (ls:List Ly) (pl:Option Addr) (nl cl:Nat) (hn:nl=ls.length) (pd:Option Addr) (nd cd:Nat) (k0 k1 k2 ob st:Int) (w:World) (H:Hid (LysIn S w pl ls)) (f:Bool) (hf:Hid (jobOk ⟨vx,vy,vp,vw,vh,vd⟩ ls nd k0 k1 k2=f)):
  Calls Tryz.prog 35 #[.agg #[.int .i64 vx, .int .i64 vy, .int .i64 vp, .int .i64 vw, .int .i64 vh, .int .i64 vd, .slice pl nl cl, .slice pd nd cd, .int .i64 k0, .int .i64 k1, .int .i64 k2, .int .i64 ob, .int .i64 st]] w fun e w'=>e= .returned (.bool f)∧Below w.heap.size w w':=by
 have HN:=Lib.hid hn
 have hbig:nl≤1000000000:=by rw [hn];exact H.out.1
 obtain ⟨fv,hfv⟩:∃b,viewOk ⟨vx,vy,vp,vw,vh,vd⟩=b:=⟨_,rfl⟩
 have HFV:=Lib.hid hfv
 have HF:Hid ((fv && (decide (nl≤32) && (decide (nd≤32) && (ls.all lyOk && (byV k0 && (byV k1 && byV k2))))))=f):=by show _=_;rw [←hf.out,←hfv,hn];rfl
 clear hn hfv hf
 go_enter Tryz.func35,Tryz.ntmps35
 go_upto_region 1 with fail
 have HJ:Hid ((w.alloc (.cells #[.int .i64 vx, .int .i64 vy, .int .i64 vp, .int .i64 vw, .int .i64 vh, .int .i64 vd, .slice pl nl cl, .slice pd nd cd, .int .i64 k0, .int .i64 k1, .int .i64 k2, .int .i64 ob, .int .i64 st] tJb)).heap[w.heap.size]?=some (.cells #[.int .i64 vx, .int .i64 vy, .int .i64 vp, .int .i64 vw, .int .i64 vh, .int .i64 vd, .slice pl nl cl, .slice pd nd cd, .int .i64 k0, .int .i64 k1, .int .i64 k2, .int .i64 ob, .int .i64 st] tJb)):=alloc_new _ _
 have HB:Hid (Below w.heap.size w (w.alloc (.cells #[.int .i64 vx, .int .i64 vy, .int .i64 vp, .int .i64 vw, .int .i64 vh, .int .i64 vd, .slice pl nl cl, .slice pd nd cd, .int .i64 k0, .int .i64 k1, .int .i64 k2, .int .i64 ob, .int .i64 st] tJb))):=bel_alloc _ _
 generalize w.alloc (.cells #[.int .i64 vx, .int .i64 vy, .int .i64 vp, .int .i64 vw, .int .i64 vh, .int .i64 vd, .slice pl nl cl, .slice pd nd cd, .int .i64 k0, .int .i64 k1, .int .i64 k2, .int .i64 ob, .int .i64 st] tJb)=W at HJ HB⊢
 obtain ⟨j0,j1,j2,j3,j4,j5,j6,j7,j8,j9,j10,j11,j12⟩:=jb_at HJ.out
 go_wp2_with fail
 with_reducible refine (viewOk_c ⟨vx,vy,vp,vw,vh,vd⟩ fv HFV _).mono ?_
 rintro e W1 ⟨rfl,hb⟩
 have HJ1:=Lib.hid (one_below HJ.out hb)
 have HB1:Hid (Below w.heap.size w W1):=HB.out.trans (hb.mono HB.out.size)
 clear j0 j1 j2 j3 j4 j5 j6 j7 j8 j9 j10 j11 j12 hb HJ HB
 obtain ⟨j0,j1,j2,j3,j4,j5,j6,j7,j8,j9,j10,j11,j12⟩:=jb_at HJ1.out
 cases fv with
 | false=>
  have HR:Hid (false=f):=HF.out
  go_wp2_with fail
  go_ret
  exact ⟨ret_b HR.out,HB1.out⟩
 | true=>
  by_cases c1:nl≤32
  case neg=>
   have HR:Hid (false=f):=by show _=_;rw [←HF.out,decide_eq_false c1];rfl
   have c1i:(nl:Int)> 32:=by omega
   go_wp2_with fail
   all_goals
    go_ret
    exact ⟨ret_b HR.out,HB1.out⟩
  have c1i:¬(nl:Int)> 32:=by omega
  by_cases c2:nd≤32
  case neg=>
   have HR:Hid (false=f):=by show _=_;rw [←HF.out,decide_eq_true c1,decide_eq_false c2];rfl
   have c2i:(nd:Int)> 32:=by omega
   go_wp2_with fail
   all_goals
    go_ret
    exact ⟨ret_b HR.out,HB1.out⟩
  have c2i:¬(nd:Int)> 32:=by omega
  have HF2:Hid (((ls.drop 0).all lyOk && (byV k0 && (byV k1 && byV k2)))=f):=by show _=_;rw [←HF.out,decide_eq_true c1,decide_eq_true c2];rfl
  clear c1 c2
  go_wp2_with fail
  clear j0 j1 j2 j3 j4 j5 j6 j7 j8 j9 j10 j11 j12
  go_loopw [24] (fun i wr=>∃(j:Nat) (wy:World),wy=wr∧j≤nl∧i= .int .i64 j∧Hid (((ls.drop j).all lyOk && (byV k0 && (byV k1 && byV k2)))=f)∧Hid (Below W1.heap.size W1 wy)) (fun i _=>nl -(intOf i).toNat)
  case atStart=>exact ⟨0,_,rfl,Nat.zero_le _,rfl,HF2.out,Below.refl _ _⟩
  case round=>
  obtain ⟨j,wy,rfl,hj,rfl,HG,HY⟩:=hrel
  have HBY:Hid (Below w.heap.size w wy):=HB1.out.trans (HY.out.mono HB1.out.size)
  by_cases hlt:j < nl
  ·have hlt2:j < ls.length:=by rw [←HN.out];exact hlt
   have hlti:(j:Int)<(nl:Int):=by omega
   obtain ⟨y,hy⟩:∃y,ls[j]=y:=⟨_,rfl⟩
   obtain ⟨kb,ko,rfl,y0,y1,y2,y3,y4,y5⟩:=(H.out.below HBY.out).at hlt2 hy
   obtain ⟨b1,hb1⟩:∃b,byV y.r=b:=⟨_,rfl⟩
   obtain ⟨b2,hb2⟩:∃b,byV y.g=b:=⟨_,rfl⟩
   obtain ⟨b3,hb3⟩:∃b,byV y.b=b:=⟨_,rfl⟩
   obtain ⟨b4,hb4⟩:∃b,byV y.al=b:=⟨_,rfl⟩
   have HG2:Hid (((b1 && (b2 && (b3 && b4))) && ((ls.drop (j+1)).all lyOk && (byV k0 && (byV k1 && byV k2))))=f):=by
    show _=_
    rw [←HG.out,List.drop_eq_getElem_cons hlt2,hy,List.all_cons,lyOk,hb1,hb2,hb3,hb4]
    exact (Bool.and_assoc _ _ _).symm
   have B1:=Lib.hid hb1
   have B2:=Lib.hid hb2
   have B3:=Lib.hid hb3
   have B4:=Lib.hid hb4
   have HYN:=Lib.hid (HY.out.trans ((bel_alloc wy (.cells #[.string y.t, .int .i64 y.r, .int .i64 y.g, .int .i64 y.b, .int .i64 y.al, .bool y.cu] tLy)).mono HY.out.size))
   have HBN:Hid (Below w.heap.size w (wy.alloc (.cells #[.string y.t, .int .i64 y.r, .int .i64 y.g, .int .i64 y.b, .int .i64 y.al, .bool y.cu] tLy))):=HB1.out.trans (HYN.out.mono HB1.out.size)
   have HLN:Hid ((wy.alloc (.cells #[.string y.t, .int .i64 y.r, .int .i64 y.g, .int .i64 y.b, .int .i64 y.al, .bool y.cu] tLy)).heap[wy.heap.size]?=some (.cells #[.string y.t, .int .i64 y.r, .int .i64 y.g, .int .i64 y.b, .int .i64 y.al, .bool y.cu] tLy)):=alloc_new _ _
   clear hb1 hb2 hb3 hb4 hy
   go_upto_region 6 with fail
   generalize wy.alloc (.cells #[.string y.t, .int .i64 y.r, .int .i64 y.g, .int .i64 y.b, .int .i64 y.al, .bool y.cu] tLy)=WN at HYN HBN HLN⊢
   obtain ⟨D,hD⟩:∃D,wy.heap.size=D:=⟨_,rfl⟩
   rw [hD] at HLN⊢
   clear hD y0 y1 y2 y3 y4 y5
   have y1:=cell_of (i:=1) HLN.out rfl
   have y2:=cell_of (i:=2) HLN.out rfl
   have y3:=cell_of (i:=3) HLN.out rfl
   have y4:=cell_of (i:=4) HLN.out rfl
   go_wp2_with fail
   with_reducible refine (isByte_c y.r b1 B1 _).mono ?_
   rintro e w9 ⟨rfl,rfl⟩
   cases b1 with
   | false=>
    have HR:Hid (false=f):=by show _=_;rw [←HG2.out];simp
    go_wp2_with fail
    go_ret
    exact ⟨ret_b HR.out,HBN.out⟩
   | true=>
    go_wp2_with fail
    with_reducible refine (isByte_c y.g b2 B2 _).mono ?_
    rintro e w9 ⟨rfl,rfl⟩
    cases b2 with
    | false=>
     have HR:Hid (false=f):=by show _=_;rw [←HG2.out];simp
     go_wp2_with fail
     go_ret
     exact ⟨ret_b HR.out,HBN.out⟩
    | true=>
     go_wp2_with fail
     with_reducible refine (isByte_c y.b b3 B3 _).mono ?_
     rintro e w9 ⟨rfl,rfl⟩
     cases b3 with
     | false=>
      have HR:Hid (false=f):=by show _=_;rw [←HG2.out];simp
      go_wp2_with fail
      go_ret
      exact ⟨ret_b HR.out,HBN.out⟩
     | true=>
      go_wp2_with fail
      with_reducible refine (isByte_c y.al b4 B4 _).mono ?_
      rintro e w9 ⟨rfl,rfl⟩
      cases b4 with
      | false=>
       have HR:Hid (false=f):=by show _=_;rw [←HG2.out];simp
       go_wp2_with fail
       go_ret
       exact ⟨ret_b HR.out,HBN.out⟩
      | true=>
       have HG4:Hid (((ls.drop (j+1)).all lyOk && (byV k0 && (byV k1 && byV k2)))=f):=HG2.out
       go_wp2_with fail
       go_round <;> first | exact ⟨j+1,_,rfl,by omega,by go_num,HG4.out,HYN.out⟩|(simp [intOf] <;> omega)
  ·have hje:j=nl:=by omega
   have HG3:Hid ((byV k0 && (byV k1 && byV k2))=f):=by
    show _=_
    rw [←HG.out,List.drop_eq_nil_of_le (by rw [←HN.out];omega)]
    rfl
   subst hje
   obtain ⟨b1,hb1⟩:∃b,byV k0=b:=⟨_,rfl⟩
   obtain ⟨b2,hb2⟩:∃b,byV k1=b:=⟨_,rfl⟩
   obtain ⟨b3,hb3⟩:∃b,byV k2=b:=⟨_,rfl⟩
   rw [hb1,hb2,hb3] at HG3
   have B1:=Lib.hid hb1
   have B2:=Lib.hid hb2
   have B3:=Lib.hid hb3
   clear hb1 hb2 hb3
   have HJ9:=Lib.hid (one_below HJ1.out HY.out)
   obtain ⟨j0,j1,j2,j3,j4,j5,j6,j7,j8,j9,j10,j11,j12⟩:=jb_at HJ9.out
   go_wp2_with fail
   with_reducible refine (isByte_c k0 b1 B1 _).mono ?_
   rintro e w9 ⟨rfl,rfl⟩
   cases b1 with
   | false=>
    have HR:Hid (false=f):=by show _=_;rw [←HG3.out];simp
    go_wp2_with fail
    go_ret
    exact ⟨ret_b HR.out,HBY.out⟩
   | true=>
    go_wp2_with fail
    with_reducible refine (isByte_c k1 b2 B2 _).mono ?_
    rintro e w9 ⟨rfl,rfl⟩
    cases b2 with
    | false=>
     have HR:Hid (false=f):=by show _=_;rw [←HG3.out];simp
     go_wp2_with fail
     go_ret
     exact ⟨ret_b HR.out,HBY.out⟩
    | true=>
     go_wp2_with fail
     with_reducible refine (isByte_c k2 b3 B3 _).mono ?_
     rintro e w9 ⟨rfl,rfl⟩
     cases b3 with
     | false=>
      have HR:Hid (false=f):=by show _=_;rw [←HG3.out];simp
      go_wp2_with fail
      go_ret
      exact ⟨ret_b HR.out,HBY.out⟩
     | true=>
      have HR:Hid (true=f):=HG3.out
      go_wp2_with fail
      go_ret
      exact ⟨ret_b HR.out,HBY.out⟩
end Go.Proofs.YtfldplmgkeiimaaGreatDoor.VW
