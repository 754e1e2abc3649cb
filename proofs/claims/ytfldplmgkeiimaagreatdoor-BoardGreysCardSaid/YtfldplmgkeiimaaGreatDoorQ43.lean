/-
  Several texts of this proof in one: Zv, Law.
-/
import Derived.Test.YtfldplmgkeiimaaGreatDoorQ42
import Derived.Test.YtfldplmgkeiimaaGreatDoorQ13
import Derived.Test.YtfldplmgkeiimaaGreatDoorCards
import Derived.Test.YtfldplmgkeiimaaGreatDoorTie
import Derived.ProofKit
import Derived.OpenShut
import Derived.LaidMore
import Derived.Lay
import Derived.LaidOnce
import Derived.Stop.Joined
import Derived.SevenTiedAt
import Derived.Lib.LaidTab
import Derived.Lib.LaidU8
set_option linter.unusedVariables false
set_option linter.unusedSimpArgs false
namespace Go.Proofs.YtfldplmgkeiimaaGreatDoor.VW
open Go.RowKit Go.Proofs.YtfldplmgkeiimaaGreatDoor.Vp
open Go.Proofs.YtfldplmgkeiimaaGreatDoor.Mem (RB)
theorem aw1_job:jobOk ⟨-2,-2,4,1,1,0⟩ [] 0 1 2 3=true:=by decide+kernel
theorem aw2_job:jobOk ⟨-2,-2,4,1,1,0⟩ [⟨⟨#[68,49,48,42]⟩,9,0,0,255,false⟩] 0 1 2 3=true:=by decide+kernel
theorem aw_file:fileV [68,49,48,42] 10=([],0,4):=by decide+kernel
theorem aw_run:runR ((Go.Proofs.YtfldplmgkeiimaaGreatDoor.Gp.parseG [68,49,48,42]).1.map Prod.snd) (pl0 10)=true:=by decide+kernel
theorem aw_len:(Go.Proofs.YtfldplmgkeiimaaGreatDoor.Gp.parseG [68,49,48,42]).1.length≤500000:=by decide+kernel
theorem aw_ok:LysOk 10 [⟨⟨#[68,49,48,42]⟩,9,0,0,255,false⟩]:=by
 intro y hy
 rw [List.mem_singleton.1 hy]
 refine ⟨rfl,⟨by decide,aw_run,aw_len⟩,?_⟩
 show ∀x∈(fileV [68,49,48,42] 10).1,_
 rw [aw_file]
 exact fun x hx=>absurd hx (by simp)
theorem aw_ren1:renL ⟨-2,-2,4,1,1,0⟩ 10 [] 0 (fill3 1 2 3 ((1:Int).toNat *(1:Int).toNat)) (max 0 (min 10 100000000))= .ok [(65536,65536),(131072,131072),(196608,196608)]:=by rfl
theorem aw_ren2:renL ⟨-2,-2,4,1,1,0⟩ 10 [⟨⟨#[68,49,48,42]⟩,9,0,0,255,false⟩] 0 (fill3 1 2 3 ((1:Int).toNat *(1:Int).toNat)) (max 0 (min 10 100000000))= .error (1,0,0,4):=by
 rw [renL_cons]
 show contRL _ _ _ _ _ _ (coverK _ _ _ (fileV [68,49,48,42] 10))=_
 rw [aw_file]
 rfl
theorem rb_own {w:World} {B n c:Nat} {q:Option Addr} {l:List UInt8} {xs:List Value} (h:w.ownsRow B 5 1 (.slice q n c) n xs) (hx:xs=l.map fun b=> .int .u8 (b.toNat:Int)):RB w q l:=by
 have hl:l.length=n:=by have:=h.1;rw [hx,List.length_map] at this;omega
 rcases h.2 with ⟨e1,e2⟩|⟨g,cap,cur,e1,_⟩
 ·have:l= []:=List.eq_nil_of_length_eq_zero (by omega)
  subst this
  exact .nil _ _
 ·injection e1 with e1 _ _
  subst e1
  refine RB.of fun i hi=>?_
  have:=h.cellAt i (by omega)
  rw [Nat.zero_add,this,hx,List.getElem?_map,List.getElem?_eq_getElem hi]
  rfl
set_option maxRecDepth 100000 in
set_option maxHeartbeats 1600000 in
theorem same27_c (W H:Int) (c:Bool) (p q:Option Addr) (n m cp cq:Nat) (l:List UInt8) (hn:Hid (n=l.length)) (hm:Hid (m=l.length)) (w:World) (hp:RB w p l) (hq:RB w q l):
  Calls Tryz.prog 21 #[.agg #[.int .i64 W, .int .i64 H, .bool c, .slice p n cp], .agg #[.int .i64 W, .int .i64 H, .bool c, .slice q m cq]] w fun e w'=>e= .returned (.bool true)∧Below w.heap.size w w':=by
 have hbel:Below w.heap.size w ((w.alloc (.cells #[.int .i64 W, .int .i64 H, .bool c, .slice p n cp] tIm)).alloc (.cells #[.int .i64 W, .int .i64 H, .bool c, .slice q m cq] tIm)):=((Below.refl _ _).alloc (Nat.le_refl _) _).alloc (by simp) _
 have s1:=(hp.below hbel).str (P:=Tryz.prog) 52 5 9 Tryz.underlying52 Tryz.underlying5 Tryz.underlying9 n cp hn.out
 have s2:=(hq.below hbel).str (P:=Tryz.prog) 52 5 9 Tryz.underlying52 Tryz.underlying5 Tryz.underlying9 m cq hm.out
 have HB:=Lib.hid hbel
 clear hbel hp hq
 go_enter Tryz.func21,Tryz.ntmps21
 go_wp2_with fail
 go_ret
 exact ⟨rfl,HB.out⟩
theorem ReOut.bel {w:World} {nw nh:Int} {T:Except (Int × Int × Int × Int) (List Tone)} {e:Ending} {w':World} (h:ReOut w nw nh T e w'):Below w.heap.size w w':=h.1
theorem ReOut.yes {w:World} {nw nh:Int} {ts:List Tone} {e:Ending} {w':World} (h:ReOut w nw nh (.ok ts) e w'):∃q cp,e= .returned (.tuple #[.agg #[.int .i64 nw, .int .i64 nh, .bool true, .slice q ts.length cp],ftV 0 0 0 0])∧w'.ownsRow w.heap.size 5 1 (.slice q ts.length cp) ts.length (ts.map fun t=> .int .u8 (byteV t)):=h.2
theorem ReOut.no {w:World} {nw nh a b c d:Int} {e:Ending} {w':World} (h:ReOut w nw nh (.error (a,b,c,d)) e w'):e= .returned (.tuple #[.agg #[.int .i64 0, .int .i64 0, .bool false, .slice none 0 0],ftV a b c d]):=h.2
theorem CoOut.bel {w:World} {r:CvR} {e:Ending} {w':World} (h:CoOut w r e w'):Below w.heap.size w w':=h.1
theorem CoOut.no {w:World} {a b c d m:Int} {e:Ending} {w':World} (h:CoOut w ⟨none,a,b,c,d,m⟩ e w'):e= .returned (.tuple #[.slice none 0 0,ftV a b c d]):=h.2
theorem lys1 {w:World} {b:Nat} {t:ByteArray} {r g l a:Int} {c:Bool} (h:w.heap[b]?=some (.cells #[.string t, .int .i64 r, .int .i64 g, .int .i64 l, .int .i64 a, .bool c] tLy)):LysIn (fun _=>True) w (some ⟨b,0,none⟩) [⟨t,r,g,l,a,c⟩]:=by
 refine ⟨by show 1≤1000000000;decide,fun _=>⟨b,0,_,rfl,trivial,h,fun i hi=>?_⟩⟩
 have:i=0:=by simpa using hi
 subst this
 rfl
theorem lys0 (w:World):LysIn (fun _=>True) w none []:=⟨by decide,fun h=>absurd h (by decide)⟩
structure AwM (w0:World) (I F:Nat) (q:Option Addr) (cp:Nat) (x:World):Prop where
 bel:Below w0.heap.size w0 x
 im:x.heap[I]?=some (.cells #[.int .i64 1, .int .i64 1, .bool true, .slice q 3 cp] tIm)
 ft:x.heap[F]?=some (.cells #[.int .i64 0, .int .i64 0, .int .i64 0, .int .i64 0] tFt)
 row:∃B,x.ownsRow B 5 1 (.slice q 3 cp) 3 [.int .u8 1, .int .u8 2, .int .u8 3]
theorem AwM.below {w0:World} {I F:Nat} {q:Option Addr} {cp:Nat} {x y:World} (h:AwM w0 I F q cp x) (hb:Below x.heap.size x y):AwM w0 I F q cp y:=⟨h.bel.trans (hb.mono h.bel.size),one_below h.im hb,one_below h.ft hb,by obtain ⟨B,h⟩:=h.row;exact ⟨B,row_below h hb⟩⟩
theorem AwM.set {w0:World} {I F J:Nat} {q:Option Addr} {cp:Nat} {x:World} (h:AwM w0 I F q cp x) {cs:Array Value} (hJ:x.heap[J]?=some (.cells cs tJb)) (hJ0:w0.heap.size≤J) (i:Nat) (u:Value):AwM w0 I F q cp (x.setCell ⟨J,i,none⟩ u):=by
 refine ⟨h.bel.setCell (p:=⟨J,i,none⟩) hJ0 u,(far0 (ne_of_type h.im hJ (by decide))).trans h.im,(far0 (ne_of_type h.ft hJ (by decide))).trans h.ft,?_⟩
 obtain ⟨B,h⟩:=h.row
 exact ⟨B,row_grown h (grown_set _ J i _) (.inr (own_other h hJ (by decide)))⟩
set_option maxRecDepth 100000 in
set_option maxHeartbeats 12800000 in
theorem awake27_c (w:World):Calls Tryz.prog 31 #[] w fun e w'=>e= .returned (.bool true)∧Below w.heap.size w w':=by
 go_enter Tryz.func31,Tryz.ntmps31
 go_upto_region 2 with fail
 have HJ:Hid ((w.alloc (.cells #[.int .i64 (-2), .int .i64 (-2), .int .i64 4, .int .i64 1, .int .i64 1, .int .i64 0, .slice none 0 0, .slice none 0 0, .int .i64 1, .int .i64 2, .int .i64 3, .int .i64 10, .int .i64 10] tJb)).heap[w.heap.size]?=some (.cells #[.int .i64 (-2), .int .i64 (-2), .int .i64 4, .int .i64 1, .int .i64 1, .int .i64 0, .slice none 0 0, .slice none 0 0, .int .i64 1, .int .i64 2, .int .i64 3, .int .i64 10, .int .i64 10] tJb)):=alloc_new _ _
 have HB:Hid (Below w.heap.size w (w.alloc (.cells #[.int .i64 (-2), .int .i64 (-2), .int .i64 4, .int .i64 1, .int .i64 1, .int .i64 0, .slice none 0 0, .slice none 0 0, .int .i64 1, .int .i64 2, .int .i64 3, .int .i64 10, .int .i64 10] tJb))):=bel_alloc _ _
 generalize w.alloc (.cells #[.int .i64 (-2), .int .i64 (-2), .int .i64 4, .int .i64 1, .int .i64 1, .int .i64 0, .slice none 0 0, .slice none 0 0, .int .i64 1, .int .i64 2, .int .i64 3, .int .i64 10, .int .i64 10] tJb)=W at HJ HB⊢
 obtain ⟨J,hJ⟩:∃J,w.heap.size=J:=⟨_,rfl⟩
 have HJJ:=Lib.hid hJ
 rw [hJ] at HJ⊢
 clear hJ
 have hr1:=Render_ok (fun _=>True) (-2) (-2) 4 1 1 0 [] none 0 0 rfl none 0 1 2 3 10 10 aw1_job (fun y hy=>absurd hy (by simp)) W (Lib.hid (lys0 W))
 rw [aw_ren1] at hr1
 obtain ⟨j0,j1,j2,j3,j4,j5,j6,j7,j8,j9,j10,j11,j12⟩:=jb_at HJ.out
 go_upto_region 3 with (first |(go_at_call 20;(with_reducible refine hr1.mono ?_);intro e W2 hr;have hb2:=hr.bel;obtain ⟨q,cp,rfl,hrow⟩:=hr.yes)| fail)
 have hrow2:W2.ownsRow W.heap.size 5 1 (.slice q 3 cp) 3 [.int .u8 1, .int .u8 2, .int .u8 3]:=hrow
 have HA:Hid (AwM w W2.heap.size (W2.heap.size+1) q cp ((W2.alloc (.cells #[.int .i64 1, .int .i64 1, .bool true, .slice q 3 cp] tIm)).alloc (.cells #[.int .i64 0, .int .i64 0, .int .i64 0, .int .i64 0] tFt))):=by
  have s1:(W2.alloc (.cells #[.int .i64 1, .int .i64 1, .bool true, .slice q 3 cp] tIm)).heap.size=W2.heap.size+1:=Array.size_push _
  have a2:=alloc_new (W2.alloc (.cells #[.int .i64 1, .int .i64 1, .bool true, .slice q 3 cp] tIm)) (.cells #[.int .i64 0, .int .i64 0, .int .i64 0, .int .i64 0] tFt)
  rw [s1] at a2
  exact ⟨((HB.out.trans (hb2.mono HB.out.size)).alloc (Nat.le_trans HB.out.size hb2.size) _).alloc (by rw [s1];have:=HB.out.size;have:=hb2.size;omega) _,one_below (alloc_new W2 _) (bel_alloc _ _),a2,_,(hrow2.alloc _).alloc _⟩
 have HJ3:=Lib.hid (one_below (one_below (one_below HJ.out hb2) (bel_alloc W2 (.cells #[.int .i64 1, .int .i64 1, .bool true, .slice q 3 cp] tIm))) (bel_alloc (W2.alloc (.cells #[.int .i64 1, .int .i64 1, .bool true, .slice q 3 cp] tIm)) (.cells #[.int .i64 0, .int .i64 0, .int .i64 0, .int .i64 0] tFt)))
 clear hr hb2 hrow hrow2 hr1 j0 j1 j2 j3 j4 j5 j6 j7 j8 j9 j10 j11 j12 HJ HB
 generalize (W2.alloc (.cells #[.int .i64 1, .int .i64 1, .bool true, .slice q 3 cp] tIm)).alloc (.cells #[.int .i64 0, .int .i64 0, .int .i64 0, .int .i64 0] tFt)=W3 at HA HJ3⊢
 obtain ⟨I,hI⟩:∃I,W2.heap.size=I:=⟨_,rfl⟩
 rw [hI] at HA⊢
 clear hI
 have j6:=cell_of (i:=6) HJ3.out rfl
 have g6:=cells_f0 HJ3.out 6
 have hJlt:=lt_of_heap HJ3.out
 go_upto_region 4 with fail
 have HJ0:Hid (w.heap.size≤J):=Nat.le_of_eq HJJ.out
 have HA4:=Lib.hid (HA.out.set HJ3.out HJ0.out 6 (.slice (some ⟨W3.heap.size,0,none⟩) 1 1))
 have HJ4:Hid ((W3.setCell ⟨J,6,none⟩ (.slice (some ⟨W3.heap.size,0,none⟩) 1 1)).heap[J]?=some (.cells #[.int .i64 (-2), .int .i64 (-2), .int .i64 4, .int .i64 1, .int .i64 1, .int .i64 0, .slice (some ⟨W3.heap.size,0,none⟩) 1 1, .slice none 0 0, .int .i64 1, .int .i64 2, .int .i64 3, .int .i64 10, .int .i64 10] tJb)):=by have:=set_at (i:=6) (.slice (some ⟨W3.heap.size,0,none⟩) 1 1) HJ3.out;exact this
 have HA5:=Lib.hid (HA4.out.below (bel_alloc (W3.setCell ⟨J,6,none⟩ (.slice (some ⟨W3.heap.size,0,none⟩) 1 1)) (.cells #[.string ⟨#[68,49,48,42]⟩, .int .i64 9, .int .i64 0, .int .i64 0, .int .i64 255, .bool false] tLy)))
 have HJ5:=Lib.hid (one_below HJ4.out (bel_alloc (W3.setCell ⟨J,6,none⟩ (.slice (some ⟨W3.heap.size,0,none⟩) 1 1)) (.cells #[.string ⟨#[68,49,48,42]⟩, .int .i64 9, .int .i64 0, .int .i64 0, .int .i64 255, .bool false] tLy)))
 have HLY5:Hid (((W3.setCell ⟨J,6,none⟩ (.slice (some ⟨W3.heap.size,0,none⟩) 1 1)).alloc (.cells #[.string ⟨#[68,49,48,42]⟩, .int .i64 9, .int .i64 0, .int .i64 0, .int .i64 255, .bool false] tLy)).heap[W3.heap.size]?=some (.cells #[.string ⟨#[68,49,48,42]⟩, .int .i64 9, .int .i64 0, .int .i64 0, .int .i64 255, .bool false] tLy)):=by have h:=alloc_new (W3.setCell ⟨J,6,none⟩ (.slice (some ⟨W3.heap.size,0,none⟩) 1 1)) (.cells #[.string ⟨#[68,49,48,42]⟩, .int .i64 9, .int .i64 0, .int .i64 0, .int .i64 255, .bool false] tLy);rw [ssz0] at h;exact h
 clear j6 g6 HA HJ3 HA4 HJ4 hJlt
 generalize (W3.setCell ⟨J,6,none⟩ (.slice (some ⟨W3.heap.size,0,none⟩) 1 1)).alloc (.cells #[.string ⟨#[68,49,48,42]⟩, .int .i64 9, .int .i64 0, .int .i64 0, .int .i64 255, .bool false] tLy)=W5 at HA5 HJ5 HLY5⊢
 obtain ⟨LB,hLB⟩:∃I,W3.heap.size=I:=⟨_,rfl⟩
 rw [hLB] at HJ5 HLY5⊢
 clear hLB
 have hr2:=Render_ok (fun _=>True) (-2) (-2) 4 1 1 0 [⟨⟨#[68,49,48,42]⟩,9,0,0,255,false⟩] (some ⟨LB,0,none⟩) 1 1 rfl none 0 1 2 3 10 10 aw2_job aw_ok W5 (Lib.hid (lys1 HLY5.out))
 rw [aw_ren2] at hr2
 obtain ⟨j0,j1,j2,j3,j4,j5,j6,j7,j8,j9,j10,j11,j12⟩:=jb_at HJ5.out
 go_upto_region 5 with (first |(go_at_call 20;(with_reducible refine hr2.mono ?_);intro e W6 hr;have hb6:=hr.bel;obtain rfl:=hr.no)| fail)
 have hb7:Below W5.heap.size W5 ((W6.alloc (.cells #[.int .i64 0, .int .i64 0, .bool false, .slice none 0 0] tIm)).alloc (.cells #[.int .i64 1, .int .i64 0, .int .i64 0, .int .i64 4] tFt)):=(hb6.alloc hb6.size _).alloc (Nat.le_trans hb6.size (bel_alloc W6 (.cells #[.int .i64 0, .int .i64 0, .bool false, .slice none 0 0] tIm)).size) _
 have HF7:Hid (((W6.alloc (.cells #[.int .i64 0, .int .i64 0, .bool false, .slice none 0 0] tIm)).alloc (.cells #[.int .i64 1, .int .i64 0, .int .i64 0, .int .i64 4] tFt)).heap[W6.heap.size+1]?=some (.cells #[.int .i64 1, .int .i64 0, .int .i64 0, .int .i64 4] tFt)):=by
  have a2:=alloc_new (W6.alloc (.cells #[.int .i64 0, .int .i64 0, .bool false, .slice none 0 0] tIm)) (.cells #[.int .i64 1, .int .i64 0, .int .i64 0, .int .i64 4] tFt)
  rw [show (W6.alloc (.cells #[.int .i64 0, .int .i64 0, .bool false, .slice none 0 0] tIm)).heap.size=W6.heap.size+1 from Array.size_push _] at a2
  exact a2
 have HA7:=Lib.hid (HA5.out.below hb7)
 have HJ7:=Lib.hid (one_below HJ5.out hb7)
 have HLY7:=Lib.hid (one_below HLY5.out hb7)
 clear hr hb6 hb7 hr2 j0 j1 j2 j3 j4 j5 j6 j7 j8 j9 j10 j11 j12 HA5 HJ5 HLY5
 generalize (W6.alloc (.cells #[.int .i64 0, .int .i64 0, .bool false, .slice none 0 0] tIm)).alloc (.cells #[.int .i64 1, .int .i64 0, .int .i64 0, .int .i64 4] tFt)=W7 at HF7 HA7 HJ7 HLY7⊢
 obtain ⟨F2,hF2⟩:∃I,W6.heap.size+1=I:=⟨_,rfl⟩
 rw [hF2] at HF7⊢
 clear hF2
 have hco:=Cover_bad (fun _=>True) (-2) (-2) 4 1 1 0 [⟨⟨#[68,49,48,42]⟩,9,0,0,255,false⟩] (some ⟨LB,0,none⟩) 1 1 rfl none 0 1 2 3 10 10 1 aw2_job (by decide) W7 (Lib.hid (lys1 HLY7.out))
 obtain ⟨j0,j1,j2,j3,j4,j5,j6,j7,j8,j9,j10,j11,j12⟩:=jb_at HJ7.out
 go_upto_region 6 with (first |(go_at_call 16;(with_reducible refine hco.mono ?_);intro e W8 hr;have hb8:=hr.bel;obtain rfl:=hr.no)| fail)
 have hb9:Below W7.heap.size W7 (W8.alloc (.cells #[.int .i64 0, .int .i64 0, .int .i64 0, .int .i64 1] tFt)):=hb8.alloc hb8.size _
 have HF9:Hid ((W8.alloc (.cells #[.int .i64 0, .int .i64 0, .int .i64 0, .int .i64 1] tFt)).heap[W8.heap.size]?=some (.cells #[.int .i64 0, .int .i64 0, .int .i64 0, .int .i64 1] tFt)):=alloc_new _ _
 have HA9:=Lib.hid (HA7.out.below hb9)
 have HF29:=Lib.hid (one_below HF7.out hb9)
 clear hr hb8 hb9 hco j0 j1 j2 j3 j4 j5 j6 j7 j8 j9 j10 j11 j12 HA7 HJ7 HF7 HLY7
 generalize W8.alloc (.cells #[.int .i64 0, .int .i64 0, .int .i64 0, .int .i64 1] tFt)=W9 at HF9 HA9 HF29⊢
 obtain ⟨F3,hF3⟩:∃I,W8.heap.size=I:=⟨_,rfl⟩
 rw [hF3] at HF9⊢
 clear hF3
 obtain ⟨i0,i1,i2,i3⟩:=ft_at HA9.out.im
 obtain ⟨B,hrow⟩:=HA9.out.row
 have hb10:=bel_alloc W9 (.cells #[.int .u8 1, .int .u8 2, .int .u8 3] 5)
 have hpix:RB (W9.alloc (.cells #[.int .u8 1, .int .u8 2, .int .u8 3] 5)) (some ⟨W9.heap.size,0,none⟩) [1,2,3]:=by
  refine RB.of fun i hi=>?_
  have h:=alloc_new W9 (.cells #[.int .u8 1, .int .u8 2, .int .u8 3] 5)
  have hi3:i < 3:=hi
  rcases (show i=0∨i=1∨i=2 by omega) with rfl | rfl | rfl <;> exact cell_of h rfl
 have hsm:=same27_c 1 1 true q (some ⟨W9.heap.size,0,none⟩) 3 3 cp 3 [1,2,3] (Lib.hid rfl) (Lib.hid rfl) _ ((rb_own hrow rfl).below hb10) hpix
 have HBW:Hid (Below w.heap.size w (W9.alloc (.cells #[.int .u8 1, .int .u8 2, .int .u8 3] 5))):=HA9.out.bel.trans (hb10.mono HA9.out.bel.size)
 obtain ⟨a0,a1,a2,a3⟩:=ft_at (one_below HA9.out.ft hb10)
 obtain ⟨b0,b1,b2,b3⟩:=ft_at (one_below HF29.out hb10)
 obtain ⟨c0,c1,c2,c3⟩:=ft_at (one_below HF9.out hb10)
 clear hrow
 go_wp2_with (first |(go_at_call 21;(with_reducible refine hsm.mono ?_);rintro e W10 ⟨rfl,hb11⟩;have a0:=cell_keep hb11 a0;have a1:=cell_keep hb11 a1;have a2:=cell_keep hb11 a2;have a3:=cell_keep hb11 a3;have b0:=cell_keep hb11 b0;have b1:=cell_keep hb11 b1;have b2:=cell_keep hb11 b2;have b3:=cell_keep hb11 b3;have c0:=cell_keep hb11 c0;have c1:=cell_keep hb11 c1;have c2:=cell_keep hb11 c2;have c3:=cell_keep hb11 c3)| fail)
 go_ret
 exact ⟨rfl,HBW.out.trans (hb11.mono HBW.out.size)⟩
end Go.Proofs.YtfldplmgkeiimaaGreatDoor.VW
namespace Go.Proofs.YtfldplmgkeiimaaGreatDoor.Law
open Go.ChangeShapes Go.WideShapes Go.ChangeAt Go.RowKit Go.Proofs.YtfldplmgkeiimaaGreatDoor.Base
theorem own:ownKnob Tryz.prog.godebug=none:=by kernel_rfl
theorem laidOut:laidOutB Tryz.prog=true:=by kernel_rfl
theorem trodAll_below {H:Type} {enc:TypeId × Value→H} {P:Program} (hl:laidOutB P=true) {W W':World} (hb:Below W.heap.size W W'):
  ∀{ts:List TypeId} {vs:List Value} {ds:List (DataW H)} {ps:List MemPlace},(ts.all fun t=>P.readableRec t && decide (t < P.types.size))=true→
   DataW.TrodAll enc P W 0 (fun _=>true) true ts vs ds ps→(∀x∈ps,x.block < W.heap.size)→DataW.TrodAll enc P W' 0 (fun b=>decide (b < W.heap.size)) true ts vs ds ps
 | [], [], [],_,_,h,_=>h
 | [], [],_ :: _,_,_,h,_=>h.elim
 | [],_ :: _, [],_,_,h,_=>h.elim
 | [],_ :: _,_ :: _,_,_,h,_=>h.elim
 | _ :: _, [],_,_,_,h,_=>h.elim
 | _ :: _,_ :: _, [],_,_,h,_=>h.elim
 | t :: ts,v :: vs,d :: ds,ps,hr,h,hlt=>by
  obtain ⟨p,q,h1,h2,rfl⟩:=h
  simp only [List.all_cons,Bool.and_eq_true,decide_eq_true_eq] at hr
  exact ⟨p,q,Below.trod hl hr.1.1 hr.1.2 h1 hb (fun x hx=>hlt x (by simp [hx])),trodAll_below hl hb hr.2 h2 (fun x hx=>hlt x (by simp [hx])),rfl⟩
set_option maxRecDepth 100000 in
theorem law_closed {os:Os} (started:os.Started) {f:FuncId} {fn:Func} {s:ChangeSpec} {laid:List (String × DataW Unit)} {H:Type} {enc:TypeId × Value→H}
  (noInit:Tryz.prog.inits.idxOf? f=none) (hfn:Tryz.prog.funcs[f]?=some fn) (hvars:s.vars= []) (hres:fn.resultTypes= #[4])
  (hpar:(fn.params.toList.all fun t=>Tryz.prog.readableRec t && decide (t < Tryz.prog.types.size))=true)
  (hspec:∀ds:List (DataW H),ds.length=fn.params.size→s.fn H (ds++ [])={results:= [.lit (.bool true)],args:=ds,vars:= []})
  (witness:∃(w:World) (tape:Tape) (i:Input),w.os=os∧(w.forCall tape i).Shaped Tryz.prog∧i.vars= []∧Input.okWide Tryz.prog (w.forCall tape i) .any w.heap.size f i∧
   ((s.pre enc Tryz.prog fn [] false (w.forCall tape i).memory i.args∧laidMetH Tryz.prog laid (w.forCall tape i).memory)∧sizedMet enc Tryz.prog fn (OpenSpec.ofChange s) false (w.forCall tape i).memory i.args)∧({}:Assume).holds Tryz.prog (lone (Frame.enter Tryz.prog f i.args .normal) [] (w.forCall tape i)))
  (walk:∀(W:World) (base:Nat) (args:Array Value) (ds:List (DataW H)) (p:List MemPlace),
   (∀(j:Nat) t v,fn.params[j]?=some t→args[j]?=some v→Value.okWide Tryz.prog W .any base t v)→
   DataW.TrodAll enc Tryz.prog W 0 (fun _=>true) true fn.params.toList args.toList ds p→
   (DataW.weightsEach Tryz.prog fn.params.toList ds).all (· ≤reachBytes)=true→
   W.noneFrozen p→laidMetH Tryz.prog laid W→Calls Tryz.prog f args W fun e W'=>e= .returned (.bool true)∧Below W.heap.size W W'):
  ReturnsInHanded {} Tryz.checked os f .any (fun w args=>(s.pre enc Tryz.prog fn [] false w args∧laidMetH Tryz.prog laid w)∧sizedMet enc Tryz.prog fn (OpenSpec.ofChange s) false w args) (s.post enc Tryz.prog fn false true false false):=by
 refine returnsInHanded_of_change_and (C:=Tryz.checked) (X:=fun w _=>laidMetH Tryz.prog laid w) (fun _ _ _ hh h=>h.of_heap hh) own started noInit hfn witness ?_
 intro W base args ds gs before hval0 hW _ hsz hL _
 have hval:∀(j:Nat) t v,fn.params[j]?=some t→args[j]?=some v→Value.okWide Tryz.prog W .any base t v:=hval0
 have hW':=hW
 obtain ⟨p,q,hA0,hV,rfl,hfz,hnd⟩:=hW
 have hA:DataW.TrodAll enc Tryz.prog W 0 (fun _=>true) true fn.params.toList args.toList ds p:=hA0
 have hgs:gs= []∧q= []:=by
  rw [hvars] at hV
  cases gs with
  | nil=>exact ⟨rfl,hV⟩
  | cons _ _=>exact hV.elim
 obtain ⟨rfl,rfl⟩:=hgs
 have hsz':(DataW.weightsEach Tryz.prog fn.params.toList ds).all (· ≤reachBytes)=true:=by
  have e1:s.plain.varTypes Tryz.prog= []:=by
   show s.vars.filterMap _= []
   rw [hvars];rfl
  have h:=hsz
  rw [show (s.plain.varTypes Tryz.checked.prog)= [] from e1,List.append_nil,List.append_nil] at h
  exact h
 have hlt:∀x∈p,x.block < W.heap.size:=fun x hx=>hW'.lt x (by simp [hx])
 have hfz':W.noneFrozen p:=by simpa using hfz
 have hlen:ds.length=fn.params.size:=by
  have:∀{ts:List TypeId} {vs:List Value} {ds:List (DataW H)} {ps:List MemPlace},DataW.TrodAll enc Tryz.prog W 0 (fun _=>true) true ts vs ds ps→ds.length=ts.length:=by
   intro ts
   induction ts with
   | nil=>intro vs ds ps h;cases vs <;> cases ds <;> first | rfl | exact h.elim
   | cons t ts ih=>
    intro vs ds ps h
    cases vs with
    | nil=>exact h.elim
    | cons v vs=>
     cases ds with
     | nil=>exact h.elim
     | cons d ds=>
      obtain ⟨p,q,_,h2,_⟩:=h
      simp [ih h2]
  simpa using this hA
 refine (walk W base args ds p hval hA hsz' hfz' hL).mono fun e W' ⟨he,hb⟩=>?_
 subst he
 refine ⟨_,rfl,ds, [],p++ [], [],p, [],hW',?_,?_,?_,hb.frame _,fun h=>by cases h⟩
 ·rw [hspec ds hlen,hres]
  exact trodAll_mk1 (shut_bool Tryz.underlying4 _)
 ·rw [hspec ds hlen]
  exact trodAll_below laidOut hb hpar hA hlt
 ·rw [hspec ds hlen,hvars]
  rfl
end Go.Proofs.YtfldplmgkeiimaaGreatDoor.Law
