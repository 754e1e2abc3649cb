/-
  Several texts of this proof in one: Vh, Vd, Vi.
-/
import Derived.Test.YtfldplmgkeiimaaGreatDoorQ0
import Derived.Laws.Rows
set_option linter.unusedVariables false
set_option linter.unusedSimpArgs false
namespace Go.Proofs.YtfldplmgkeiimaaGreatDoor.VW
open Go.RowKit Go.Proofs.YtfldplmgkeiimaaGreatDoor.Vp
def contL:List (List P2)→Int→Bool
 | [],_=>true
 | c :: l,left=>if left <(c.length:Int) then false else c.all farV && contL l (left - c.length)
theorem contL_eq (l:List (List P2)):∀n:Int,0≤n→contL l n=(decide (((l.map List.length).sum:Int)≤n) && l.all fun c=>c.all farV):=by
 induction l with
 | nil=>intro n hn;simp [contL,hn]
 | cons c l ih=>
  intro n hn
  unfold contL
  by_cases h:n <(c.length:Int)
  ·rw [if_pos h]
   have h2:¬((((c :: l).map List.length).sum:Nat):Int)≤n:=by
    simp only [List.map_cons,List.sum_cons]
    omega
   rw [decide_eq_false h2,Bool.false_and]
  ·rw [if_neg h,ih _ (by omega)]
   have h2:decide ((((c :: l).map List.length).sum:Nat)≤n)=decide ((((l.map List.length).sum:Nat):Int)≤n - c.length):=by
    apply decide_eq_decide.2
    simp only [List.map_cons,List.sum_cons]
    omega
   rw [h2,List.all_cons]
   cases c.all farV <;> simp
theorem contV_eq (l:List (List P2)):contV l=contL l 1000:=by
 rw [contL_eq _ _ (by decide)]
 unfold contV
 congr 1
 apply decide_eq_decide.2
 omega
theorem PtsIn.at {S:Nat→Prop} {w:World} {p:Option Addr} {l:List P2} (h:PtsIn S w p l) {i:Nat} (hi:i < l.length) {q:P2} (hq:l[i]=q):∃b o,p=some ⟨b,o,none⟩∧w.cell? ⟨b,o+i *2,none⟩=some (.int .i64 q.1)∧w.cell? ⟨b,o+i *2+1,none⟩=some (.int .i64 q.2):=by
 obtain ⟨b,o,cs,rfl,_,hh,hc⟩:=h.2 (by omega)
 obtain ⟨h1,h2⟩:=hc i hi
 rw [hq] at h1 h2
 exact ⟨b,o,rfl,by simp [World.cell?,hh,h1],by simp [World.cell?,hh,h2]⟩
theorem ConsIn.at {S:Nat→Prop} {w:World} {p:Option Addr} {l:List (List P2)} (h:ConsIn S w p l) {i:Nat} (hi:i < l.length) {r:List P2} (hr:l[i]=r):∃b o q c,p=some ⟨b,o,none⟩∧w.cell? ⟨b,o+i,none⟩=some (.slice q r.length c)∧r.length≤c∧PtsIn S w q r:=by
 obtain ⟨b,o,cs,rfl,_,hh,hc⟩:=h.2 (by omega)
 obtain ⟨q,c,h1,h2,h3⟩:=hc i hi
 rw [hr] at h1 h2 h3
 exact ⟨b,o,q,c,rfl,by simp [World.cell?,hh,h1],h2,h3⟩
set_option maxRecDepth 100000 in
set_option maxHeartbeats 3200000 in
theorem contours_c (S:Nat→Prop) (p:Option Addr) (l:List (List P2)) (n c:Nat) (hn:n=l.length) (w:World) (H:Hid (ConsIn S w p l)) (b:Bool) (hb:Hid (contV l=b)):
  Calls Tryz.prog 247 #[.slice p n c] w fun e w'=>e= .returned (.bool b)∧Below w.heap.size w w':=by
 have hbig:n≤1000000000:=by rw [hn];exact H.out.1
 have HN:=Lib.hid hn
 have HC0:Hid (contL (l.drop 0) 1000=b):=by show _=_;rw [←hb.out,contV_eq];rfl
 clear hb hn
 go_enter Tryz.func247,Tryz.ntmps247
 go_wp2_with fail
 go_loopw [3,10] (fun lf i wr=>∃(j:Nat) (left:Int) (wy:World),wy=wr∧j≤n∧0≤left∧left≤1000∧Hid (contL (l.drop j) left=b)∧lf= .int .i64 left∧i= .int .i64 j∧Hid (Below w.heap.size w wy)) (fun _ i _=>n -(intOf i).toNat)
 case atStart=>exact ⟨0,1000,_,rfl,Nat.zero_le _,by decide,by decide,HC0.out,rfl,rfl,Below.refl _ _⟩
 case round=>
 obtain ⟨j,left,wy,rfl,hj,hl0,hl1,HJ,rfl,rfl,HB⟩:=hrel
 by_cases hlt:j < n
 ·have hlt2:j < l.length:=by rw [←HN.out];exact hlt
  have hlti:(j:Int)<(n:Int):=by omega
  obtain ⟨r,hr⟩:∃r,l[j]=r:=⟨_,rfl⟩
  obtain ⟨bb,o,q,cc,rfl,hcell,_,hpts⟩:=(H.out.below HB.out).at hlt2 hr
  have HP:=Lib.hid hpts
  have hrl:r.length≤1000000000:=hpts.1
  have HJ2:Hid ((if left <(r.length:Int) then false else r.all farV && contL (l.drop (j+1)) (left - r.length))=b):=by
   show _=_
   rw [←HJ.out,List.drop_eq_getElem_cons hlt2,hr]
   rfl
  obtain ⟨m,hm⟩:∃m,r.length=m:=⟨_,rfl⟩
  have HM:=Lib.hid hm
  rw [hm] at hcell HJ2 hrl
  clear hpts hr HJ hm
  by_cases hle:left <(m:Int)
  ·have HF:Hid (false=b):=by show _=_;rw [←HJ2.out,if_pos hle]
   go_wp2_with fail
   go_ret
   exact ⟨ret_b HF.out,HB.out⟩
  ·have HJ3:Hid ((r.all farV && contL (l.drop (j+1)) (left - m))=b):=by show _=_;rw [←HJ2.out,if_neg hle]
   clear HJ2
   have hle2:(m:Int)≤left:=by omega
   have hw:IntKind.i64.wrap (left -(m:Int))=left -(m:Int):=IntWalk.i64_in _ (by omega)
   go_wp2_with fail
   have HW:=Lib.hid (HB.out)
   go_loopw [24] (fun i wx=>∃(k:Nat) (wz:World),wz=wx∧k≤m∧Hid ((r.drop k).all farV=r.all farV)∧i= .int .i64 k∧Hid (Below wy.heap.size wy wz)) (fun i _=>m -(intOf i).toNat)
   case atStart=>exact ⟨0,_,rfl,Nat.zero_le _,rfl,rfl,Below.refl _ _⟩
   case round=>
   obtain ⟨k,wz,rfl,hk,HK,rfl,HZ⟩:=hrel
   by_cases hkl:k < m
   ·have hkl2:k < r.length:=by rw [HM.out];exact hkl
    have hkli:(k:Int)<(m:Int):=by omega
    obtain ⟨z,hz⟩:∃z,r[k]=z:=⟨_,rfl⟩
    obtain ⟨pb,po,rfl,s0,s1⟩:=(HP.out.below HZ.out).at hkl2 hz
    obtain ⟨zx,zy⟩:=z
    have HKZ:Hid ((r.drop k).all farV=(farV (zx,zy) && (r.drop (k+1)).all farV)):=by
     show _=_
     rw [List.drop_eq_getElem_cons hkl2,hz]
     rfl
    clear hz
    obtain ⟨f,hf⟩:∃f,farV (zx,zy)=f:=⟨_,rfl⟩
    have HFZ:=Lib.hid hf
    clear hf
    go_wp2_with fail
    refine (near_c (zx,zy) _).mono ?_
    rintro e w1 ⟨rfl,rfl⟩
    have HZ2:Hid (Below wy.heap.size wy ((wz.alloc (ptO (zx,zy))).alloc (ptO (zx,zy)))):=(HZ.out.alloc HZ.out.size _).alloc (by have:=HZ.out.size;simp;omega) _
    rw [HFZ.out]
    generalize (wz.alloc (ptO (zx,zy))).alloc (ptO (zx,zy))=w2 at HZ2⊢
    cases f with
    | true=>
     have HK2:Hid ((r.drop (k+1)).all farV=r.all farV):=by
      show _=_
      rw [←HK.out,HKZ.out,HFZ.out,Bool.true_and]
     go_wp2_with fail
     go_round <;> first | exact ⟨k+1,_,rfl,by omega,HK2.out,by go_num,HZ2.out⟩|(simp [intOf] <;> omega)
    | false=>
     have HF:Hid (false=b):=by
      show _=_
      rw [←HJ3.out,←HK.out,HKZ.out,HFZ.out,Bool.false_and,Bool.false_and]
     go_wp2_with fail
     go_ret
     exact ⟨ret_b HF.out,HB.out.trans (HZ2.out.mono HB.out.size)⟩
   ·have hkm:k=m:=by omega
    have HQ:Hid (contL (l.drop (j+1)) (left - m)=b):=by
     show _=_
     have h1:=HK.out
     rw [List.drop_eq_nil_of_le (by have:=HM.out;omega)] at h1
     rw [←HJ3.out,←h1]
     rfl
    subst hkm
    go_wp2_with fail
    go_round <;> first | exact ⟨j+1,left - k,_,rfl,by omega,by omega,by omega,HQ.out,by go_num,by go_num,HB.out.trans (HZ.out.mono HB.out.size)⟩|(simp [intOf] <;> omega)
 ·have hje:j=n:=by omega
  have HT:Hid (true=b):=by
   show _=_
   rw [←HJ.out,List.drop_eq_nil_of_le (by rw [←HN.out];omega)]
   rfl
  subst hje
  go_wp2_with fail
  go_ret
  exact ⟨ret_b HT.out,HB.out⟩
end Go.Proofs.YtfldplmgkeiimaaGreatDoor.VW
namespace Go.Proofs.YtfldplmgkeiimaaGreatDoor.Vp
structure Bx where
 x0:Int
 y0:Int
 x1:Int
 y1:Int
deriving DecidableEq
def bx0:Bx:=⟨0,0,0,0⟩
def wiV (v:Int):Bool:=decide (-536870912≤v) && decide (v≤536870912)
def okB (b:Bx):Bool:=decide (b.x0≤b.x1) && (decide (b.y0≤b.y1) && (wiV b.x0 && (wiV b.y0 && (wiV b.x1 && wiV b.y1))))
def corners (b:Bx):List P2:= [(b.x0,b.y0),(b.x1,b.y0),(b.x0,b.y1),(b.x1,b.y1)]
def splitB (b:Bx):List Bx:=
 let x:=b.x0+(b.x1 - b.x0)/ 2
 let y:=b.y0+(b.y1 - b.y0)/ 2
 [⟨b.x0,b.y0,x,y⟩,⟨x,b.y0,b.x1,y⟩,⟨b.x0,y,x,b.y1⟩,⟨x,y,b.x1,b.y1⟩]
def gapV (v lo hi:Int):Int:=if v < lo then lo - v else if hi < v then v - hi else 0
def reachV (v lo hi:Int):Int:=max (max (max (v - lo) (lo - v)) (v - hi)) (hi - v)
def nearB (b:Bx) (p:P2):Int:=gapV p.1 b.x0 b.x1 *gapV p.1 b.x0 b.x1+gapV p.2 b.y0 b.y1 *gapV p.2 b.y0 b.y1
def mostB (b:Bx) (p:P2):Int:=reachV p.1 b.x0 b.x1 *reachV p.1 b.x0 b.x1+reachV p.2 b.y0 b.y1 *reachV p.2 b.y0 b.y1
def crossV (o a b:P2):Int:=(a.1 - o.1) *(b.2 - o.2) -(a.2 - o.2) *(b.1 - o.1)
def dotV (o a b:P2):Int:=(b.1 - o.1) *(a.1 - o.1)+(b.2 - o.2) *(a.2 - o.2)
def meetsV (b:Bx) (p q:P2):Bool:=
 if max p.1 q.1 < b.x0∨b.x1 < min p.1 q.1∨max p.2 q.2 < b.y0∨b.y1 < min p.2 q.2 then false
 else !((corners b).all fun c=>decide (0 < crossV p q c)) && !((corners b).all fun c=>decide (crossV p q c < 0))
def emptyB (b:Bx):Bool:=decide (b.x1 < b.x0)|| decide (b.y1 < b.y0)
def apartV (a b:Bx):Bool:=emptyB a ||(emptyB b ||(decide (a.x1 < b.x0)||(decide (b.x1 < a.x0)||(decide (a.y1 < b.y0)|| decide (b.y1 < a.y0)))))
def discC (b:Bx) (c:P2) (r:Int):Int:=if r *r < nearB b c then 0 else if mostB b c≤r *r then 2 else 1
def lineH (p a c:P2) (r:Int):Bool:=
 if dotV a c p≤0 then decide (dist2 p a≤r *r)
 else if dist2 c a≤dotV a c p then decide (dist2 p c≤r *r)
 else decide (crossV a c p *crossV a c p≤r *r *dist2 c a)
def lineC (b:Bx) (a c:P2) (r:Int):Int:=
 if ((corners b).all fun p=>lineH p a c r)=true then 2
 else if ((corners b).any fun p=>lineH p a c r)=true∨nearB b a≤r *r∨nearB b c≤r *r∨meetsV b a c=true then 1 else 0
def sideV (p a c:P2) (h:Int):Int:=if crossV a c p *crossV a c p≤h *h *dist2 c a then 0 else if 0 < crossV a c p then 1 else -1
def pastV (p a c:P2):Int:=if dotV a c p < 0 then -1 else if dist2 c a < dotV a c p then 1 else 0
def barH (p a c:P2) (h:Int):Bool:=decide (sideV p a c h=0) && decide (pastV p a c=0)
def barC (b:Bx) (a c:P2) (h:Int):Int:=
 if ((corners b).all fun p=>barH p a c h)=true then 2
 else if ((corners b).all fun p=>decide (sideV p a c h= -1))=true∨((corners b).all fun p=>decide (sideV p a c h=1))=true∨((corners b).all fun p=>decide (pastV p a c= -1))=true∨((corners b).all fun p=>decide (pastV p a c=1))=true then 0
 else 1
def greatV (c a e:P2):Bool:=decide (crossV c a e < 0)
def outsideV (d q r:Int):Bool:=decide (q - r *r - d≤0)|| decide ((q - r *r - d) *(q - r *r - d)≤4 *d *(r *r))
def insideV (d q r:Int):Bool:=decide (d - q - r *r≤0)|| decide ((d - q - r *r) *(d - q - r *r)≤4 *q *(r *r))
def withinV (b:Bx) (c a e:P2):Bool:=
 if a=e then true
 else if greatV c a e=true then ((corners b).all fun p=>decide (0≤crossV c a p))||((corners b).all fun p=>decide (0≤crossV c p e))
 else ((corners b).all fun p=>decide (0≤crossV c a p)) && ((corners b).all fun p=>decide (0≤crossV c p e))
def offV (b:Bx) (c a e:P2):Bool:=
 if a=e then false
 else if greatV c a e=true then ((corners b).all fun p=>decide (crossV c a p < 0)) && ((corners b).all fun p=>decide (crossV c p e < 0))
 else ((corners b).all fun p=>decide (crossV c a p < 0))||((corners b).all fun p=>decide (crossV c p e < 0))
def ringC (b:Bx) (c a e:P2) (r:Int):Int:=
 if discC b a r=2∨discC b e r=2 then 2
 else if withinV b c a e=true∧outsideV (nearB b c) (dist2 a c) r=true∧insideV (mostB b c) (dist2 a c) r=true then 2
 else if discC b a r≠0∨discC b e r≠0 then 1
 else if offV b c a e=true∨insideV (nearB b c) (dist2 a c) r=false∨outsideV (mostB b c) (dist2 a c) r=false then 0
 else 1
def edges (c:List P2):List (P2 × P2):=c.zip (c.drop 1++c.take 1)
def touchV (b:Bx) (l:List (List P2)):Bool:=l.any fun c=>(edges c).any fun e=>meetsV b e.1 e.2
def crossesV (p a e:P2):Bool:=
 if decide (p.2 < a.2)=decide (p.2 < e.2) then false else if a.2 < e.2 then decide (0 < crossV a e p) else decide (crossV a e p < 0)
def oddV (p:P2) (l:List (List P2)):Bool:=l.foldl (fun i c=>(edges c).foldl (fun i e=>if crossesV p e.1 e.2=true then !i else i) i) false
def polyC (b:Bx) (l:List (List P2)):Int:=if touchV b l=true then 1 else if oddV (b.x0,b.y0) l=true then 2 else 0
def foldV (was cls:Int) (add:Bool):Int:=
 if was < 0∨2 < was∨cls < 0∨2 < cls then 1
 else if cls=0 then was
 else if cls=2 then (if add=true then 2 else 0)
 else if add=true∧was=2 then 2
 else if add=false∧was=0 then 0
 else 1
def clsB (x:Bx) (b:Bs) (sub:Int):Int:=
 if b.k=1 then discC x b.a b.r
 else if b.k=2 then polyC x b.l
 else if b.k=3 then lineC x b.a b.b b.r
 else if b.k=4 then barC x b.a b.b b.r
 else if b.k=5 then ringC x b.c b.a b.b b.r
 else sub
def clsP (x:Bx):Ps→Int→Int
 | .nil,acc=>acc
 | .cons a b s r,acc=>clsP x r (foldV acc (clsB x b (clsP x s 0)) a)
def clsS (x:Bx) (s:Shp):Int:=clsB x s.b (clsP x s.p 0)
def classV (x:Bx) (s:Shp):Int:=if okV s=true then clsS x s else 0
def rootN:Nat→Int→Int→Int→Int
 | 0,lo,_,_=>lo
 | k+1,lo,hi,v=>if lo < hi then (if v≤(lo+hi)/ 2 *((lo+hi)/ 2) then rootN k lo ((lo+hi)/ 2) v else rootN k ((lo+hi)/ 2+1) hi v) else lo
def rootV (v:Int):Int:=rootN 32 0 2147483648 v
def aroundV (p q:P2) (r:Int):Bx:=⟨max (min p.1 q.1 - r) (-536870912),max (min p.2 q.2 - r) (-536870912),min (max p.1 q.1+r) 536870912,min (max p.2 q.2+r) 536870912⟩
def takeV (o:Option Bx) (b:Bx):Option Bx:=match o with
 | none=>some b
 | some a=>some ⟨min a.x0 b.x0,min a.y0 b.y0,max a.x1 b.x1,max a.y1 b.y1⟩
def boundsB (b:Bs) (sub:Option Bx→Option Bx):Option Bx:=
 if b.k=1 then some (aroundV b.a b.a b.r)
 else if b.k=3∨b.k=4 then some (aroundV b.a b.b b.r)
 else if b.k=5 then some (aroundV b.c b.c (b.r+rootV (dist2 b.a b.c)))
 else sub (b.l.foldl (fun o c=>c.foldl (fun o p=>takeV o (aroundV p p 0)) o) none)
def boundsP:Ps→Option Bx→Option Bx
 | .nil,o=>o
 | .cons a b s r,o=>boundsP r (if a=true then (match boundsB b (boundsP s) with
  | none=>o
  | some x=>takeV o x) else o)
def boundsS (s:Shp):Option Bx:=if okV s=true then boundsB s.b (boundsP s.p) else none
end Go.Proofs.YtfldplmgkeiimaaGreatDoor.Vp
namespace Go.Proofs.YtfldplmgkeiimaaGreatDoor.VW
open Go.RowKit Go.Proofs.YtfldplmgkeiimaaGreatDoor.Vp
theorem bel_drewN {B:Nat} {a w:World} (h:Below B a w) (n:Nat):Below B a (w.drewN n):=⟨h.os,h.tape,h.output,h.size,h.block⟩
theorem one_below {w w':World} {k:Nat} {o:Obj} (h:w.heap[k]?=some o) (hb:Below w.heap.size w w'):w'.heap[k]?=some o:=(hb.block k (lt_of_heap h)).trans h
theorem pt_at {w:World} {k:Nat} {p:P2} (h:w.heap[k]?=some (ptO p)):w.cell? ⟨k,0,none⟩=some (.int .i64 p.1)∧w.cell? ⟨k,1,none⟩=some (.int .i64 p.2):=by
 constructor <;> simp [World.cell?,h]
theorem alloc_new (w:World) (o:Obj):(w.alloc o).heap[w.heap.size]?=some o:=heap_alloc_new w o
theorem alloc_size (w:World) (o:Obj):(w.alloc o).heap.size=w.heap.size+1:=by simp
theorem bel_alloc (w:World) (o:Obj):Below w.heap.size w (w.alloc o):=(Below.refl _ _).alloc (Nat.le_refl _) _
theorem three_at {w W:World} {o1 o2 o3:Obj} (h:((w.alloc o1).alloc o2).alloc o3=W):W.heap[w.heap.size]?=some o1∧W.heap[w.heap.size+1]?=some o2∧W.heap[w.heap.size+1+1]?=some o3∧Below w.heap.size w W∧W.heap.size=w.heap.size+3:=by
 subst h
 have e1:=alloc_size w o1
 have e2:=alloc_size (w.alloc o1) o2
 have e3:=alloc_size ((w.alloc o1).alloc o2) o3
 have h1:=alloc_new w o1
 have h2:=alloc_new (w.alloc o1) o2
 have h3:=alloc_new ((w.alloc o1).alloc o2) o3
 rw [e1] at h2 e2
 rw [e2] at h3 e3
 have b1:=bel_alloc w o1
 have b2:=bel_alloc (w.alloc o1) o2
 have b3:=bel_alloc ((w.alloc o1).alloc o2) o3
 exact ⟨one_below (one_below h1 b2) b3,one_below h2 b3,h3,(b1.trans (b2.mono (by omega))).trans (b3.mono (by omega)),e3⟩
theorem ret_i {a b:Int} (h:a=b):Ending.returned (.int .i64 a)= .returned (.int .i64 b):=by rw [h]
def inI (x:Int):Prop:=-2305843009213693952≤x∧x≤2305843009213693952
theorem gap_c (v lo hi:Int) (h:inI v∧inI lo∧inI hi) (g:Int) (hg:Hid (gapV v lo hi=g)) (w:World):
  Calls Tryz.prog 304 #[.int .i64 v, .int .i64 lo, .int .i64 hi] w fun e w'=>e= .returned (.int .i64 g)∧w'=w:=by
 unfold inI at h
 have h1:IntKind.i64.wrap (lo - v)=lo - v:=IntWalk.i64_in _ (by omega)
 have h2:IntKind.i64.wrap (v - hi)=v - hi:=IntWalk.i64_in _ (by omega)
 clear h
 go_enter Tryz.func304,Tryz.ntmps304
 go_wp2_with fail
 all_goals
  go_ret
  refine ⟨ret_i ?_,rfl⟩
  have:=hg.out
  grind [gapV]
def fitsI (x:Int):Prop:=-2147483647≤x∧x≤2147483647
theorem sq_in {x:Int} (h:fitsI x):0≤x *x∧x *x≤4611686014132420609:=by
 obtain ⟨h1,h2⟩:=h
 have h3:0≤(2147483647 - x) *(2147483647+x):=Int.mul_nonneg (by omega) (by omega)
 have h4:(2147483647 - x) *(2147483647+x)=4611686014132420609 - x *x:=by grind
 have h5:0≤x *x:=by
  rcases Int.le_total 0 x with h | h
  ·exact Int.mul_nonneg h h
  ·have:=Int.mul_nonneg (a:=-x) (b:=-x) (by omega) (by omega)
   rwa [Int.neg_mul_neg] at this
 omega
abbrev bxV (b:Bx):Value:= .agg #[.int .i64 b.x0, .int .i64 b.y0, .int .i64 b.x1, .int .i64 b.y1]
abbrev bxO (b:Bx):Obj:= .cells #[.int .i64 b.x0, .int .i64 b.y0, .int .i64 b.x1, .int .i64 b.y1] 198
structure Bx.In (b:Bx):Prop where
 x0:inI b.x0
 y0:inI b.y0
 x1:inI b.x1
 y1:inI b.y1
set_option maxHeartbeats 1600000 in
theorem boxNear_c (x0 y0 x1 y1 px py:Int) (hb:Bx.In ⟨x0,y0,x1,y1⟩) (hp:inI px∧inI py) (gx gy:Int) (hx:Hid (gapV px x0 x1=gx)) (hy:Hid (gapV py y0 y1=gy)) (fx:fitsI gx) (fy:fitsI gy) (d:Int) (hd:Hid (gx *gx+gy *gy=d)) (w:World):
  Calls Tryz.prog 260 #[.agg #[.int .i64 x0, .int .i64 y0, .int .i64 x1, .int .i64 y1], .agg #[.int .i64 px, .int .i64 py]] w fun e w'=>e= .returned (.int .i64 d)∧Below w.heap.size w w':=by
 have H1:=Lib.hid hb
 have H2:=Lib.hid hp
 have h1:=sq_in fx
 have h2:=sq_in fy
 have w1:IntKind.i64.wrap (gx *gx)=gx *gx:=IntWalk.i64_in _ (by omega)
 have w2:IntKind.i64.wrap (gy *gy)=gy *gy:=IntWalk.i64_in _ (by omega)
 have w3:IntKind.i64.wrap (gx *gx+gy *gy)=d:=by rw [←hd.out];exact IntWalk.i64_in _ (by omega)
 have G1:=Lib.hid (gap_c px x0 x1 ⟨hp.1,hb.x0,hb.x1⟩ gx hx)
 have G2:=Lib.hid (gap_c py y0 y1 ⟨hp.2,hb.y0,hb.y1⟩ gy hy)
 clear h1 h2 fx fy hb hp H1 H2
 go_enter Tryz.func260,Tryz.ntmps260
 go_upto_region 1 with fail
 go_quiet (first
  |(go_at_call 304;with_reducible exact Calls.quiet_of_same (G1.out _))
  |(go_at_call 304;with_reducible exact Calls.quiet_of_same (G2.out _))
  | fail)
 go_wp2_with fail
 go_ret
 exact ⟨rfl,bel_drewN (((Below.refl _ _).alloc (Nat.le_refl _) _).alloc (by simp) _) _⟩
theorem gap_point (v q:Int):gapV v q q *gapV v q q=(v - q) *(v - q)∧(fitsI (v - q)→fitsI (gapV v q q)):=by
 unfold gapV fitsI
 by_cases h1:v < q
 ·rw [if_pos h1]
  exact ⟨by grind,by omega⟩
 ·rw [if_neg h1]
  by_cases h2:q < v
  ·rw [if_pos h2]
   exact ⟨rfl,id⟩
  ·rw [if_neg h2]
   obtain rfl:v=q:=by omega
   simp
theorem apart_c (p q:P2) (hp:inI p.1∧inI p.2) (hq:inI q.1∧inI q.2) (f1:fitsI (p.1 - q.1)) (f2:fitsI (p.2 - q.2)) (d:Int) (hd:Hid (dist2 p q=d)) (w:World):
  Calls Tryz.prog 227 #[ptV2 p,ptV2 q] w fun e w'=>e= .returned (.int .i64 d)∧Below w.heap.size w w':=by
 obtain ⟨px,py⟩:=p
 obtain ⟨qx,qy⟩:=q
 obtain ⟨gx,hx⟩:∃g,gapV px qx qx=g:=⟨_,rfl⟩
 obtain ⟨gy,hy⟩:∃g,gapV py qy qy=g:=⟨_,rfl⟩
 have k1:=gap_point px qx
 have k2:=gap_point py qy
 rw [hx] at k1
 rw [hy] at k2
 have HD:Hid (gx *gx+gy *gy=d):=by
  show _=_
  rw [k1.1,k2.1,←hd.out]
  rfl
 have G:=Lib.hid (boxNear_c qx qy qx qy px py ⟨hq.1,hq.2,hq.1,hq.2⟩ hp gx gy hx hy (k1.2 f1) (k2.2 f2) d HD)
 clear k1 k2 f1 f2 hp hq hx hy HD hd
 go_enter Tryz.func227,Tryz.ntmps227
 go_wp2_with fail
 with_reducible refine (G.out _).mono ?_
 rintro e w' ⟨rfl,hb⟩
 have HB:Hid (Below w.heap.size w w'):=(((Below.refl _ _).alloc (Nat.le_refl _) _).alloc (by simp) _).trans (hb.mono (by simp <;> omega))
 clear hb
 go_wp2_with fail
 go_ret
 exact ⟨rfl,HB.out⟩
set_option maxHeartbeats 1600000 in
theorem ringOk_c (c a e:P2) (hc:inI c.1∧inI c.2) (ha:inI a.1∧inI a.2) (he:inI e.1∧inI e.2) (f1:fitsI (a.1 - c.1)) (f2:fitsI (a.2 - c.2)) (f3:fitsI (e.1 - c.1)) (f4:fitsI (e.2 - c.2)) (b:Bool) (hb:Hid (ringOk c a e=b)) (w:World):
  Calls Tryz.prog 187 #[ptV2 c,ptV2 a,ptV2 e] w fun r w'=>r= .returned (.bool b)∧Below w.heap.size w w':=by
 obtain ⟨d1,hd1⟩:∃d,dist2 a c=d:=⟨_,rfl⟩
 obtain ⟨d2,hd2⟩:∃d,dist2 e c=d:=⟨_,rfl⟩
 have G1:=Lib.hid (apart_c a c ha hc f1 f2 d1 hd1)
 have G2:=Lib.hid (apart_c e c he hc f3 f4 d2 hd2)
 have HB:Hid ((decide (d1≠0) && decide (d1=d2))=b):=by
  show _=_
  rw [←hb.out]
  unfold ringOk
  rw [hd1,hd2]
 obtain ⟨cx,cy⟩:=c
 obtain ⟨ax,ay⟩:=a
 obtain ⟨ex,ey⟩:=e
 clear hc ha he f1 f2 f3 f4 hb hd1 hd2
 go_enter Tryz.func187,Tryz.ntmps187
 go_upto_region 1 with fail
 obtain ⟨W,hW⟩:∃W,((w.alloc (ptO (cx,cy))).alloc (ptO (ax,ay))).alloc (ptO (ex,ey))=W:=⟨_,rfl⟩
 obtain ⟨h1,h2,h3,hbe,hsz⟩:=three_at hW
 have HE:=Lib.hid h3
 have HC:=Lib.hid h1
 have HBE:=Lib.hid hbe
 obtain ⟨c1,c2⟩:=pt_at h1
 obtain ⟨a1,a2⟩:=pt_at h2
 simp only [ptO] at hW
 rw [hW]
 clear h1 h2 h3 hbe hW hsz
 go_wp2_with fail
 with_reducible refine (G1.out _).mono ?_
 rintro r w1 ⟨rfl,hb1⟩
 have HB1:Hid (Below w.heap.size w w1):=HBE.out.trans (hb1.mono HBE.out.size)
 have e1:=pt_at (one_below HE.out hb1)
 have e2:=pt_at (one_below HC.out hb1)
 obtain ⟨p1,p2⟩:=e1
 obtain ⟨q1,q2⟩:=e2
 clear c1 c2 a1 a2 hb1
 by_cases h0:d1=0
 ·have HF:Hid (false=b):=by show _=_;rw [←HB.out,decide_eq_false (by simp [h0])];rfl
  have h0b:(d1 !=0)=false:=by rw [h0];rfl
  go_wp2_with fail
  go_ret
  exact ⟨ret_b HF.out,HB1.out⟩
 ·have h0b:(d1 !=0)=true:=by simp [h0]
  go_wp2_with fail
  with_reducible refine (G2.out _).mono ?_
  rintro r w2 ⟨rfl,hb2⟩
  have HB2:Hid (Below w.heap.size w w2):=HB1.out.trans (hb2.mono HB1.out.size)
  clear hb2
  go_wp2_with fail
  go_ret
  refine ⟨ret_b ?_,HB2.out⟩
  rw [←HB.out,decide_eq_true h0,Bool.true_and]
  grind
end Go.Proofs.YtfldplmgkeiimaaGreatDoor.VW
