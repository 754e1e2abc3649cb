/-
  Several texts of this proof in one: K2.
-/
import Derived.Below
import Derived.Laws.OwnMore
import Derived.Deep.Draws
import Derived.Shelf.Bytes.SlSmallAll
import Derived.Laws.BytesArg
import Derived.Laws.IdiomStrings
import Derived.Laws.CopyRow
import Derived.OwnWalk
import Derived.Test.YtfldplmgkeiimaaGreatDoorQ0
import Derived.Test.YtfldplmgkeiimaaGreatDoorQ13
import Derived.Deep.AppendLies
import Derived.Lib.FrozenHead
import Derived.Test.YtfldplmgkeiimaaGreatDoorProg
import Derived.WalkKit
import Derived.WalkSpells
import Derived.WalkLawsBesides
import Derived.Lib.Hide
import Derived.Deep.DeepCutAuto
import Derived.Deep.CutRange
import Derived.Lib.Strings
import Derived.Outline
import Derived.Laws.BitsLemmas
set_option linter.unusedVariables false
set_option linter.unusedSimpArgs false
namespace Go.Proofs.YtfldplmgkeiimaaGreatDoor.Mem
open Go.RowKit
def num (l:List UInt8):List Int:=l.map fun c=>(c.toNat:Int)
def byteVs (l:List UInt8):List Value:=l.map fun c=>Value.int .u8 (c.toNat:Int)
theorem num_length (l:List UInt8):(num l).length=l.length:=by simp [num]
theorem byteVs_length (l:List UInt8):(byteVs l).length=l.length:=by simp [byteVs]
theorem byteVs_append (a b:List UInt8):byteVs (a++b)=byteVs a++byteVs b:=by simp [byteVs]
theorem bytesOf_num (l:List UInt8):Lib.bytesOf (num l)=l:=by
 unfold Lib.bytesOf num
 rw [List.map_map]
 conv=>rhs;rw [←List.map_id l]
 apply List.map_congr_left
 intro c _
 simp
theorem strOfNums_num (l:List UInt8):strOfNums (num l)=⟨l.toArray⟩:=by
 unfold strOfNums
 have h:=bytesOf_num l
 unfold Lib.bytesOf at h
 rw [h]
theorem num_getD (l:List UInt8) (i:Nat) (h:i < l.length):(num l).getD i 0=(l[i].toNat:Int):=by
 simp [num,List.getD,h]
theorem byteVs_get (l:List UInt8) (i:Nat) (h:i < l.length):(byteVs l)[i]?=some (.int .u8 (l[i].toNat:Int)):=by
 simp [byteVs,h]
def RB (w:World) (p:Option Addr) (l:List UInt8):Prop:=Lib.BytesIn w p l.length (num l)
theorem RB.nil (w:World) (p:Option Addr):RB w p []:=Lib.BytesIn.nil w p _
theorem lt_of_cell {w:World} {a:Addr} {u:Value} (h:w.cell? a=some u):a.block < w.heap.size:=by
 rcases Nat.lt_or_ge a.block w.heap.size with h' | h'
 ·exact h'
 ·simp [World.cell?,Array.getElem?_eq_none h'] at h
theorem RB.cell {w:World} {b o:Nat} {l:List UInt8} (h:RB w (some ⟨b,o,none⟩) l) (i:Nat) (hi:i < l.length):w.cell? ⟨b,o+i,none⟩=some (.int .u8 (l[i].toNat:Int)):=by
 obtain ⟨b',o',e,hc⟩:=h.at (by omega)
 injection e with e
 injection e with e1 e2 _
 subst e1;subst e2
 rw [hc i hi,num_getD l i hi]
theorem RB.addr {w:World} {p:Option Addr} {l:List UInt8} (h:RB w p l) (hl:0 < l.length):∃b o,p=some ⟨b,o,none⟩:=by
 obtain ⟨b,o,e,_⟩:=h.at hl
 exact ⟨b,o,e⟩
theorem RB.of {w:World} {b o:Nat} {l:List UInt8} (h:∀i (hi:i < l.length),w.cell? ⟨b,o+i,none⟩=some (.int .u8 (l[i].toNat:Int))):RB w (some ⟨b,o,none⟩) l:=
 fun _=>⟨b,o,rfl,fun i hi=>by rw [h i hi,num_getD l i hi]⟩
theorem RB.lt {w:World} {b o:Nat} {l:List UInt8} (h:RB w (some ⟨b,o,none⟩) l) (hl:0 < l.length):b < w.heap.size:=lt_of_cell (h.cell 0 hl)
theorem RB.keep {w w':World} {p:Option Addr} {l:List UInt8} (h:RB w p l) (hk:∀a:Addr,(∃u,w.cell? a=some u)→w'.cell? a=w.cell? a):RB w' p l:=by
 intro hl
 obtain ⟨b,o,rfl,hc⟩:=h.at hl
 exact ⟨b,o,rfl,fun i hi=>by rw [hk _ ⟨_,hc i hi⟩];exact hc i hi⟩
theorem RB.below {w w':World} {p:Option Addr} {l:List UInt8} (h:RB w p l) (hb:Below w.heap.size w w'):RB w' p l:=
 h.keep fun a ⟨_,ha⟩=>hb.cell (p:=a) (lt_of_cell ha)
theorem RB.take {w:World} {p:Option Addr} {l:List UInt8} (h:RB w p l) (k:Nat):RB w p (l.take k):=by
 intro hl
 have hl':0 < l.length:=by simp at hl;omega
 obtain ⟨b,o,rfl⟩:=h.addr hl'
 refine ⟨b,o,rfl,fun i hi=>?_⟩
 rw [num_getD _ i hi]
 have hi':i < l.length:=by simp at hi;omega
 rw [h.cell i hi']
 simp
theorem RB.drop {w:World} {b o:Nat} {l:List UInt8} (h:RB w (some ⟨b,o,none⟩) l) (k:Nat):RB w (some ⟨b,o+k,none⟩) (l.drop k):=by
 refine RB.of fun i hi=>?_
 have hi':k+i < l.length:=by simp at hi;omega
 rw [Nat.add_assoc,h.cell (k+i) hi']
 simp
theorem RB.str {P:Program} {w:World} {p:Option Addr} {l:List UInt8} (h:RB w p l) (src e dst:TypeId) (hs:P.underlying src=some (.slice e)) (he:P.underlying e=some (.int .u8)) (hd:P.underlying dst=some .string) (n c:Nat) (hn:n=l.length):
  (convert src dst (.slice p n c)).run P w= .ok (.string ⟨l.toArray⟩) w:=by
 subst hn
 rcases Nat.eq_zero_or_pos l.length with h0 | h0
 ·obtain rfl:l= []:=List.eq_nil_of_length_eq_zero h0
  exact Go.Proofs.run_convert_bytes_zero w src e hs he p c dst hd
 ·obtain ⟨b,o,rfl,hc⟩:=h.at h0
  rw [run_convert_bytes_arg w src e hs he b o l.length c (num l) (num_length l) hc dst hd,strOfNums_num]
def Own (w:World) (B:Nat) (e:TypeId) (g cap:Nat) (l:List UInt8):Prop:=
 ∃cur fz,B≤g∧w.heap[g]?=some (.cells cur e fz)∧(fz.2=0∨cap≤fz.1)∧l.length≤cap∧cap≤maxLen∧cur.size=cap∧cur.toList.take l.length=byteVs l
theorem Own.lt {w:World} {B g cap:Nat} {e:TypeId} {l:List UInt8} (h:Own w B e g cap l):g < w.heap.size:=by
 obtain ⟨_,_,_,hg,_⟩:=h
 exact (Array.getElem?_eq_some_iff.1 hg).1
theorem Own.ge {w:World} {B g cap:Nat} {e:TypeId} {l:List UInt8} (h:Own w B e g cap l):B≤g:=by
 obtain ⟨_,_,hb,_⟩:=h
 exact hb
theorem Own.below {w w':World} {B g cap:Nat} {e:TypeId} {l:List UInt8} (h:Own w B e g cap l) (hb:Below w.heap.size w w'):Own w' B e g cap l:=by
 have hl:=h.lt
 obtain ⟨cur,fz,h1,hg,h2⟩:=h
 exact ⟨cur,fz,h1,(hb.block g hl).trans hg,h2⟩
theorem Own.set {w:World} {B g cap:Nat} {e:TypeId} {l:List UInt8} (h:Own w B e g cap l) (i:Nat) (x:UInt8):Own (w.setCell ⟨g,i,none⟩ (.int .u8 (x.toNat:Int))) B e g cap (l.set i x):=by
 obtain ⟨cur,fz,hb,hg,hfz,hnc,hcm,hcs,ht⟩:=h
 refine ⟨cur.setIfInBounds i (.int .u8 (x.toNat:Int)),fz,hb,?_,hfz,by simpa using hnc,hcm,by simpa using hcs,?_⟩
 ·show (Array.modify _ _ _)[g]?=_
  rw [Array.getElem?_modify,if_pos rfl,hg];rfl
 ·rw [Array.toList_setIfInBounds,List.length_set,List.take_set,ht]
  unfold byteVs
  rw [List.map_set]
theorem Own.mono {w:World} {B B' g cap:Nat} {e:TypeId} {l:List UInt8} (h:Own w B e g cap l) (hB:B'≤B):Own w B' e g cap l:=by
 obtain ⟨cur,fz,h1,h2⟩:=h
 exact ⟨cur,fz,by omega,h2⟩
section
variable {P:Program}
end
end Go.Proofs.YtfldplmgkeiimaaGreatDoor.Mem
namespace Go.Proofs.YtfldplmgkeiimaaGreatDoor.RdW
open Go.RowKit Go.Proofs.YtfldplmgkeiimaaGreatDoor.Dp Go.Proofs.YtfldplmgkeiimaaGreatDoor.Base Go.Proofs.YtfldplmgkeiimaaGreatDoor.Ep Go.Proofs.YtfldplmgkeiimaaGreatDoor.Mem
theorem ret_int {k:IntKind} {a b:Int} (h:a=b):Ending.returned (.int k a)= .returned (.int k b):=by rw [h]
def opVs (l:List (Int × Int)):List Value:=l.flatMap fun o=> [.int .i64 o.1, .int .i64 o.2]
theorem opVs_append (a b:List (Int × Int)):opVs (a++b)=opVs a++opVs b:=by simp [opVs]
abbrev rdObj (S:ByteArray) (at_ deep:Int) (v:Value) (e:Int):Obj:= .cells #[.string S, .int .i64 at_, .int .i64 deep,v, .int .i64 e] 373
structure Rd (w0:World) (S:ByteArray) (R:Nat) (deep:Nat) (st:St) (k:Nat) (v:Value) (w:World):Prop where
 k_le:k≤S.size
 rest:S.data.toList.drop k=st.r
 obj:w.heap[R]?=some (rdObj S (k:Int) (deep:Int) v (st.e:Int))
 own:w.ownsRow w0.heap.size 413 2 v st.ops.length (opVs st.ops)
 bel:Below w0.heap.size w0 w
 ge:w0.heap.size≤R
def RdA (w0:World) (S:ByteArray) (R:Nat) (deep:Nat) (st:St) (w:World):Prop:=∃k v,Rd w0 S R deep st k v w
section
variable {w0 w w':World} {S:ByteArray} {R deep k:Nat} {st:St} {v:Value}
theorem Rd.cells (h:Rd w0 S R deep st k v w):w.cell? ⟨R,0,none⟩=some (.string S)∧w.cell? ⟨R,1,none⟩=some (.int .i64 (k:Int))∧w.cell? ⟨R,2,none⟩=some (.int .i64 (deep:Int))∧w.cell? ⟨R,3,none⟩=some v∧w.cell? ⟨R,4,none⟩=some (.int .i64 (st.e:Int)):=by
 have h1:=h.obj
 refine ⟨?_,?_,?_,?_,?_⟩<;> simp [World.cell?,h1]
theorem Rd.any (h:Rd w0 S R deep st k v w):RdA w0 S R deep st w:=⟨k,v,h⟩
theorem Rd.frozen (h:Rd w0 S R deep st k v w) (o:Nat):w.frozen? ⟨R,o,none⟩=false:=by
 have h1:=h.obj
 simp [World.frozen?,h1]
theorem Rd.len (h:Rd w0 S R deep st k v w):k+st.r.length=S.size:=by
 have h1:=congrArg List.length h.rest
 rw [List.length_drop,len_list] at h1
 have:=h.k_le
 omega
theorem Rd.lt (h:Rd w0 S R deep st k v w):R < w.heap.size:=(Array.getElem?_eq_some_iff.1 h.obj).1
theorem Rd.ne (h:Rd w0 S R deep st k v w):v.ownBlock≠some R:=by
 rcases h.own.2 with ⟨rfl,_⟩|⟨g,cap,cur,rfl,_,hh,_⟩
 ·simp [Value.ownBlock]
 ·intro he
  have:g=R:=by simpa [Value.ownBlock] using he
  subst this
  rw [h.obj] at hh
  injection hh with hh
  injection hh with _ ht
  exact absurd ht (by decide)
theorem Rd.drewN (h:Rd w0 S R deep st k v w) (n:Nat):Rd w0 S R deep st k v (w.drewN n):=
 ⟨h.k_le,h.rest,h.obj,⟨h.own.1,h.own.2⟩,below_drewN h.bel n,h.ge⟩
theorem Rd.below (h:Rd w0 S R deep st k v w) (hb:Below w.heap.size w w'):Rd w0 S R deep st k v w':=
 ⟨h.k_le,h.rest,(hb.block R h.lt).trans h.obj,h.own.kept (row:=none) ⟨hb.os,hb.tape,hb.output,hb.size,fun k hk _=>hb.block k hk⟩ (by cases v.ownBlock <;> simp),h.bel.trans (hb.mono h.bel.size),h.ge⟩
theorem heap_here {x:World} {b:Nat} {c:Array Value} {t:TypeId} (h:x.heap[b]?=some (.cells c t)) (o:Nat) (u:Value):(x.setCell ⟨b,o,none⟩ u).heap[b]?=some (.cells (c.setIfInBounds o u) t):=by
 show (Array.modify _ _ _)[b]?=_
 rw [Array.getElem?_modify,if_pos rfl,h];rfl
theorem ownsRow_set {x:World} {base:Nat} {e:TypeId} {size n:Nat} {v:Value} {xs:List Value} (h:x.ownsRow base e size v n xs) {a:Addr} (ha:v.ownBlock≠some a.block) (u:Value):(x.setCell a u).ownsRow base e size v n xs:=
 h.kept (w':=x.setCell a u) (row:=some a.block) ⟨rfl,rfl,rfl,by simp [World.setCell],fun k hk hne=>Below.heap_setCell _ _ _ _ (fun e=>hne (by rw [e]))⟩ (.inr ha)
theorem Rd.step (h:Rd w0 S R deep st k v w) {r:List UInt8} {m:Nat} (hm:m≤S.size) (hr:S.data.toList.drop m=r):Rd w0 S R deep ⟨r,st.ops,st.e⟩ m v (w.setCell ⟨R,1,none⟩ (.int .i64 (m:Int))):=
 ⟨hm,hr,by rw [heap_here h.obj];rfl,ownsRow_set h.own h.ne _,h.bel.setCell h.ge _,h.ge⟩
theorem Rd.err (h:Rd w0 S R deep st k v w) (e:Nat):Rd w0 S R deep ⟨st.r,st.ops,e⟩ k v (w.setCell ⟨R,4,none⟩ (.int .i64 (e:Int))):=
 ⟨h.k_le,h.rest,by rw [heap_here h.obj];rfl,ownsRow_set h.own h.ne _,h.bel.setCell h.ge _,h.ge⟩
theorem Rd.dive (h:Rd w0 S R deep st k v w) (m:Nat):Rd w0 S R m st k v (w.setCell ⟨R,2,none⟩ (.int .i64 (m:Int))):=
 ⟨h.k_le,h.rest,by rw [heap_here h.obj];rfl,ownsRow_set h.own h.ne _,h.bel.setCell h.ge _,h.ge⟩
end
theorem drewN_two (w:World) (a b:Nat):(w.drewN a).drewN b=w.drewN (a+b):=by simp [World.drewN,Nat.add_assoc]
def hdI (r:List UInt8):Int:=((hd r).toNat:Int)
def NextOut (c:Int) (w:World) (e:Ending) (w':World):Prop:=∃n,e= .returned (.int .u8 c)∧w'=w.drewN n
set_option maxHeartbeats 800000 in
theorem next_c {w0:World} {S:ByteArray} {R deep k:Nat} {st:St} {v:Value} (w:World) (h:Hid (Rd w0 S R deep st k v w)) (c:Int) (hc:Hid (hdI st.r=c)):
  Calls Tryz.prog 290 #[.pointer (some ⟨R,0,none⟩)] w (NextOut c w):=by
 obtain ⟨c0,c1,c2,c3,c4⟩:=h.out.cells
 have hk:=h.out.k_le
 by_cases hlt:k < S.size
 ·obtain ⟨X,hX⟩:∃X,(S[k].toNat:Int)=X:=⟨_,rfl⟩
  have hcX:Hid (X=c):=by
   show X=c
   rw [←hc.out,←hX]
   unfold hdI
   have hl:k < S.data.toList.length:=by rw [len_list];exact hlt
   have h1:=List.drop_eq_getElem_cons hl
   rw [h.out.rest] at h1
   rw [h1]
   rfl
  go_enter Tryz.func290,Tryz.ntmps290
  go_wp2_with fail
  go_quiet (fail)
  go_wp2_with fail
  go_quiet (fail)
  go_wp2_with fail
  go_ret
  exact ⟨_,ret_int hcX.out,drewN_two _ _ _⟩
 ·have hcX:Hid ((0:Int)=c):=by
   show 0=c
   rw [←hc.out]
   have h1:=h.out.rest
   rw [List.drop_eq_nil_of_le (by rw [len_list];omega)] at h1
   rw [←h1];rfl
  go_enter Tryz.func290,Tryz.ntmps290
  go_wp2_with fail
  go_quiet (fail)
  go_wp2_with fail
  go_ret
  exact ⟨_,ret_int hcX.out,rfl⟩
def Left (w0:World) (S:ByteArray) (R deep:Nat) (st:St) (e:Ending) (w':World):Prop:=e= .returned (.tuple #[])∧RdA w0 S R deep st w'
theorem info_op:(Tryz.prog.info? 413).map (fun i=>(i.zero,i.size,i.bytes))=some (some (.agg #[.int .i64 0, .int .i64 0]),2,16):=by kernel_rfl
theorem ownsRow_ge {x:World} {base:Nat} {e:TypeId} {size n:Nat} {v:Value} {xs:List Value} (h:x.ownsRow base e size v n xs):∀k,v.ownBlock=some k→base≤k:=fun k hk=>(World.ownsRowF.lt (World.ownsRowF_of h) k hk).1
theorem Rd.appended {w0 w w':World} {S:ByteArray} {R deep k:Nat} {st:St} {v v':Value} {q n:Int} {o:Obj} (h:Rd w0 S R deep st k v w) (hg:(w.alloc o).grownBy w' v.ownBlock) (ho:w'.ownsRow w0.heap.size 413 2 v' (st.ops.length+1) (opVs st.ops++ [.int .i64 q, .int .i64 n])) (hz:st.e=0):
  Rd w0 S R deep (put st q n) k v' (w'.setCell ⟨R,3,none⟩ v')∧w'.cell? ⟨R,3,none⟩=some v∧w'.frozen? ⟨R,3,none⟩=false∧w'.heap[R]?=some (rdObj S (k:Int) (deep:Int) v (st.e:Int)):=by
 have hR:w'.heap[R]?=some (rdObj S (k:Int) (deep:Int) v (st.e:Int)):=by
  rw [hg.block R (by have:=h.lt;simp;omega) (Ne.symm h.ne),Below.heap_alloc _ _ _ h.lt,h.obj]
 have hp:put st q n=⟨st.r,st.ops++ [(q,n)],0⟩:=by unfold put;rw [if_pos hz]
 refine ⟨?_,by simp [World.cell?,hR],by simp [World.frozen?,hR],hR⟩
 rw [hp]
 refine ⟨h.k_le,h.rest,by rw [heap_here hR,hz];rfl,?_,?_,h.ge⟩
 ·have hne:v'.ownBlock≠some R:=by
   rcases ho.2 with ⟨rfl,_⟩|⟨g,cap,cur,rfl,_,hh,_⟩
   ·simp [Value.ownBlock]
   ·intro he
    have:g=R:=by simpa [Value.ownBlock] using he
    subst this
    rw [hR] at hh
    injection hh with hh
    injection hh with _ ht
    exact absurd ht (by decide)
  have hx:=ownsRow_set ho (a:=⟨R,3,none⟩) hne v'
  rw [show (st.ops++ [(q,n)]).length=st.ops.length+1 by simp,opVs_append]
  exact hx
 ·exact ((h.bel.alloc h.bel.size o).grown hg (Nat.le_trans h.bel.size (by simp)) (ownsRow_ge h.own)).setCell h.ge _
set_option maxHeartbeats 800000 in
theorem put_c {w0:World} {S:ByteArray} {R deep:Nat} {st:St} (w:World) (h:RdA w0 S R deep st w) (hl:st.ops.length≤1000) (q n:Int):
  Calls Tryz.prog 291 #[.pointer (some ⟨R,0,none⟩), .int .i64 q, .int .i64 n] w (Left w0 S R deep (put st q n)):=by
 obtain ⟨k,v,h⟩:=h
 have H:=Lib.hid h
 obtain ⟨c0,c1,c2,c3,c4⟩:=h.cells
 obtain ⟨i0,hi,hz0,hz1,hz2⟩:=info_parts info_op
 have HI:=Lib.hid (And.intro hi (And.intro hz0 (And.intro hz1 hz2)))
 clear h hi hz0 hz1 hz2
 by_cases hz:st.e=0
 ·have hzi:((st.e:Int)==0)=true:=by rw [hz];rfl
  have HZ:=Lib.hid hz
  clear hz
  go_enter Tryz.func291,Tryz.ntmps291
  go_wp2_with (at_builtin;refine wpList_append_own _ rfl _ _ _ rfl w0.heap.size 413 i0 (.agg #[.int .i64 0, .int .i64 0]) 2 16 Tryz.underlying345 HI.out.1 HI.out.2.1 HI.out.2.2.1 HI.out.2.2.2 rfl (by omega) v st.ops.length (opVs st.ops) (by rfl) (H.out.own.alloc _) ⟨w.heap.size,0,none⟩ 1 1 [.int .i64 q, .int .i64 n] (by rfl) rfl (World.news_of_block (heap_alloc_new w _)) (by simp [Value.oneCell']) (by unfold maxLen;omega) (by omega) (by have:=H.out.bel.size;simp;omega) ?_;intro v' w' hown' hgrow' hnn';obtain ⟨g',cap',rfl,_,_⟩:=hown'.form (by omega);obtain ⟨hr',hc',hf',_⟩:=H.out.appended hgrow' hown' HZ.out;have HR':=Lib.hid hr';clear hr' hown' hgrow' hnn')
  go_end0
  exact ⟨rfl,k,_,HR'.out⟩
 ·have hzi:((st.e:Int)==0)=false:=by simp;omega
  have hp:Hid (put st q n=st):=by show _=_;unfold put;rw [if_neg hz]
  clear hz
  go_enter Tryz.func291,Tryz.ntmps291
  go_wp2_with fail
  go_end0
  exact ⟨rfl,by rw [hp.out];exact ⟨k,v,H.out⟩⟩
end Go.Proofs.YtfldplmgkeiimaaGreatDoor.RdW
namespace Go.Proofs.YtfldplmgkeiimaaGreatDoor.DeciW
open Go.RowKit Go.Proofs.YtfldplmgkeiimaaGreatDoor.Dp
theorem getl (s:ByteArray) (k:Nat) (h:k < s.size):s.data.toList[k]'(by simpa using h)=s[k]:=by rw [Array.getElem_toList];rfl
theorem take_snoc (s:ByteArray) (k:Nat) (h:k < s.size):s.data.toList.take (k+1)=s.data.toList.take k++ [s[k]]:=by
 rw [List.take_succ_eq_append_getElem (by simpa using h)];rfl
set_option maxHeartbeats 400000 in
theorem digits_any (s:ByteArray) (w:World) (hs:s.size≤maxLen):
  Calls Tryz.prog 178 #[.string s] w fun e w'=>e= .returned (.tuple #[.int .i64 (val (s.data.toList.take (min 6 (nd s.data.toList)))), .int .i64 (min 6 (nd s.data.toList):Nat)])∧w=w':=by
 unfold maxLen at hs
 go_enter Tryz.func178,Tryz.ntmps178
 go_wp2
 go_loop [4,5] (fun v i=>∃k:Nat,k≤min 6 (nd s.data.toList)∧i= .int .i64 k∧v= .int .i64 (val (s.data.toList.take k))) (fun _ i=>s.size -(intOf i).toNat)
 case atStart=>exact ⟨0,Nat.zero_le _,rfl,rfl⟩
 case round=>
  obtain ⟨k,hk,rfl,rfl⟩:=hrel
  have hl:=nd_le s.data.toList
  have hsz:s.data.toList.length=s.size:=by simp
  have hk6:k≤6:=by omega
  have hkn:k≤nd s.data.toList:=by omega
  have hv0:=val_take_lt s.data.toList k hkn
  have hv:val (s.data.toList.take k)< 1000000:=Nat.lt_of_lt_of_le hv0 (by have:=Nat.pow_le_pow_right (n:=10) (by decide) hk6;simpa using this)
  by_cases hlt:k < s.size
  ·by_cases h6:k < 6
   ·by_cases hd:48≤s[k].toNat∧s[k].toNat≤57
    ·have HS:Hid (val (s.data.toList.take (k+1))=val (s.data.toList.take k) *10+(s[k].toNat - 48)):=by rw [take_snoc s k hlt];exact val_snoc _ _
     have hn:k < nd s.data.toList:=nd_lt hkn (by omega) (by rw [getl s k hlt];exact (isD_iff _).2 hd)
     obtain ⟨hd1,hd2⟩:=hd
     clear hv0 hsz
     go_wp2
     go_round
     case rel=>exact ⟨k+1,by omega,by go_num,by rw [HS.out];go_num⟩
     case measure=>simp [intOf];omega
    ·have hn:nd s.data.toList=k:=nd_stop hkn (by omega) (by rw [getl s k hlt];exact (isD_false _).2 (by omega))
     have HN:Hid (min 6 (nd s.data.toList)=k):=by show _=_;omega
     clear hv0 hsz hn hl hk hkn
     go_wp2
     all_goals (go_ret2;rw [HN.out];exact ⟨rfl,rfl⟩)
   ·have HN:Hid (min 6 (nd s.data.toList)=k):=by show _=_;omega
    clear hv0 hsz hl hk hkn
    go_wp2
    go_ret2
    rw [HN.out];exact ⟨rfl,rfl⟩
  ·have HN:Hid (min 6 (nd s.data.toList)=k):=by show _=_;omega
   clear hv0 hsz hl hk hkn
   go_wp2
   go_ret2
   rw [HN.out];exact ⟨rfl,rfl⟩
end Go.Proofs.YtfldplmgkeiimaaGreatDoor.DeciW
namespace Go.Proofs.YtfldplmgkeiimaaGreatDoor.DeciW
open Go.RowKit Go.Proofs.YtfldplmgkeiimaaGreatDoor.Dp
set_option maxHeartbeats 400000 in
theorem ok_any (n:Int) (w:World):Calls Tryz.prog 189 #[.int .i64 n] w fun e w'=>e= .returned (.bool (okN n))∧w=w':=by
 go_enter Tryz.func189,Tryz.ntmps189
 by_cases h1:-1000000000000 < n
 ·by_cases h2:n < 1000000000000
  ·have hb:okN n=true:=by simp [okN,h1,h2]
   go_wp2
   go_ret
   rw [hb];exact ⟨rfl,rfl⟩
  ·have hb:okN n=false:=by simp [okN,h2]
   have HB:=Lib.hid hb
   clear hb
   go_wp2
   go_ret
   rw [HB.out];exact ⟨rfl,rfl⟩
 ·have hb:okN n=false:=by simp [okN,h1]
  have HB:=Lib.hid hb
  clear hb
  go_wp2
  go_ret
  rw [HB.out];exact ⟨rfl,rfl⟩
theorem byteq45 (n:Nat):((n:Int)==45)=decide (n=45):=by rw [Bool.eq_iff_iff];simp;omega
theorem digits_at (s:ByteArray) (l:List UInt8) (hl:Hid (s.data.toList=l)) (w:World) (hs:s.size≤9223372036854775807) (k:Nat) (hk:Hid (k=min 6 (nd l))) (v:Nat) (hv:Hid (v=val (l.take k))):
  Calls Tryz.prog 178 #[.string s] w fun e w'=>e= .returned (.tuple #[.int .i64 v, .int .i64 k])∧w=w':=by
 have h0:=hl.out
 have h1:=hk.out
 have h2:=hv.out
 subst h0;subst h1;subst h2
 exact digits_any s w hs
def sgn (l:List UInt8):Bool:=match l with | []=>false | c :: _=>decide (c.toNat=43)|| decide (c.toNat=45)
theorem head_of (s:ByteArray) (h:0 < s.size):s.data.toList=s[0] :: s.data.toList.drop 1:=by
 have:=getl s 0 h
 rw [←this]
 exact (List.drop_eq_getElem_cons (i:=0) (l:=s.data.toList) (show 0 < s.data.toList.length by simpa using h))
theorem list_nil (s:ByteArray) (h:¬0 < s.size):s.data.toList= []:=by
 apply List.eq_nil_of_length_eq_zero
 have:s.data.toList.length=s.size:=by simp
 omega
theorem sgn_of (s:ByteArray) (h:0 < s.size):sgn s.data.toList=(decide (s[0].toNat=43)|| decide (s[0].toNat=45)):=by rw [head_of s h];rfl
theorem sgn_no (s:ByteArray) (h:¬0 < s.size):sgn s.data.toList=false:=by rw [list_nil s h];rfl
theorem drop1 (s:ByteArray):(s.extract 1 s.size).data.toList=s.data.toList.drop 1:=by
 rw [Lib.extract_data]
 exact List.take_of_length_le (by simp)
theorem dropk (s:ByteArray) (k:Nat):(s.extract k s.size).data.toList=s.data.toList.drop k:=by
 rw [Lib.extract_data]
 exact List.take_of_length_le (by simp)
theorem strip_no {l:List UInt8} (h:sgn l=false):strip l=(false,l):=by
 cases l with
 | nil=>rfl
 | cons c r=>
  simp [sgn] at h
  simp [strip,h]
theorem strip_yes (s:ByteArray) (h:0 < s.size) (hs:sgn s.data.toList=true):strip s.data.toList=(decide (s[0].toNat=45),s.data.toList.drop 1):=by
 rw [sgn_of s h] at hs
 rw [head_of s h]
 simp only [strip]
 split
 ·rename_i h1;simp [h1]
 ·rename_i h1
  simp [h1] at hs
  simp [hs]
theorem sgn_pos {s:ByteArray} (h:sgn s.data.toList=true):0 < s.size:=by
 apply Classical.byContradiction;intro hn
 rw [sgn_no s hn] at h;cases h
set_option maxRecDepth 100000 in
set_option maxHeartbeats 400000 in
theorem parse_any (s:ByteArray) (w:World) (hs:s.size≤maxLen):
  Calls Tryz.prog 136 #[.string s] w fun e w'=>e= .returned (.tuple #[.int .i64 ((dec s.data.toList).getD 0), .bool (dec s.data.toList).isSome])∧w=w':=by
 unfold maxLen at hs
 go_enter Tryz.func136,Tryz.ntmps136
 go_upto_region 2 with fail
 go_cut [21] (fun c wx=>c= .bool (sgn s.data.toList)∧w=wx)
 case first=>
  by_cases h0:0 < s.size
  ·have HB:=Lib.hid (sgn_of s h0)
   have hne:s.toList.isEmpty=false:=by rw [Lib.toList_data,head_of s h0];rfl
   have hne2:¬s.toList= []:=by intro h;rw [h] at hne;cases hne
   by_cases h43:s[0].toNat=43
   all_goals
    go_wp2
    go_meet
    refine ⟨congrArg Value.bool ?_,rfl⟩
    rw [HB.out]
    simp [h43,byteq45]
    try omega
  ·have HB:=Lib.hid (sgn_no s h0)
   have hne:s.toList= []:=by rw [Lib.toList_data];exact list_nil s h0
   go_wp2
   go_meet
   exact ⟨congrArg Value.bool HB.out.symm,rfl⟩
 case rest=>
  obtain ⟨rfl,rfl⟩:=hcut
  go_upto_if 21 with fail
  go_cut [0,4] (fun a b wx=>∃t:ByteArray,a= .string t∧t.size≤9223372036854775807∧t.data.toList=(strip s.data.toList).2∧b= .bool (strip s.data.toList).1∧w=wx)
  case first=>
   cases hg:sgn s.data.toList with
   | true=>
    have h0:=sgn_pos hg
    have HS:=Lib.hid (strip_yes s h0 hg)
    clear hg
    go_wp2
    go_meet
    rw [HS.out]
    exact ⟨_,rfl,by simp;omega,drop1 s,congrArg Value.bool (byteq45 _),rfl⟩
   | false=>
    have HS:=Lib.hid (strip_no hg)
    clear hg
    go_wp2
    go_meet
    rw [HS.out]
    exact ⟨_,rfl,hs,rfl,rfl,rfl⟩
  case rest=>
   obtain ⟨t,rfl,ht,hl,rfl,rfl⟩:=hcut
   obtain ⟨l,hl'⟩:∃l,t.data.toList=l:=⟨_,rfl⟩
   obtain ⟨k,hk⟩:∃k,k=min 6 (nd l):=⟨_,rfl⟩
   obtain ⟨v,hv⟩:∃v,v=val (l.take k):=⟨_,rfl⟩
   have hvl:v < 1000000:=by
    rw [hv]
    exact Nat.lt_of_lt_of_le (val_take_lt l k (by omega)) (by have:=Nat.pow_le_pow_right (n:=10) (by decide) (show k≤6 by omega);simpa using this)
   have hlen:l.length=t.size:=by rw [←hl'];simp
   have hkt:k≤t.size:=by have:=nd_le l;omega
   have hdrop:(t.extract k t.size).data.toList=l.drop k:=by rw [dropk,hl']
   have hdec:dec s.data.toList=(decU l).map fun n=>if (strip s.data.toList).1 then -(n:Int) else n:=by unfold dec;rw [←hl,hl']
   have HL:=Lib.hid hl'
   have HK:=Lib.hid hk
   have HV:=Lib.hid hv
   generalize (strip s.data.toList).1=b at hdec⊢
   have HD:=Lib.hid hdec
   clear hl hl' hv hdec hlen
   rcases hr:l.drop k with _ |⟨c,r⟩
   ·have he:(t.extract k t.size).toList= []:=by rw [Lib.toList_data,hdrop,hr]
    have hA:=decU_A hk hr
    by_cases h0:k=0
    ·rw [if_pos h0] at hA
     have HA:=Lib.hid hA
     have hk0:((k:Int)==0)=true:=by simp [h0]
     clear hA h0 hdrop hr hk
     go_wp2_with fail
     refine (digits_at t l HL _ ht k HK v HV).mono ?_
     rintro e w' ⟨rfl,rfl⟩
     go_wp2_with fail
     go_ret2
     rw [HD.out,HA.out]
     exact ⟨rfl,rfl⟩
    ·rw [if_neg h0] at hA
     have HA:=Lib.hid hA
     have hk0:((k:Int)==0)=false:=by simp [h0]
     clear hA h0 hdrop hr hk
     cases b
     all_goals
      go_wp2_with fail
      refine (digits_at t l HL _ ht k HK v HV).mono ?_
      rintro e w' ⟨rfl,rfl⟩
      go_wp2_with fail
      go_ret2
      rw [HD.out,HA.out,←HV.out]
      exact ⟨rfl,rfl⟩
   ·have hpos:0 < t.size - k:=by
     have:(t.extract k t.size).data.toList.length=t.size - k:=by simp
     rw [hdrop,hr] at this
     simp at this;omega
    have hne:(t.extract k t.size).toList.isEmpty=false:=by rw [Lib.toList_data,hdrop,hr];rfl
    have hne2:¬(t.extract k t.size).toList= []:=by intro h;rw [h] at hne;cases hne
    have hsz:0 <(t.extract k t.size).size:=by simpa using hpos
    have hc:(t.extract k t.size)[0]=c:=by
     have:=head_of _ hsz
     rw [hdrop,hr] at this
     injection this with a b
     exact a.symm
    by_cases h46:c.toNat=46
    ·obtain ⟨m,hm⟩:∃m,m=min 6 (nd r):=⟨_,rfl⟩
     obtain ⟨d,hd⟩:∃d,d=val (r.take m):=⟨_,rfl⟩
     have hD:=decU_D hk hr h46 hm
     have hd0:d < 10 ^ m:=by rw [hd];exact val_take_lt r m (by omega)
     have hc46:(((t.extract k t.size)[0].toNat:Int)==46)=true:=by rw [hc];simp;omega
     have hm6:m≤6:=by omega
     have hk6:k≤6:=by omega
     have hrl:r.length+1=t.size - k:=by
      have:(t.extract k t.size).data.toList.length=t.size - k:=by simp
      rw [hdrop,hr] at this
      simpa using this
     have hml:m≤r.length:=by have:=nd_le r;omega
     have hR:((t.extract k t.size).extract 1 (t.size - k)).data.toList=r:=by
      rw [Lib.extract_data,hdrop,hr]
      exact List.take_of_length_le (by simp;omega)
     have hR2:((t.extract k t.size).extract (1+m) (t.size - k)).data.toList=r.drop m:=by
      rw [Lib.extract_data,hdrop,hr,Nat.add_comm 1 m,List.drop_succ_cons]
      exact List.take_of_length_le (by simp;omega)
     have hmk:m+1≤t.size - k:=by omega
     have HM:=Lib.hid hm
     have HDv:=Lib.hid hd
     have HDD:=Lib.hid hD
     have HR:=Lib.hid hR
     have HR2:=Lib.hid hR2
     clear hm hd hD hk hc h46 hR hR2 hrl hdrop hr
     go_wp2_with fail
     refine (digits_at t l HL _ ht k HK v HV).mono ?_
     rintro e w' ⟨rfl,rfl⟩
     go_wp2_with fail
     refine (digits_at _ r HR _ (by simp;omega) m HM d HDv).mono ?_
     rintro e w' ⟨rfl,rfl⟩
     go_wp2_with fail
     go_loop [7,9] (fun y i=>∃j x:Nat,m≤j∧j≤6∧x=d *10 ^(j - m)∧i= .int .i64 j∧y= .int .i64 x) (fun _ i=>(6 - intOf i).toNat)
     case atStart=>exact ⟨m,d,Nat.le_refl _,hm6,by simp,rfl,rfl⟩
     case round=>
      obtain ⟨j,x,hj1,hj2,hx,rfl,rfl⟩:=hrel
      have hxl:x < 1000000:=by
       rw [hx]
       have h1:d *10 ^(j - m)< 10 ^ m *10 ^(j - m):=Nat.mul_lt_mul_of_pos_right hd0 (Nat.pow_pos (by decide))
       rw [←Nat.pow_add,show m+(j - m)=j by omega] at h1
       exact Nat.lt_of_lt_of_le h1 (by have:=Nat.pow_le_pow_right (n:=10) (by decide) hj2;simpa using this)
      have HX:=Lib.hid hx
      clear hx
      by_cases hj:j < 6
      ·go_wp2_with fail
       go_round
       case rel=>exact ⟨j+1,x *10,by omega,by omega,by rw [HX.out,show j+1 - m=j - m+1 by omega,Nat.pow_succ,Nat.mul_assoc],by go_num,by go_num⟩
       case measure=>simp [intOf];omega
      ·have hj6:Hid (j=6):=by show _=_;omega
       by_cases hz:r.drop m= []
       ·have he2:((t.extract k t.size).extract (1+m) (t.size - k)).toList= []:=by rw [Lib.toList_data,HR2.out,hz]
        by_cases h0:k+m=0
        ·have hN:decU l=none:=by rw [HDD.out,if_neg (fun h=>h.2 h0)]
         have HN:=Lib.hid hN
         have hk0:((k:Int)+(m:Int)==0)=true:=by simp;omega
         clear hN hz h0
         go_wp2_with fail
         go_ret2
         rw [HD.out,HN.out]
         exact ⟨rfl,rfl⟩
        ·have hN:decU l=some (v *1000000+x):=by rw [HDD.out,if_pos ⟨hz,h0⟩,HX.out,HDv.out,HV.out,hj6.out]
         have HN:=Lib.hid hN
         have hk0:((k:Int)+(m:Int)==0)=false:=by simp;omega
         clear hN hz h0
         cases b
         all_goals
          go_wp2_with fail
          go_ret2
          rw [HD.out,HN.out]
          exact ⟨by simp,rfl⟩
       ·have he2:((t.extract k t.size).extract (1+m) (t.size - k)).toList.isEmpty=false:=by
         rw [Lib.toList_data,HR2.out]
         cases h:r.drop m with
         | nil=>exact absurd h hz
         | cons _ _=>rfl
        have hN:decU l=none:=by rw [HDD.out,if_neg (fun h=>hz h.1)]
        have HN:=Lib.hid hN
        clear hN hz
        go_wp2_with fail
        go_ret2
        rw [HD.out,HN.out]
        exact ⟨rfl,rfl⟩
    ·have hB:=decU_B hk hr h46
     have HB:=Lib.hid hB
     have hc46:(((t.extract k t.size)[0].toNat:Int)==46)=false:=by rw [hc];simp;omega
     clear hB hdrop hr hk hc h46
     go_wp2_with fail
     refine (digits_at t l HL _ ht k HK v HV).mono ?_
     rintro e w' ⟨rfl,rfl⟩
     go_wp2_with fail
     go_ret2
     rw [HD.out,HB.out]
     exact ⟨rfl,rfl⟩
end Go.Proofs.YtfldplmgkeiimaaGreatDoor.DeciW
namespace Go.Proofs.YtfldplmgkeiimaaGreatDoor.DeciW
open Go.RowKit Go.Proofs.YtfldplmgkeiimaaGreatDoor.Dp Go.Proofs.YtfldplmgkeiimaaGreatDoor.Base
end Go.Proofs.YtfldplmgkeiimaaGreatDoor.DeciW
namespace Go.Proofs.YtfldplmgkeiimaaGreatDoor.DeciW
open Go.RowKit Go.Proofs.YtfldplmgkeiimaaGreatDoor.Dp Go.Proofs.YtfldplmgkeiimaaGreatDoor.Base
end Go.Proofs.YtfldplmgkeiimaaGreatDoor.DeciW
namespace Go.Proofs.YtfldplmgkeiimaaGreatDoor.DeciW
open Go.RowKit Go.Proofs.YtfldplmgkeiimaaGreatDoor.Dp Go.Proofs.YtfldplmgkeiimaaGreatDoor.Base
end Go.Proofs.YtfldplmgkeiimaaGreatDoor.DeciW
namespace Go.Proofs.YtfldplmgkeiimaaGreatDoor.Bits
open Go
theorem and3 (n:Int):bits .and .i64 n 3=n % 4:=by
 have hm:(BitVec.ofInt 64 3).toNat=2 ^ 2 - 1:=by decide
 have key:(BitVec.ofInt 64 n &&& BitVec.ofInt 64 3).toNat=(n % ((2 ^ 64:Nat):Int)).toNat % 2 ^ 2:=by
  rw [BitVec.toNat_and,BitVec.toNat_ofInt,hm,Nat.and_two_pow_sub_one_eq_mod]
 show IntKind.i64.wrap ((BitVec.ofInt 64 n &&& BitVec.ofInt 64 3).toNat:Nat)=n % 4
 rw [key,IntKind.wrap_i64]
 omega
theorem and255 (n:Int):bits .and .i64 n 255=n % 256:=by
 have hm:(BitVec.ofInt 64 255).toNat=2 ^ 8 - 1:=by decide
 have key:(BitVec.ofInt 64 n &&& BitVec.ofInt 64 255).toNat=(n % ((2 ^ 64:Nat):Int)).toNat % 2 ^ 8:=by
  rw [BitVec.toNat_and,BitVec.toNat_ofInt,hm,Nat.and_two_pow_sub_one_eq_mod]
 show IntKind.i64.wrap ((BitVec.ofInt 64 n &&& BitVec.ofInt 64 255).toNat:Nat)=n % 256
 rw [key,IntKind.wrap_i64]
 omega
end Go.Proofs.YtfldplmgkeiimaaGreatDoor.Bits
