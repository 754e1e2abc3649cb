/-
  Several texts of this proof in one: Gj, Gk.
-/
import Derived.Test.YtfldplmgkeiimaaGreatDoorQ19
import Derived.Test.YtfldplmgkeiimaaGreatDoorQ21
set_option linter.unusedVariables false
set_option linter.unusedSimpArgs false
namespace Go.Proofs.YtfldplmgkeiimaaGreatDoor.GW
open Go.RowKit Go.Proofs.YtfldplmgkeiimaaGreatDoor.Base Go.Proofs.YtfldplmgkeiimaaGreatDoor.Dp Go.Proofs.YtfldplmgkeiimaaGreatDoor.DeciW Go.Proofs.YtfldplmgkeiimaaGreatDoor.Mem Go.Proofs.YtfldplmgkeiimaaGreatDoor.RdW Go.Proofs.YtfldplmgkeiimaaGreatDoor.Gp
def KeepT (T:TypeId) (w w':World):Prop:=w.heap.size≤w'.heap.size∧∀(k:Nat) (cs:Array Value) (t:TypeId) (fz:Nat × Nat),w.heap[k]?=some (Obj.cells cs t fz)→t≠T→w'.heap[k]?=some (.cells cs t fz)
theorem KeepT.of_below {T:TypeId} {w w':World} (h:Below w.heap.size w w'):KeepT T w w':=⟨h.size,fun k cs t fz hk _=>one_below hk h⟩
theorem KeepT.trans {T:TypeId} {a b c:World} (h:KeepT T a b) (g:KeepT T b c):KeepT T a c:=⟨Nat.le_trans h.1 g.1,fun k cs t fz hk h1=>g.2 k cs t fz (h.2 k cs t fz hk h1) h1⟩
theorem KeepT.grown {T:TypeId} {w w':World} {B sz n:Nat} {v:Value} {xs:List Value} (h:w.ownsRow B T sz v n xs) (hg:w.grownBy w' v.ownBlock):KeepT T w w':=
 ⟨hg.size,fun k cs t fz hk ht=>(hg.block k (Array.getElem?_eq_some_iff.1 hk).1 (Ne.symm (own_ne h hk (Ne.symm ht)))).trans hk⟩
theorem KeepT.set {T:TypeId} {w:World} {b i:Nat} {cs:Array Value} {fz:Nat × Nat} (h:w.heap[b]?=some (.cells cs T fz)) (u:Value):KeepT T w (w.setCell ⟨b,i,none⟩ u):=by
 refine ⟨by simp [World.setCell],fun k ds t fy hk ht=>?_⟩
 have hkb:k≠b:=by
  intro e
  rw [e,h] at hk
  injection hk with hk
  injection hk with _ e2 _
  exact ht e2.symm
 rw [Below.heap_setCell _ _ _ _ hkb]
 exact hk
theorem NumsIn.keep {T:TypeId} {B:Nat} {w w':World} {p:Option Addr} {l:List Int} (h:NumsIn B w p l) (hk:KeepT T w w') (hT:2≠T):NumsIn B w' p l:=by
 intro hl
 obtain ⟨b,o,cs,rfl,hB,hh,hc⟩:=h hl
 exact ⟨b,o,cs,rfl,hB,hk.2 _ _ _ _ hh hT,hc⟩
def OpsIn (B:Nat) (w:World) (p:Option Addr) (l:List (Int × Int)):Prop:=0 < l.length→∃(b o:Nat) (cs:Array Value),p=some ⟨b,o,none⟩∧B≤b∧w.heap[b]?=some (.cells cs 413)∧∀i (hi:i < l.length),cs[o+i *2]?=some (.int .i64 l[i].1)∧cs[o+i *2+1]?=some (.int .i64 l[i].2)
theorem OpsIn.nil (B:Nat) (w:World) (p:Option Addr):OpsIn B w p []:=fun h=>absurd h (Nat.lt_irrefl _)
theorem OpsIn.keep {T:TypeId} {B:Nat} {w w':World} {p:Option Addr} {l:List (Int × Int)} (h:OpsIn B w p l) (hk:KeepT T w w') (hT:413≠T):OpsIn B w' p l:=by
 intro hl
 obtain ⟨b,o,cs,rfl,hB,hh,hc⟩:=h hl
 exact ⟨b,o,cs,rfl,hB,hk.2 _ _ _ _ hh hT,hc⟩
theorem OpsIn.mono {B D:Nat} {w:World} {p:Option Addr} {l:List (Int × Int)} (h:OpsIn B w p l) (hD:D≤B):OpsIn D w p l:=by
 intro hl
 obtain ⟨b,o,cs,rfl,hB,hh,hc⟩:=h hl
 exact ⟨b,o,cs,rfl,Nat.le_trans hD hB,hh,hc⟩
def ArgsIn (B:Nat) (w:World) (p:Option Addr) (l:List (List (Int × Int))):Prop:=0 < l.length→∃(b o:Nat) (cs:Array Value),p=some ⟨b,o,none⟩∧B≤b∧w.heap[b]?=some (.cells cs 345)∧∀i (hi:i < l.length),∃q c,cs[o+i]?=some (.slice q l[i].length c)∧OpsIn B w q l[i]
theorem ArgsIn.nil (B:Nat) (w:World) (p:Option Addr):ArgsIn B w p []:=fun h=>absurd h (Nat.lt_irrefl _)
theorem ArgsIn.keep {T:TypeId} {B:Nat} {w w':World} {p:Option Addr} {l:List (List (Int × Int))} (h:ArgsIn B w p l) (hk:KeepT T w w') (h1:413≠T) (h2:345≠T):ArgsIn B w' p l:=by
 intro hl
 obtain ⟨b,o,cs,rfl,hB,hh,hc⟩:=h hl
 refine ⟨b,o,cs,rfl,hB,hk.2 _ _ _ _ hh h2,fun i hi=>?_⟩
 obtain ⟨q,c,hq,ho⟩:=hc i hi
 exact ⟨q,c,hq,ho.keep hk h1⟩
theorem ArgsIn.mono {B D:Nat} {w:World} {p:Option Addr} {l:List (List (Int × Int))} (h:ArgsIn B w p l) (hD:D≤B):ArgsIn D w p l:=by
 intro hl
 obtain ⟨b,o,cs,rfl,hB,hh,hc⟩:=h hl
 refine ⟨b,o,cs,rfl,Nat.le_trans hD hB,hh,fun i hi=>?_⟩
 obtain ⟨q,c,hq,ho⟩:=hc i hi
 exact ⟨q,c,hq,ho.mono hD⟩
def BlksIn (B:Nat) (w:World) (p:Option Addr) (l:List Blk):Prop:=0 < l.length→∃(b o:Nat) (cs:Array Value),p=some ⟨b,o,none⟩∧B≤b∧w.heap[b]?=some (.cells cs 259)∧
 ∀i (hi:i < l.length),∃q c,cs[o+i *4]?=some (.int .i64 l[i].k)∧cs[o+i *4+1]?=some (.int .i64 l[i].n)∧cs[o+i *4+2]?=some (.string ⟨l[i].t.toArray⟩)∧cs[o+i *4+3]?=some (.slice q l[i].args.length c)∧ArgsIn B w q l[i].args
theorem BlksIn.nil (B:Nat) (w:World) (p:Option Addr):BlksIn B w p []:=fun h=>absurd h (Nat.lt_irrefl _)
theorem BlksIn.keep {T:TypeId} {B:Nat} {w w':World} {p:Option Addr} {l:List Blk} (h:BlksIn B w p l) (hk:KeepT T w w') (h1:413≠T) (h2:345≠T) (h3:259≠T):BlksIn B w' p l:=by
 intro hl
 obtain ⟨b,o,cs,rfl,hB,hh,hc⟩:=h hl
 refine ⟨b,o,cs,rfl,hB,hk.2 _ _ _ _ hh h3,fun i hi=>?_⟩
 obtain ⟨q,c,e0,e1,e2,e3,ha⟩:=hc i hi
 exact ⟨q,c,e0,e1,e2,e3,ha.keep hk h1 h2⟩
theorem BlksIn.mono {B D:Nat} {w:World} {p:Option Addr} {l:List Blk} (h:BlksIn B w p l) (hD:D≤B):BlksIn D w p l:=by
 intro hl
 obtain ⟨b,o,cs,rfl,hB,hh,hc⟩:=h hl
 refine ⟨b,o,cs,rfl,Nat.le_trans hD hB,hh,fun i hi=>?_⟩
 obtain ⟨q,c,e0,e1,e2,e3,ha⟩:=hc i hi
 exact ⟨q,c,e0,e1,e2,e3,ha.mono hD⟩
inductive RowsAt (B:Nat) (w:World):List (Nat × C)→List Value→Prop
 | nil:RowsAt B w [] []
 | cons {x:Nat × C} {l:List (Nat × C)} {p q:Option Addr} {k m:Nat} {xs:List Value}:NumsIn B w p x.2.nums→BlksIn B w q x.2.blocks→RowsAt B w l xs→
  RowsAt B w (x :: l) ((cmCells x.2 (x.1:Int) (.slice p x.2.nums.length k) (.slice q x.2.blocks.length m)).toList++xs)
theorem RowsAt.imp {B D:Nat} {w w':World} {l:List (Nat × C)} {xs:List Value} (h:RowsAt B w l xs) (h1:∀p n,NumsIn B w p n→NumsIn D w' p n) (h2:∀p n,BlksIn B w p n→BlksIn D w' p n):RowsAt D w' l xs:=by
 induction h with
 | nil=>exact .nil
 | cons a b _ ih=>exact .cons (h1 _ _ a) (h2 _ _ b) ih
theorem RowsAt.append {B:Nat} {w:World} {l m:List (Nat × C)} {xs ys:List Value} (h:RowsAt B w l xs) (g:RowsAt B w m ys):RowsAt B w (l++m) (xs++ys):=by
 induction h with
 | nil=>exact g
 | cons a b _ ih=>rw [List.cons_append,List.append_assoc];exact .cons a b ih
theorem RowsAt.snoc {B:Nat} {w:World} {l:List (Nat × C)} {xs:List Value} (h:RowsAt B w l xs) (x:Nat × C) {p q:Option Addr} (k m:Nat) (hn:NumsIn B w p x.2.nums) (hb:BlksIn B w q x.2.blocks):
  RowsAt B w (l++ [x]) (xs++(cmCells x.2 (x.1:Int) (.slice p x.2.nums.length k) (.slice q x.2.blocks.length m)).toList):=by
 have h2:=h.append (.cons (k:=k) (m:=m) hn hb .nil)
 rwa [List.append_nil] at h2
theorem RowsAt.belw {B:Nat} {w w':World} {l:List (Nat × C)} {xs:List Value} (h:RowsAt B w l xs) (hb:Below w.heap.size w w'):RowsAt B w' l xs:=
 h.imp (fun _ _ hn=>hn.below hb) (fun _ _ hn=>hn.keep (T:=0) (.of_below hb) (by decide) (by decide) (by decide))
def CmdsAt (B:Nat) (w:World) (v:Value) (l:List (Nat × C)):Prop:=∃xs,w.ownsRow B 104 12 v l.length xs∧RowsAt B w l xs
theorem CmdsAt.below {B:Nat} {w w':World} {v:Value} {l:List (Nat × C)} (h:CmdsAt B w v l) (hb:Below w.heap.size w w'):CmdsAt B w' v l:=by
 obtain ⟨xs,h1,h2⟩:=h
 exact ⟨xs,row_below h1 hb,h2.belw hb⟩
theorem CmdsAt.nil (B:Nat) (w:World):CmdsAt B w nils []:=⟨[],⟨rfl, .inl ⟨rfl,rfl⟩⟩, .nil⟩
theorem CmdsAt.push {B:Nat} {w X w':World} {v v':Value} {l:List (Nat × C)} {xs:List Value} {x:Nat × C} {p q:Option Addr} {k m:Nat} (hx:w.ownsRow B 104 12 v l.length xs) (hr:RowsAt B w l xs) (hn:NumsIn B w p x.2.nums) (hb:BlksIn B w q x.2.blocks) (hX:Below w.heap.size w X) (hg:X.grownBy w' v.ownBlock)
  (ho:w'.ownsRow B 104 12 v' (l.length+1) (xs++(cmCells x.2 (x.1:Int) (.slice p x.2.nums.length k) (.slice q x.2.blocks.length m)).toList)):CmdsAt B w' v' (l++ [x]):=by
 have hK:KeepT 104 w w':=(KeepT.of_below hX).trans (.grown (row_below hx hX) hg)
 refine ⟨_,?_,(hr.imp (fun _ _ h=>h.keep hK (by decide)) (fun _ _ h=>h.keep hK (by decide) (by decide) (by decide))).snoc x k m (hn.keep hK (by decide)) (hb.keep hK (by decide) (by decide) (by decide))⟩
 rw [show (l++ [x]).length=l.length+1 by simp]
 exact ho
theorem info_cm:(Tryz.prog.info? 104).map (fun i=>(i.zero,i.size,i.bytes))=some (some (.agg #[.int .i64 0, .int .i64 0, .int .i64 0, .int .i64 0, .bool false, .string ⟨#[]⟩, .string ⟨#[]⟩, .string ⟨#[]⟩, .string ⟨#[]⟩, .string ⟨#[]⟩, .slice none 0 0, .slice none 0 0]),12,168):=by kernel_rfl
end Go.Proofs.YtfldplmgkeiimaaGreatDoor.GW
namespace Go.Proofs.YtfldplmgkeiimaaGreatDoor.GW
open Go.RowKit Go.Proofs.YtfldplmgkeiimaaGreatDoor.Base Go.Proofs.YtfldplmgkeiimaaGreatDoor.Dp Go.Proofs.YtfldplmgkeiimaaGreatDoor.DeciW Go.Proofs.YtfldplmgkeiimaaGreatDoor.Mem Go.Proofs.YtfldplmgkeiimaaGreatDoor.RdW Go.Proofs.YtfldplmgkeiimaaGreatDoor.Gp
def at0 (l:List C):List (Nat × C):=l.map fun c=>(0,c)
def PlainOut (res:Except Nat (List C)) (w:World) (e:Ending) (w':World):Prop:=Below w.heap.size w w'∧match res with
 | .ok l=>∃v,e= .returned (.tuple #[v, .int .i64 0])∧CmdsAt w.heap.size w' v (at0 l)
 | .error k=>e= .returned (.tuple #[nils, .int .i64 (k:Int)])
set_option maxRecDepth 100000 in
set_option maxHeartbeats 800000 in
theorem one_c (c:C) (hn:c.nums= []) (hb:c.blocks= []) (w:World):
  Calls Tryz.prog 93 #[cmVal c 0 nils nils] w (PlainOut (.ok [c]) w):=by
 have HN:=Lib.hid hn
 have HB:=Lib.hid hb
 clear hn hb
 unfold cmVal cmCells
 have HW:Hid (CmdsAt w.heap.size ((w.alloc (.cells #[.int .i64 0, .int .i64 c.k, .int .i64 c.n, .int .i64 c.m, .bool c.on, .string ⟨c.t.toArray⟩, .string ⟨c.x.toArray⟩, .string ⟨c.y.toArray⟩, .string ⟨c.i.toArray⟩, .string ⟨c.j.toArray⟩,nils,nils] 104)).alloc (.cells #[.int .i64 0, .int .i64 c.k, .int .i64 c.n, .int .i64 c.m, .bool c.on, .string ⟨c.t.toArray⟩, .string ⟨c.x.toArray⟩, .string ⟨c.y.toArray⟩, .string ⟨c.i.toArray⟩, .string ⟨c.j.toArray⟩,nils,nils] 104)) (.slice (some ⟨w.heap.size+1,0,none⟩) 1 1) (at0 [c])):=by
  have h:=heap_alloc_new (w.alloc (.cells #[.int .i64 0, .int .i64 c.k, .int .i64 c.n, .int .i64 c.m, .bool c.on, .string ⟨c.t.toArray⟩, .string ⟨c.x.toArray⟩, .string ⟨c.y.toArray⟩, .string ⟨c.i.toArray⟩, .string ⟨c.j.toArray⟩,nils,nils] 104)) (.cells #[.int .i64 0, .int .i64 c.k, .int .i64 c.n, .int .i64 c.m, .bool c.on, .string ⟨c.t.toArray⟩, .string ⟨c.x.toArray⟩, .string ⟨c.y.toArray⟩, .string ⟨c.i.toArray⟩, .string ⟨c.j.toArray⟩,nils,nils] 104)
  rw [show (w.alloc (.cells #[.int .i64 0, .int .i64 c.k, .int .i64 c.n, .int .i64 c.m, .bool c.on, .string ⟨c.t.toArray⟩, .string ⟨c.x.toArray⟩, .string ⟨c.y.toArray⟩, .string ⟨c.i.toArray⟩, .string ⟨c.j.toArray⟩,nils,nils] 104)).heap.size=w.heap.size+1 by simp] at h
  refine ⟨_,⟨rfl, .inr ⟨w.heap.size+1,1,_,rfl,Nat.le_succ _,h,Nat.le_refl _,by unfold maxLen;omega,rfl,?_⟩⟩, .cons (p:=none) (q:=none) (k:=0) (m:=0) (by rw [HN.out];exact NumsIn.nil _ _ _) (by rw [HB.out];exact BlksIn.nil _ _ _) .nil⟩
  simp only [HN.out,HB.out]
  rfl
 have HBB:Hid (Below w.heap.size w ((w.alloc (.cells #[.int .i64 0, .int .i64 c.k, .int .i64 c.n, .int .i64 c.m, .bool c.on, .string ⟨c.t.toArray⟩, .string ⟨c.x.toArray⟩, .string ⟨c.y.toArray⟩, .string ⟨c.i.toArray⟩, .string ⟨c.j.toArray⟩,nils,nils] 104)).alloc (.cells #[.int .i64 0, .int .i64 c.k, .int .i64 c.n, .int .i64 c.m, .bool c.on, .string ⟨c.t.toArray⟩, .string ⟨c.x.toArray⟩, .string ⟨c.y.toArray⟩, .string ⟨c.i.toArray⟩, .string ⟨c.j.toArray⟩,nils,nils] 104))):=((Below.refl _ _).alloc (Nat.le_refl _) _).alloc (by simp) _
 go_enter Tryz.func93,Tryz.ntmps93
 go_wp2_with fail
 go_ret2
 exact ⟨HBB.out,_,rfl,HW.out⟩
theorem one_at (k n m:Int) (on:Bool) (t x y i j:List UInt8) (w:World):
  Calls Tryz.prog 93 #[.agg #[.int .i64 0, .int .i64 k, .int .i64 n, .int .i64 m, .bool on, .string ⟨t.toArray⟩, .string ⟨x.toArray⟩, .string ⟨y.toArray⟩, .string ⟨i.toArray⟩, .string ⟨j.toArray⟩, .slice none 0 0, .slice none 0 0]] w (PlainOut (.ok [⟨k,n,m,on,t,x,y,i,j, [], []⟩]) w):=
 one_c ⟨k,n,m,on,t,x,y,i,j, [], []⟩ rfl rfl w
end Go.Proofs.YtfldplmgkeiimaaGreatDoor.GW
