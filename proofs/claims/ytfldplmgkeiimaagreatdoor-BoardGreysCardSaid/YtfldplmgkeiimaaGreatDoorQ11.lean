/-
  Several texts of this proof in one: Qw, Qs, Qt.
-/
import Derived.Test.YtfldplmgkeiimaaGreatDoorQ9
import Derived.Test.YtfldplmgkeiimaaGreatDoorQ10
import Derived.Test.YtfldplmgkeiimaaGreatDoorQ4
set_option linter.unusedVariables false
set_option linter.unusedSimpArgs false
namespace Go.Proofs.YtfldplmgkeiimaaGreatDoor.VW
open Go.RowKit Go.Proofs.YtfldplmgkeiimaaGreatDoor.Vp
theorem own_other {w:World} {B:Nat} {e t:TypeId} {sz n:Nat} {v:Value} {xs:List Value} (h:w.ownsRow B e sz v n xs) {b:Nat} {cs:Array Value} {fz:Nat × Nat} (hb:w.heap[b]?=some (.cells cs t fz)) (he:e≠t):v.ownBlock≠some b:=by
 rcases h.2 with ⟨rfl,_⟩|⟨g,cap,cur,rfl,_,hh,_⟩
 ·simp [Value.ownBlock]
 ·intro h2
  have:g=b:=by simpa [Value.ownBlock] using h2
  subst this
  rw [hb] at hh
  injection hh with hh
  injection hh with _ ht
  exact he ht.symm
abbrev tPl:TypeId:=166
abbrev tLv:TypeId:=169
abbrev plCs (p:Pl) (fu:Int) (m L:Nat) (cv:Value):Array Value:= #[.int .i64 p.unit, .int .i64 fu, .int .i64 p.fi, .int .i64 p.fd, .bool p.ft, .bool p.formed, .map (some m), .int .i64 p.picked, .slice none 0 0, .int .i64 p.at_.1, .int .i64 p.at_.2, .int .i64 p.mode, .bool p.multi, .bool p.dark, .bool p.tn.mx, .bool p.tn.my, .int .i64 p.tn.q, .int .i64 p.tn.by_.1, .int .i64 p.tn.by_.2, .bool p.region,cv, .slice (some ⟨L,0,none⟩) 1 1, .int .i64 p.made, .int .i64 p.budget, .bool p.ended]
abbrev lvCs (ov:Value):Array Value:= #[.bool false, .int .i64 0, .int .i64 0, .int .i64 0, .int .i64 0, .int .i64 0,ov]
structure CtM (R:Nat→Prop) (B:Nat) (w:World) (cv:Value) (cs:List (List P2)) (xs:List Value):Prop where
 own:w.ownsRow B tPts 1 cv cs.length xs
 init:∀i (hi:i+1 < cs.length),∃q c,xs[i]?=some (.slice q cs[i].length c)∧cs[i].length≤c∧PtsIn R w q cs[i]
 last:∀i (hi:i < cs.length),i+1=cs.length→∃g c,xs[i]?=some (.slice (some ⟨g,0,none⟩) cs[i].length c)∧w.ownsRow B tPt 2 (.slice (some ⟨g,0,none⟩) cs[i].length c) cs[i].length (ptsL cs[i])∧¬R g
theorem CtM.nil (R:Nat→Prop) (B:Nat) (w:World):CtM R B w (.slice none 0 0) [] []:=⟨⟨rfl, .inl ⟨rfl,rfl⟩⟩,fun i hi=>absurd hi (Nat.not_lt_zero _),fun i hi=>absurd hi (Nat.not_lt_zero _)⟩
theorem CtM.below {R:Nat→Prop} {B:Nat} {w w':World} {cv:Value} {cs:List (List P2)} {xs:List Value} (h:CtM R B w cv cs xs) (hb:Below w.heap.size w w'):CtM R B w' cv cs xs:=by
 refine ⟨row_below h.own hb,fun i hi=>?_,fun i hi he=>?_⟩
 ·obtain ⟨q,c,h1,h2,h3⟩:=h.init i hi
  exact ⟨q,c,h1,h2,h3.below hb⟩
 ·obtain ⟨g,c,h1,h2,h3⟩:=h.last i hi he
  exact ⟨g,c,h1,row_below h2 hb,h3⟩
theorem row_keep {S:Nat→Prop} {w w':World} {B:Nat} {e:TypeId} {sz n:Nat} {v:Value} {xs:List Value} (h:w.ownsRow B e sz v n xs) (hk:Keep S w w') (hS:∀k,v.ownBlock=some k→S k):w'.ownsRow B e sz v n xs:=by
 refine ⟨h.1,?_⟩
 rcases h.2 with h1 |⟨g,cap,cur,rfl,hB,hh,h2⟩
 ·exact .inl h1
 ·exact .inr ⟨g,cap,cur,rfl,hB,hk.get (hS g rfl) hh,h2⟩
theorem CtM.keep {R S:Nat→Prop} {B:Nat} {w w':World} {cv:Value} {cs:List (List P2)} {xs:List Value} (h:CtM R B w cv cs xs) (hk:Keep S w w') (h1:∀k,R k→S k) (h2:∀k cur,w.heap[k]?=some (.cells cur tPts (0,0))→S k) (h3:∀k cur,w.heap[k]?=some (.cells cur tPt (0,0))→S k):CtM R B w' cv cs xs:=by
 refine ⟨row_keep h.own hk fun k e=>?_,fun i hi=>?_,fun i hi he=>?_⟩
 ·rcases h.own.2 with ⟨rfl,_⟩|⟨g,cap,cur,rfl,hB,hh,_⟩
  ·simp [Value.ownBlock] at e
  ·simp only [Value.ownBlock,Option.some.injEq] at e;subst e;exact h2 _ _ hh
 ·obtain ⟨q,c,e1,e2,e3⟩:=h.init i hi
  exact ⟨q,c,e1,e2,(e3.keep (hk.mono fun k _=>h1 k))⟩
 ·obtain ⟨g,c,e1,e2,e3⟩:=h.last i hi he
  refine ⟨g,c,e1,row_keep e2 hk fun k e=>?_,e3⟩
  rcases e2.2 with ⟨e4,_⟩|⟨g,cap,cur,e4,hB,hh,_⟩
  ·rw [e4] at e;simp [Value.ownBlock] at e
  ·rw [e4] at e;simp only [Value.ownBlock,Option.some.injEq] at e;subst e;exact h3 _ _ hh
def PaM (w:World) (m:Nat) (ap:Int→Option Ap):Prop:=(∀k,ap k=none)∧w.heap[m]?=some (.map #[] 0)
structure PlAt (w0:World) (P:Nat) (R:Nat→Prop) (m L:Nat) (fu:Int) (cv ov:Value) (cx ox:List Value) (p:Pl) (w:World):Prop where
 pl:w.heap[P]?=some (.cells (plCs p fu m L cv) tPl)
 mp:PaM w m p.apers
 lv:w.heap[L]?=some (.cells (lvCs ov) tLv)
 ct:CtM R w0.heap.size w cv p.conts cx
 ob:w.ownsRow w0.heap.size tOb 11 ov p.top.objs.length ox
 obs:PartsAt R w (obP p.top.objs) ox
 rlo:∀k,R k→w0.heap.size≤k∧k < w.heap.size
 rP:¬R P
 rL:¬R L
 rm:¬R m
 rK:∀k,cv.ownBlock=some k→¬R k
 rO:∀k,ov.ownBlock=some k→¬R k
 bP:w0.heap.size≤P
 bL:w0.heap.size≤L
 bm:w0.heap.size≤m
 bel:Below w0.heap.size w0 w
 top:p.top={lv0 with objs:=p.top.objs}
 lvs:p.levels= []
 mac:p.macros= []
def PlM (w0:World) (P:Nat) (p:Pl) (w:World):Prop:=∃R m L fu cv ov cx ox,PlAt w0 P R m L fu cv ov cx ox p w
theorem PlAt.below {w0:World} {P:Nat} {R:Nat→Prop} {m L:Nat} {fu:Int} {cv ov:Value} {cx ox:List Value} {p:Pl} {w w':World} (h:PlAt w0 P R m L fu cv ov cx ox p w) (hb:Below w.heap.size w w'):PlAt w0 P R m L fu cv ov cx ox p w':=
 {h with pl:=one_below h.pl hb,mp:=⟨h.mp.1,one_below h.mp.2 hb⟩,lv:=one_below h.lv hb,ct:=h.ct.below hb,ob:=row_below h.ob hb,obs:=h.obs.below hb,rlo:=fun k hk=>⟨(h.rlo k hk).1,Nat.lt_of_lt_of_le (h.rlo k hk).2 hb.size⟩,bel:=h.bel.trans (hb.mono h.bel.size)}
theorem PlM.below {w0:World} {P:Nat} {p:Pl} {w w':World} (h:PlM w0 P p w) (hb:Below w.heap.size w w'):PlM w0 P p w':=by
 obtain ⟨R,m,L,fu,cv,ov,cx,ox,h⟩:=h
 exact ⟨R,m,L,fu,cv,ov,cx,ox,h.below hb⟩
theorem ne_of_type {w:World} {i j:Nat} {a b:Array Value} {s t:TypeId} {f g:Nat × Nat} (h1:w.heap[i]?=some (.cells a s f)) (h2:w.heap[j]?=some (.cells b t g)) (h:s≠t):i≠j:=by
 rintro rfl
 rw [h1] at h2
 injection h2 with h2
 injection h2 with _ h2
 exact h h2
theorem ne_of_map {w:World} {i j:Nat} {a:Array Value} {s:TypeId} {f:Nat × Nat} {es:Array MapEntry} {c:Nat} (h1:w.heap[i]?=some (.cells a s f)) (h2:w.heap[j]?=some (.map es c)):i≠j:=by
 rintro rfl
 rw [h1] at h2
 cases h2
theorem PlAt.setP {w0:World} {P:Nat} {R:Nat→Prop} {m L:Nat} {fu:Int} {cv ov:Value} {cx ox:List Value} {p:Pl} {w:World} (h:PlAt w0 P R m L fu cv ov cx ox p w) {w':World} {p':Pl} {fu':Int} (hk:Keep (fun k=>k≠P) w w') (hp:w'.heap[P]?=some (.cells (plCs p' fu' m L cv) tPl)) (h1:p'.conts=p.conts) (h2:p'.top=p.top) (h3:p'.apers=p.apers) (h4:p'.levels=p.levels) (h5:p'.macros=p.macros):PlAt w0 P R m L fu' cv ov cx ox p' w' where
 pl:=hp
 mp:=by rw [h3];exact ⟨h.mp.1,hk.get (ne_of_map h.pl h.mp.2).symm h.mp.2⟩
 lv:=hk.get (ne_of_type h.lv h.pl (by decide)) h.lv
 ct:=by rw [h1];exact h.ct.keep hk (fun k hR e=>h.rP (e ▸ hR)) (fun k cur hh=>ne_of_type hh h.pl (by decide)) (fun k cur hh=>ne_of_type hh h.pl (by decide))
 ob:=by rw [h2];exact row_keep h.ob hk fun k e=>fun e2=>own_other h.ob h.pl (by decide) (e2 ▸ e)
 obs:=by rw [h2];exact h.obs.keep (hk.mono fun k _ hR e=>h.rP (e ▸ hR))
 rlo:=fun k hk'=>⟨(h.rlo k hk').1,Nat.lt_of_lt_of_le (h.rlo k hk').2 hk.size⟩
 rP:=h.rP
 rL:=h.rL
 rm:=h.rm
 rK:=h.rK
 rO:=h.rO
 bP:=h.bP
 bL:=h.bL
 bm:=h.bm
 bel:=h.bel.trans (hk.below _ h.bel.size fun k hk2 e=>by have:=h.bP;omega)
 top:=by rw [h2];exact h.top
 lvs:=h4.trans h.lvs
 mac:=h5.trans h.mac
theorem ptsL_cells {w:World} {B g n c:Nat} {l:List P2} (h:w.ownsRow B tPt 2 (.slice (some ⟨g,0,none⟩) n c) n (ptsL l)) (hn:n=l.length) {i:Nat} (hi:i < l.length):w.cell? ⟨g,i *2,none⟩=some (.int .i64 l[i].1)∧w.cell? ⟨g,i *2+1,none⟩=some (.int .i64 l[i].2):=by
 obtain ⟨h1,h2⟩:=ptsL_at hi
 exact ⟨(h.cellAt _ (by omega)).trans h1,(h.cellAt _ (by omega)).trans h2⟩
theorem CtM.lastAt {R:Nat→Prop} {B:Nat} {w:World} {cv:Value} {cs:List (List P2)} {xs:List Value} (h:CtM R B w cv cs xs) {n:Nat} (hn:cs.length=n+1) {c:List P2} (hc:cs[n]?=some c):∃K cap g cg,cv= .slice (some ⟨K,0,none⟩) (n+1) cap∧w.cell? ⟨K,n,none⟩=some (.slice (some ⟨g,0,none⟩) c.length cg)∧w.frozen? ⟨K,n,none⟩=false∧w.ownsRow B tPt 2 (.slice (some ⟨g,0,none⟩) c.length cg) c.length (ptsL c)∧¬R g:=by
 obtain ⟨hi,rfl⟩:=List.getElem?_eq_some_iff.1 hc
 obtain ⟨g,cg,h1,h2,h3⟩:=h.last n hi hn.symm
 have ho:=h.own
 rw [hn] at ho
 obtain ⟨K,cap,hv⟩:∃K cap,cv= .slice (some ⟨K,0,none⟩) (n+1) cap:=by
  rcases ho.2 with ⟨_,h0⟩|⟨K,cap,cur,hv,_⟩
  ·omega
  ·exact ⟨K,cap,hv⟩
 subst hv
 exact ⟨K,cap,g,cg,rfl,(ho.cellAt n (by omega)).trans h1,ho.frozenAt n,h2,h3⟩
set_option maxRecDepth 100000 in
theorem closed_c (w0:World) (P:Nat) (p:Pl) (w:World) (H:Hid (PlM w0 P p w)) (hs:p.conts.length≤1000000∧∀c∈p.conts,0 < c.length∧c.length≤1000000) (f:Bool) (hf:Hid (closedC p.conts=f)):
  Calls Tryz.prog 144 #[.pointer (some ⟨P,0,none⟩)] w fun e w'=>e= .returned (.bool f)∧Below w.heap.size w w':=by
 obtain ⟨R,m,L,fu,cv,ov,cx,ox,h⟩:=H.out
 have c20:=cell_of (i:=20) h.pl rfl
 have hct:=h.ct
 have HF:=hf.out
 clear h H hf
 generalize p.conts=cs at *
 obtain ⟨h1,h2⟩:=hs
 cases hcl:cs.length with
 | zero=>
  have h0:cs= []:=List.eq_nil_of_length_eq_zero hcl
  subst h0
  obtain ⟨q,d,rfl⟩:=row_form hct.own
  subst HF
  clear hct h1 h2 hcl
  simp only [List.length_nil] at c20
  go_enter Tryz.func144,Tryz.ntmps144
  go_wp2_with fail
  go_ret
  exact ⟨rfl,Below.refl _ _⟩
 | succ n=>
  have hi:n < cs.length:=by omega
  obtain ⟨c,hc⟩:∃c,cs[n]=c:=⟨_,rfl⟩
  have hmem:c∈cs:=by rw [←hc];exact List.getElem_mem _
  obtain ⟨K,cap,g,cg,rfl,ck,_,hrow,_⟩:=hct.lastAt hcl (c:=c) (by rw [List.getElem?_eq_getElem hi,hc])
  obtain ⟨m1,m2⟩:=h2 c hmem
  have hlast:cs.getLast?=some c:=by rw [List.getLast?_eq_getElem?,hcl];simp only [Nat.add_sub_cancel];rw [List.getElem?_eq_getElem hi,hc]
  have hF2:(decide (4≤c.length) && decide (c.head?=c.getLast?))=f:=by rw [←HF];unfold closedC;rw [hlast]
  obtain ⟨k,hk⟩:∃k,c.length=k+1:=⟨c.length - 1,by omega⟩
  have hh:c.head?=some c[0]:=by rw [List.head?_eq_getElem?,List.getElem?_eq_getElem (by omega)]
  have hg:c.getLast?=some c[k]:=by rw [List.getLast?_eq_getElem?,show c.length - 1=k by omega];rw [List.getElem?_eq_getElem (by omega)]
  rw [hh,hg] at hF2
  obtain ⟨a0,a1⟩:=ptsL_cells hrow rfl (i:=0) (by omega)
  obtain ⟨b0,b1⟩:=ptsL_cells hrow rfl (i:=k) (by omega)
  obtain ⟨⟨ax,ay⟩,ha⟩:∃a,c[0]=a:=⟨_,rfl⟩
  obtain ⟨⟨bx,bz⟩,hb⟩:∃a,c[k]=a:=⟨_,rfl⟩
  rw [ha] at a0 a1 hF2
  rw [hb] at b0 b1 hF2
  rw [hk] at ck m2 hF2
  have HF2:=Lib.hid hF2
  have hnb:n≤1000000:=by omega
  clear hF2 ha hb hh hg hlast hrow hct h2 hmem hc HF hcl hk hi m1
  obtain ⟨nc,hnc⟩:∃nc,k+1=nc:=⟨_,rfl⟩
  obtain ⟨nn,hnn⟩:∃nn,n+1=nn:=⟨_,rfl⟩
  rw [hnc] at ck m2 HF2
  rw [hnn] at c20
  have hw1:IntKind.i64.wrap ((nn:Int) - 1)=(n:Int):=by rw [IntWalk.i64_in _ (by omega)];omega
  have hw2:IntKind.i64.wrap ((nc:Int) - 1)=(k:Int):=by rw [IntWalk.i64_in _ (by omega)];omega
  have hn0:(((nn:Int)==0):Bool)=false:=by rw [beq_eq_false_iff_ne];omega
  go_enter Tryz.func144,Tryz.ntmps144
  by_cases h4:4≤nc
  ·have hd:decide ((4:Int)≤(nc:Int))=true:=by rw [decide_eq_true_eq];omega
   have z0:(0:Int)<(nc:Int):=by omega
   have z1:0 < nc:=by omega
   have z2:k < nc:=by omega
   have z3:(k:Int)<(nc:Int):=by omega
   obtain ⟨e1,he1⟩:∃e,(ax==bx)=e:=⟨_,rfl⟩
   obtain ⟨e2,he2⟩:∃e,(ay==bz)=e:=⟨_,rfl⟩
   have hff:f=(e1 && e2):=by
    rw [←HF2.out,←he1,←he2,Bool.eq_iff_iff]
    simp only [Bool.and_eq_true,decide_eq_true_eq,beq_iff_eq,Option.some.injEq,Prod.mk.injEq]
    exact ⟨fun h=>h.2,fun h=>⟨h4,h⟩⟩
   subst hff
   clear HF2
   cases e1 <;> cases e2
   all_goals
    go_upto_region 3 with fail
    go_quiet (fail)
    go_upto_region 4 with fail
    go_quiet (fail)
    go_wp2_with fail
    go_ret
    exact ⟨rfl,bel_drewN (Below.refl _ _) _⟩
  ·have hd:decide ((4:Int)≤(nc:Int))=false:=by rw [decide_eq_false_iff_not];omega
   go_upto_region 3 with fail
   go_quiet (fail)
   go_upto_region 4 with fail
   go_quiet (fail)
   go_wp2_with fail
   go_ret
   have hff:f=false:=by
    rw [←HF2.out]
    simp
    omega
   subst hff
   exact ⟨rfl,bel_drewN (Below.refl _ _) _⟩
end Go.Proofs.YtfldplmgkeiimaaGreatDoor.VW
namespace Go.Proofs.YtfldplmgkeiimaaGreatDoor.VW
open Go.RowKit Go.Proofs.YtfldplmgkeiimaaGreatDoor.Vp
def lenOf:Value→Nat
 | .slice _ n _=>n
 | _=>0
structure CpM (w0:World) (g:Nat) (cs:List Value) (T:Nat) (x:World):Prop where
 sh:x.heap[g]?=some (.cells cs.toArray tSh)
 res:x.heap[g+1]?=some (.cells #[.int .i64 0, .int .i64 0, .int .i64 0, .int .i64 0, .int .i64 0, .int .i64 0, .int .i64 0, .int .i64 0, .slice none 0 0, .slice none 0 0] tSh)
 todo:x.heap[T]?=some (.cells #[.pointer (some ⟨g,0,none⟩)] 187)
 bel:Below w0.heap.size w0 x
theorem CpM.below {w0:World} {g:Nat} {cs:List Value} {T:Nat} {x y:World} (h:CpM w0 g cs T x) (hb:Below x.heap.size x y):CpM w0 g cs T y:=⟨one_below h.sh hb,one_below h.res hb,one_below h.todo hb,h.bel.trans (hb.mono h.bel.size)⟩
set_option maxRecDepth 100000 in
set_option maxHeartbeats 12800000 in
theorem copy0_c (S:Nat→Prop) (k ax ay bx bz cx cy r:Int) (l:List (List P2)) (hne:∀c∈l,0 < c.length) (n:Nat) (hn:n=l.length) (pl:Option Addr) (cl:Nat) (pp:Option Addr) (cp:Nat) (w:World) (H:Hid (ConsIn S w pl l)):
  Calls Tryz.prog 53 #[.agg #[.int .i64 k, .int .i64 ax, .int .i64 ay, .int .i64 bx, .int .i64 bz, .int .i64 cx, .int .i64 cy, .int .i64 r, .slice pl n cl, .slice pp 0 cp]] w fun e w'=>∃q d,e= .returned (.agg #[.int .i64 k, .int .i64 ax, .int .i64 ay, .int .i64 bx, .int .i64 bz, .int .i64 cx, .int .i64 cy, .int .i64 r, .slice q n d, .slice none 0 0])∧n≤d∧ConsIn (fun k=>w.heap.size≤k) w' q l∧Below w.heap.size w w':=by
 have HN:=Lib.hid hn
 have HNE:=Lib.hid hne
 clear hn hne
 go_enter Tryz.func53,Tryz.ntmps53
 go_upto_region 1 with fail
 obtain ⟨W,hW⟩:∃W,(w.alloc (.cells #[.int .i64 k, .int .i64 ax, .int .i64 ay, .int .i64 bx, .int .i64 bz, .int .i64 cx, .int .i64 cy, .int .i64 r, .slice pl n cl, .slice pp 0 cp] tSh)).alloc (.cells #[.int .i64 0, .int .i64 0, .int .i64 0, .int .i64 0, .int .i64 0, .int .i64 0, .int .i64 0, .int .i64 0, .slice none 0 0, .slice none 0 0] tSh)=W:=⟨_,rfl⟩
 have H1:Hid (W.heap[w.heap.size]?=some (.cells #[.int .i64 k, .int .i64 ax, .int .i64 ay, .int .i64 bx, .int .i64 bz, .int .i64 cx, .int .i64 cy, .int .i64 r, .slice pl n cl, .slice pp 0 cp] tSh)):=by show _=_;rw [←hW];exact one_below (alloc_new _ _) (bel_alloc _ _)
 have H2:Hid (W.heap[w.heap.size+1]?=some (.cells #[.int .i64 0, .int .i64 0, .int .i64 0, .int .i64 0, .int .i64 0, .int .i64 0, .int .i64 0, .int .i64 0, .slice none 0 0, .slice none 0 0] tSh)):=by show _=_;rw [←hW];exact second_new _ _ _
 have HB:Hid (Below w.heap.size w W):=by show Below _ _ _;rw [←hW];exact bel2 _ _ _
 rw [hW]
 clear hW
 obtain ⟨g0,g1,g2,g3,g4,g5,g6,g7,g8,g9⟩:=sh_at H1.out
 go_wp2_with fail
 with_reducible refine (count0 k ax ay bx bz cx cy r pl n cl pp cp _).mono ?_
 rintro e W1 ⟨rfl,hb⟩
 have H1':=Lib.hid (one_below H1.out hb)
 have H2':=Lib.hid (one_below H2.out hb)
 have HB':Hid (Below w.heap.size w W1):=HB.out.trans (hb.mono HB.out.size)
 clear g0 g1 g2 g3 g4 g5 g6 g7 g8 g9 hb H1 H2 HB
 go_wp2_with fail
 have HM:Hid (CpM w w.heap.size [.int .i64 k, .int .i64 ax, .int .i64 ay, .int .i64 bx, .int .i64 bz, .int .i64 cx, .int .i64 cy, .int .i64 r, .slice pl n cl, .slice pp 0 cp] W1.heap.size (W1.alloc (.cells #[.pointer (some ⟨w.heap.size,0,none⟩)] 187))):=
  ⟨one_below H1'.out (bel_alloc _ _),one_below H2'.out (bel_alloc _ _),alloc_new _ _,HB'.out.trans ((bel_alloc _ _).mono HB'.out.size)⟩
 have HT1:=Lib.hid (lt_of_heap H2'.out)
 generalize W1.alloc (.cells #[.pointer (some ⟨w.heap.size,0,none⟩)] 187)=W2 at HM⊢
 obtain ⟨T,hT⟩:∃T,W1.heap.size=T:=⟨_,rfl⟩
 rw [hT] at HM HT1⊢
 clear hT H1' H2' HB'
 go_loopw [4] (fun t wr=>∃(m:Nat) (ls:Value) (ps:Value) (wy:World),wy=wr∧m≤1∧t= .slice (some ⟨T,0,none⟩) m 1∧Hid (CpM w w.heap.size [.int .i64 k, .int .i64 ax, .int .i64 ay, .int .i64 bx, .int .i64 bz, .int .i64 cx, .int .i64 cy, .int .i64 r,ls,ps] T wy)∧Hid (m=1→ls= .slice pl n cl∧ps= .slice pp 0 cp)∧Hid (m=0→∃q d,ls= .slice q n d∧ps= .slice none 0 0∧n≤d∧ConsIn (fun k=>w.heap.size+1 < k∧k≠T) wy q l)) (fun t _=>lenOf t)
 case atStart=>exact ⟨1,_,_,_,rfl,Nat.le_refl _,rfl,HM.out,(fun _=>⟨rfl,rfl⟩),(fun h=>absurd h (by decide))⟩
 case round=>
 obtain ⟨m,ls,ps,wy,rfl,hm,rfl,HY,HA,HZ⟩:=hrel
 rcases (show m=1∨m=0 by omega) with rfl | rfl
 ·obtain ⟨rfl,rfl⟩:=HA.out rfl
  clear HA HZ
  obtain ⟨g0,g1,g2,g3,g4,g5,g6,g7,g8,g9⟩:=sh_at HY.out.sh
  have t0:wy.cell? ⟨T,0,none⟩=some (.pointer (some ⟨w.heap.size,0,none⟩)):=cell_of HY.out.todo rfl
  go_wp2_with fail
  with_reducible refine (pileCont_c S pl l HNE.out n cl HN.out _ (Lib.hid (H.out.below HY.out.bel))).mono ?_
  rintro e W3 ⟨q,d,rfl,hd,hcon,hb⟩
  have HY3:=Lib.hid (HY.out.below hb)
  have htl:=lt_of_heap HY.out.todo
  have hrl:=lt_of_heap HY.out.res
  have HC3:Hid (ConsIn (fun k=>w.heap.size+1 < k∧k≠T) W3 q l):=hcon.mono (fun k _ h=>⟨by omega,by omega⟩)
  have HD:=Lib.hid hd
  clear g0 g1 g2 g3 g4 g5 g6 g7 g8 g9 t0 hb hcon hd htl hrl
  obtain ⟨g0,g1,g2,g3,g4,g5,g6,g7,g8,g9⟩:=sh_at HY3.out.sh
  have fz:=cells_f HY3.out.sh
  have n1:=lt_of_heap HY3.out.sh
  have HT2:Hid (w.heap.size+1 < T):=HT1.out
  have HY5:Hid (CpM w w.heap.size [.int .i64 k, .int .i64 ax, .int .i64 ay, .int .i64 bx, .int .i64 bz, .int .i64 cx, .int .i64 cy, .int .i64 r, .slice q n d, .slice none 0 0] T ((W3.setCell ⟨w.heap.size,8,none⟩ (.slice q n d)).setCell ⟨w.heap.size,9,none⟩ (.slice none 0 0))):=by
   have h:=HT2.out
   refine ⟨set_at _ (set_at _ HY3.out.sh),(far0 (by omega)).trans ((far0 (by omega)).trans HY3.out.res),(far0 (by omega)).trans ((far0 (by omega)).trans HY3.out.todo),(HY3.out.bel.setCell (p:=⟨w.heap.size,8,none⟩) (Nat.le_refl _) _).setCell (p:=⟨w.heap.size,9,none⟩) (Nat.le_refl _) _⟩
  have HC5:Hid (ConsIn (fun k=>w.heap.size+1 < k∧k≠T) ((W3.setCell ⟨w.heap.size,8,none⟩ (.slice q n d)).setCell ⟨w.heap.size,9,none⟩ (.slice none 0 0)) q l):=HC3.out.keep ((Keep.set (a:=⟨w.heap.size,8,none⟩) (fun h=>by have h1:w.heap.size+1 < w.heap.size:=h.1;omega) _).trans (Keep.set (a:=⟨w.heap.size,9,none⟩) (fun h=>by have h1:w.heap.size+1 < w.heap.size:=h.1;omega) _))
  go_wp2_with fail
  go_round <;> first | exact ⟨0,_,_,_,rfl,by decide,rfl,HY5.out,(fun h=>absurd h (by decide)),(fun _=>⟨q,d,rfl,rfl,HD.out,HC5.out⟩)⟩|(simp [lenOf];done)
 ·obtain ⟨q,d,rfl,rfl,hd,hcon⟩:=HZ.out rfl
  have HC:=Lib.hid hcon
  have HD:=Lib.hid hd
  clear HA HZ hcon hd
  obtain ⟨g0,g1,g2,g3,g4,g5,g6,g7,g8,g9⟩:=sh_at HY.out.sh
  obtain ⟨u0,u1,u2,u3,u4,u5,u6,u7,u8,u9⟩:=sh_at HY.out.res
  have fu:=cells_f HY.out.res
  go_wp2_with fail
  have hrr:=putW_all [.int .i64 k, .int .i64 ax, .int .i64 ay, .int .i64 bx, .int .i64 bz, .int .i64 cx, .int .i64 cy, .int .i64 r, .slice q n d, .slice none 0 0] HY.out.res rfl
  have hb:=putW_below (m:=0) (b:=w.heap.size+1) (Nat.le_succ _) [.int .i64 k, .int .i64 ax, .int .i64 ay, .int .i64 bx, .int .i64 bz, .int .i64 cx, .int .i64 cy, .int .i64 r, .slice q n d, .slice none 0 0] HY.out.bel
  have hk:=putW_keep (S:=fun k=>w.heap.size+1 < k∧k≠T) (b:=w.heap.size+1) (w:=wy) (m:=0) (fun h=>Nat.lt_irrefl _ h.1) [.int .i64 k, .int .i64 ax, .int .i64 ay, .int .i64 bx, .int .i64 bz, .int .i64 cx, .int .i64 cy, .int .i64 r, .slice q n d, .slice none 0 0]
  exact bodyPost_ret (results_cell_row rfl _ _ (w.heap.size+1) _ _ _ _ rfl hrr Tryz.underlying75 rfl (by kernel_rfl)) rfl ⟨q,d,rfl,HD.out,(HC.out.keep hk).mono (fun k _ h=>by have:=h.1;omega),hb⟩
end Go.Proofs.YtfldplmgkeiimaaGreatDoor.VW
namespace Go.Proofs.YtfldplmgkeiimaaGreatDoor.VW
open Go.RowKit Go.Proofs.YtfldplmgkeiimaaGreatDoor.Vp
def Plain (s:Shp):Prop:=s.p= .nil∧∀c∈s.b.l,0 < c.length
def LsM (w0:World) (sv:Value) (os:List Ob) (x:World):Prop:=∃(R:Nat→Prop) (xs:List Value),x.ownsRow w0.heap.size tOb 11 sv os.length xs∧PartsAt R x (obP os) xs∧(∀k,R k→w0.heap.size≤k∧k < x.heap.size)∧(∀k,sv.ownBlock=some k→¬R k)∧Below w0.heap.size w0 x
theorem LsM.below {w0:World} {sv:Value} {os:List Ob} {x y:World} (h:LsM w0 sv os x) (hb:Below x.heap.size x y):LsM w0 sv os y:=by
 obtain ⟨R,xs,h1,h2,h3,h4,h5⟩:=h
 exact ⟨R,xs,row_below h1 hb,h2.below hb,fun k hk=>⟨(h3 k hk).1,Nat.lt_of_lt_of_le (h3 k hk).2 hb.size⟩,h4,h5.trans (hb.mono h5.size)⟩
theorem LsM.push {w0:World} {sv sv':Value} {os:List Ob} {X Y Z:World} (h:LsM w0 sv os X) {g n' c':Nat} {d:Bool} {b:Bs} {q:Option Addr} {e:Nat} {V:List Value} {xs:List Value} (hXY:Below X.heap.size X Y) (hYZ:Below Y.heap.size Y Z) (hq:ConsIn (fun k=>X.heap.size≤k) Y q b.l) (he:b.l.length≤e) {W:World}
  (hg:Z.grownBy W sv.ownBlock) (hV:V= .bool d :: shVs b (.slice q b.l.length e) (.slice none 0 0)) (hx:∀ys,X.ownsRow w0.heap.size tOb 11 sv os.length ys→xs=ys) (hown:W.ownsRow w0.heap.size tOb 11 sv' (os.length+1) (xs++V)) (hs':sv'= .slice (some ⟨g,0,none⟩) n' c') (hat:sv.ownBlock=some g∨Y.heap.size≤g):LsM w0 sv' (os++ [(d,⟨b, .nil⟩)]) W:=by
 obtain ⟨R,ys,h1,h2,h3,h4,h5⟩:=h
 obtain rfl:=hx ys h1
 subst hV
 have hXZ:Below X.heap.size X Z:=hXY.trans (hYZ.mono hXY.size)
 have hRZ:∀k,sv.ownBlock=some k→¬(R k∨(X.heap.size≤k∧k < Y.heap.size)):=fun k hk h=>by
  rcases h with h | h
  ·exact h4 k hk h
  ·have:=(h1.lt k hk).2;omega
 have hkZ:Keep (fun k=>R k∨(X.heap.size≤k∧k < Y.heap.size)) Z W:=Keep.grown hg hRZ
 refine ⟨fun k=>R k∨(X.heap.size≤k∧k < Y.heap.size),_,by rw [List.length_append];exact hown,?_,fun k hk=>?_,fun k hk h=>?_,(h5.trans (hXZ.mono h5.size)).grown hg (Nat.le_trans h5.size hXZ.size) (fun k hk=>(h1.lt k hk).1)⟩
 ·rw [obP_append]
  refine PartsAt.append (((h2.below hXZ).mono (fun k _ hk=> .inl hk)).keep hkZ) (by rw [h1.1,obP_len]) (.mk (by rfl) ⟨?_, .nil _ _ _,he,Nat.zero_le _⟩ trivial)
  exact ((hq.mono (R:=fun k=>R k∨(X.heap.size≤k∧k < Y.heap.size)) (fun k hk h=> .inr ⟨h,hk⟩)).below hYZ).keep hkZ
 ·have hs1:=hXY.size
  have hs2:=hYZ.size
  have hs3:=hg.size
  have hs5:=h5.size
  rcases hk with hk | hk
  ·have:=h3 k hk;exact ⟨this.1,by omega⟩
  ·exact ⟨by omega,by omega⟩
 ·rw [hs'] at hk
  simp only [Value.ownBlock,Option.some.injEq] at hk
  subst hk
  rcases hat with h6 | h6
  ·exact hRZ g h6 h
  ·rcases h with h | h
   ·have:=(h3 g h).2;have:=hXY.size;omega
   ·omega
theorem own_uniq {w:World} {B B':Nat} {e e':TypeId} {sz n:Nat} {v:Value} {xs ys:List Value} (h:w.ownsRow B e sz v n xs) (g:w.ownsRow B' e' sz v n ys):xs=ys:=by
 rcases h.2 with ⟨hv,h0⟩|⟨k,cap,cur,hv,hB,hh,_,_,_,ht⟩
 ·have h1:=h.1
  have h2:=g.1
  rw [h0,Nat.zero_mul] at h1 h2
  rw [List.eq_nil_of_length_eq_zero h1,List.eq_nil_of_length_eq_zero h2]
 ·rcases g.2 with ⟨gv,g0⟩|⟨k2,cap2,cur2,gv,_,gh,_,_,_,gt⟩
  ·rw [hv] at gv;cases gv
  ·rw [hv] at gv
   injection gv with e1 _ _
   injection e1 with e1
   injection e1 with e1
   subst e1
   rw [hh] at gh
   injection gh with gh
   injection gh with gh _ _
   subst gh
   rw [←ht,←gt]
theorem ObsIn.own {R:Nat→Prop} {w0 x:World} {sv:Value} {os:List Ob} (h:LsM w0 sv os x) (hb:os.length≤big) (hR:∀k,w0.heap.size≤k→R k):∃q d,sv= .slice q os.length d∧ObsIn R x q os:=by
 obtain ⟨R0,xs,h1,h2,h3,h4,h5⟩:=h
 obtain ⟨q,d,rfl⟩:=row_form h1
 refine ⟨q,d,rfl,hb,fun hl=>?_⟩
 rcases h1.2 with ⟨_,h0⟩|⟨k,cap,cur,hv,hB,hh,_,_,_,ht⟩
 ·omega
 ·injection hv with e1 _ _
  refine ⟨k,0,cur,e1,hR k hB,hh,?_⟩
  refine (h2.mono (fun k _ hs=>hR k (h3 k hs).1)).congr ?_
  rw [obP_len,List.drop_zero,←ht,List.take_take,Nat.min_self]
set_option maxRecDepth 100000 in
set_option maxHeartbeats 12800000 in
theorem less0_c (S:Nat→Prop) (l:List Ob) (hl:∀o∈l,Plain o.2) (p:Option Addr) (n c:Nat) (hn:n=l.length) (w:World) (H:Hid (ObsIn S w p l)):
  Calls Tryz.prog 50 #[.slice p n c, .slice none 0 0] w fun e w'=>∃q d,e= .returned (.slice q n d)∧ObsIn (fun k=>w.heap.size≤k) w' q l∧Below w.heap.size w w':=by
 have hbig:n≤1000000000:=by rw [hn];exact H.out.1
 have HN:=Lib.hid hn
 have HL:=Lib.hid hl
 obtain ⟨i0,hi,hz0,hz1,hz2⟩:=info_parts info_ob
 have HI:=Lib.hid (And.intro hi (And.intro hz0 (And.intro hz1 hz2)))
 have hnw:IntKind.i64.wrap (n:Int)=(n:Int):=IntWalk.i64_in _ (by omega)
 clear hn hl hi hz0 hz1 hz2
 go_enter Tryz.func50,Tryz.ntmps50
 go_upto_region 2 with (first |(refine wpList_make_own _ rfl _ _ _ rfl w.heap.size tOb i0 zOb 11 Tryz.underlying47 HI.out.1 HI.out.2.1 HI.out.2.2.1 .i64 .i64 (n:Int) n (by rfl) (by rfl) rfl (by rw [HI.out.2.2.2];omega) (by unfold maxLen;omega) (Nat.le_refl _) ?_;intro W4 hown hgr4))
 have HM0:Hid (LsM w (.slice (some ⟨w.heap.size,0,none⟩) 0 n) [] W4):=⟨fun _=>False, [],hown,trivial,fun k h=>h.elim,fun k _ h=>h,⟨hgr4.os,hgr4.tape,hgr4.output,hgr4.size,fun k hk=>hgr4.block k hk (by simp)⟩⟩
 clear hown hgr4
 go_wp2_with fail
 go_loopw [5,18] (fun rv i wr=>∃(j:Nat) (sv:Value) (wy:World),wy=wr∧j≤n∧sv=rv∧i= .int .i64 j∧Hid (LsM w sv (l.take j) wy)) (fun _ i _=>n -(intOf i).toNat)
 case atStart=>exact ⟨0,_,_,rfl,Nat.zero_le _,rfl,rfl,HM0.out⟩
 case round=>
 obtain ⟨j,sv,wy,rfl,hj,rfl,rfl,HY⟩:=hrel
 by_cases hlt:j < n
 ·have hlt2:j < l.length:=by rw [←HN.out];exact hlt
  have hlti:(j:Int)<(n:Int):=by omega
  obtain ⟨⟨od,⟨ob,os⟩⟩,hq⟩:∃e,l[j]=e:=⟨_,rfl⟩
  obtain ⟨hpn,hne⟩:=HL.out (od,⟨ob,os⟩) (by rw [←hq];exact List.getElem_mem _)
  simp only at hpn
  subst hpn
  have hbw:Below w.heap.size w wy:=by obtain ⟨_,_,_,_,_,_,h⟩:=HY.out;exact h
  obtain ⟨kb,ko,pl,cl,pp,cp,rfl,hkb,_,hsh,c0,c1,c2,c3,c4,c5,c6,c7,c8,c9,c10⟩:=H.out.at hlt2 hq
  have HCN:=Lib.hid hsh.l
  have HTK:Hid (l.take (j+1)=l.take j++ [(od,⟨ob, .nil⟩)]):=by show _=_;rw [List.take_succ_eq_append_getElem hlt2,hq]
  have hlj:(l.take j).length=j:=by rw [List.length_take];omega
  obtain ⟨OS,hos⟩:∃O,l.take j=O:=⟨_,rfl⟩
  rw [hos] at HY HTK hlj
  have HLJ:=Lib.hid hlj
  obtain ⟨nl,hnl⟩:∃n,ob.l.length=n:=⟨_,rfl⟩
  have HNL:=Lib.hid hnl
  have hcC:Hid (∀Z,Below w.heap.size w Z→Calls Tryz.prog 53 #[.agg #[.int .i64 ob.k, .int .i64 ob.a.1, .int .i64 ob.a.2, .int .i64 ob.b.1, .int .i64 ob.b.2, .int .i64 ob.c.1, .int .i64 ob.c.2, .int .i64 ob.r, .slice pl nl cl, .slice pp 0 cp]] Z fun e w'=>∃q d,e= .returned (.agg #[.int .i64 ob.k, .int .i64 ob.a.1, .int .i64 ob.a.2, .int .i64 ob.b.1, .int .i64 ob.b.2, .int .i64 ob.c.1, .int .i64 ob.c.2, .int .i64 ob.r, .slice q nl d, .slice none 0 0])∧nl≤d∧ConsIn (fun k=>Z.heap.size≤k) w' q ob.l∧Below Z.heap.size Z w'):=by
   intro Z hZ
   exact copy0_c S ob.k ob.a.1 ob.a.2 ob.b.1 ob.b.2 ob.c.1 ob.c.2 ob.r ob.l hne nl hnl.symm pl cl pp cp Z (Lib.hid (hsh.l.below hZ))
  rw [hnl] at c9
  change World.cell? _ _=some (Value.slice pp 0 cp) at c10
  have d0:=cell_keep hbw c0
  have d1:=cell_keep hbw c1
  have d2:=cell_keep hbw c2
  have d3:=cell_keep hbw c3
  have d4:=cell_keep hbw c4
  have d5:=cell_keep hbw c5
  have d6:=cell_keep hbw c6
  have d7:=cell_keep hbw c7
  have d8:=cell_keep hbw c8
  have d9:=cell_keep hbw c9
  have d10:=cell_keep hbw c10
  clear c0 c1 c2 c3 c4 c5 c6 c7 c8 c9 c10 hsh hq hne hos hlj hnl hkb
  go_upto_region 5 with fail
  have HY5:=Lib.hid (HY.out.below (bel_alloc wy (.cells #[.bool od, .int .i64 ob.k, .int .i64 ob.a.1, .int .i64 ob.a.2, .int .i64 ob.b.1, .int .i64 ob.b.2, .int .i64 ob.c.1, .int .i64 ob.c.2, .int .i64 ob.r, .slice pl nl cl, .slice pp 0 cp] tOb)))
  have HD5:Hid ((wy.alloc (.cells #[.bool od, .int .i64 ob.k, .int .i64 ob.a.1, .int .i64 ob.a.2, .int .i64 ob.b.1, .int .i64 ob.b.2, .int .i64 ob.c.1, .int .i64 ob.c.2, .int .i64 ob.r, .slice pl nl cl, .slice pp 0 cp] tOb)).heap[wy.heap.size]?=some (.cells #[.bool od, .int .i64 ob.k, .int .i64 ob.a.1, .int .i64 ob.a.2, .int .i64 ob.b.1, .int .i64 ob.b.2, .int .i64 ob.c.1, .int .i64 ob.c.2, .int .i64 ob.r, .slice pl nl cl, .slice pp 0 cp] tOb)):=alloc_new _ _
  have hb5:Below w.heap.size w (wy.alloc (.cells #[.bool od, .int .i64 ob.k, .int .i64 ob.a.1, .int .i64 ob.a.2, .int .i64 ob.b.1, .int .i64 ob.b.2, .int .i64 ob.c.1, .int .i64 ob.c.2, .int .i64 ob.r, .slice pl nl cl, .slice pp 0 cp] tOb)):=hbw.trans ((bel_alloc _ _).mono hbw.size)
  generalize wy.alloc (.cells #[.bool od, .int .i64 ob.k, .int .i64 ob.a.1, .int .i64 ob.a.2, .int .i64 ob.b.1, .int .i64 ob.b.2, .int .i64 ob.c.1, .int .i64 ob.c.2, .int .i64 ob.r, .slice pl nl cl, .slice pp 0 cp] tOb)=W5 at HY5 HD5 hb5⊢
  obtain ⟨D,hD⟩:∃D,wy.heap.size=D:=⟨_,rfl⟩
  rw [hD] at HD5⊢
  clear hD d0 d1 d2 d3 d4 d5 d6 d7 d8 d9 d10 hbw HY
  obtain ⟨d0,d1,d2,d3,d4,d5,d6,d7,d8,d9,d10⟩:=ob_at HD5.out
  have HD6:Hid (W5.drew.heap[D]?=some (.cells #[.bool od, .int .i64 ob.k, .int .i64 ob.a.1, .int .i64 ob.a.2, .int .i64 ob.b.1, .int .i64 ob.b.2, .int .i64 ob.c.1, .int .i64 ob.c.2, .int .i64 ob.r, .slice pl nl cl, .slice pp 0 cp] tOb)):=HD5.out
  obtain ⟨y0,y1,y2,y3,y4,y5,y6,y7,y8,y9,y10⟩:=ob_at HD6.out
  have hDlt:=lt_of_heap HD5.out
  have HBd:Hid (Below w.heap.size w W5.drew):=hb5.drew
  have hdsz:W5.drew.heap.size=W5.heap.size:=rfl
  have hsz5:=hb5.size
  have HB5:=Lib.hid hb5
  obtain ⟨xs,hxs⟩:∃xs,W5.ownsRow w.heap.size tOb 11 sv OS.length xs:=by obtain ⟨_,xs,h,_⟩:=HY5.out;exact ⟨xs,h⟩
  rw [HLJ.out] at hxs
  obtain ⟨ps,cs,rfl⟩:=row_form hxs
  have HXS:=Lib.hid hxs
  clear hxs hb5
  go_region_law (first
   |(refine step_append_lies _ (by rfl) _ _ _ (by rfl) w.heap.size tOb i0 zOb 11 120 Tryz.underlying47 HI.out.1 HI.out.2.1 HI.out.2.2.1 HI.out.2.2.2 rfl (by omega) (.slice ps j cs) j _ (by rfl) ((row_below (row_below HXS.out (Below.refl _ _).drew) hb6).alloc _) ⟨w6.heap.size,0,none⟩ 1 1 [.bool od, .int .i64 ob.k, .int .i64 ob.a.1, .int .i64 ob.a.2, .int .i64 ob.b.1, .int .i64 ob.b.2, .int .i64 ob.c.1, .int .i64 ob.c.2, .int .i64 ob.r, .slice q6 nl e6, .slice none 0 0] (by rfl) (by rfl) (World.news_of_block (cs:= #[.bool od, .int .i64 ob.k, .int .i64 ob.a.1, .int .i64 ob.a.2, .int .i64 ob.b.1, .int .i64 ob.b.2, .int .i64 ob.c.1, .int .i64 ob.c.2, .int .i64 ob.r, .slice q6 nl e6, .slice none 0 0]) (t:=tOb) (fr:=(0,0)) (heap_alloc_new w6 _)) (by simp [Value.oneCell']) (by omega) (by unfold maxLen;omega) (by omega) (by simp;omega) (w6.heap.size+1) (by simp) ?_;intro gg cap2 w7 hown hgrow hat hltt)
   |(rw [if_pos (by rfl)];go_simp;go_at_call 53;with_reducible refine (hcC.out _ HBd.out).mono ?_;rintro e w6 ⟨q6,e6,rfl,he6,hc6,hb6⟩;have hs6:=hb6.size;rw [hdsz] at hs6;have k0:=cell_keep hb6 y0;have k1:=cell_keep hb6 y1;have k2:=cell_keep hb6 y2;have k3:=cell_keep hb6 y3;have k4:=cell_keep hb6 y4;have k5:=cell_keep hb6 y5;have k6:=cell_keep hb6 y6;have k7:=cell_keep hb6 y7;have k8:=cell_keep hb6 y8;have k9:=cell_keep hb6 y9;have k10:=cell_keep hb6 y10))
  all_goals
   have hxy:Below W5.drew.heap.size W5.drew w6:=hb6
   have HYN:=Lib.hid (LsM.push (d:=od) (b:=ob) (q:=q6) (e:=e6) (g:=gg) (n':=j+1) (c':=cap2) (V:= [.bool od, .int .i64 ob.k, .int .i64 ob.a.1, .int .i64 ob.a.2, .int .i64 ob.b.1, .int .i64 ob.b.2, .int .i64 ob.c.1, .int .i64 ob.c.2, .int .i64 ob.r, .slice q6 nl e6, .slice none 0 0]) (HY5.out.below (Below.refl _ _).drew) hxy (bel_alloc w6 (.cells #[.bool od, .int .i64 ob.k, .int .i64 ob.a.1, .int .i64 ob.a.2, .int .i64 ob.b.1, .int .i64 ob.b.2, .int .i64 ob.c.1, .int .i64 ob.c.2, .int .i64 ob.r, .slice q6 nl e6, .slice none 0 0] tOb)) hc6 (by rw [HNL.out];exact he6) hgrow (by rw [HNL.out]) (fun ys h=>own_uniq (w:=W5.drew) (HXS.out.drew) (by rw [HLJ.out] at h;exact h)) (by rw [HLJ.out];exact hown) rfl (hat.imp id (fun h=>by rw [h];exact Nat.le_succ _)))
   rw [←HTK.out] at HYN
   clear hown hgrow hat hltt hxy hs6 k0 k1 k2 k3 k4 k5 k6 k7 k8 k9 k10 d0 d1 d2 d3 d4 d5 d6 d7 d8 d9 d10 y0 y1 y2 y3 y4 y5 y6 y7 y8 y9 y10 hDlt hsz5 hdsz
   go_wp2_with fail
   go_round <;> first | exact ⟨j+1,_,_,rfl,by omega,rfl,by go_num,HYN.out⟩|(simp [intOf] <;> omega)
 ·have hje:j=n:=by omega
  subst hje
  have hT:l.take j=l:=by rw [HN.out];exact List.take_length
  have hfin:=HY.out
  rw [hT] at hfin
  obtain ⟨q,d,hsv,hob⟩:=ObsIn.own (R:=fun k=>w.heap.size≤k) hfin (by have:=HN.out;show _≤1000000000;omega) (fun k h=>h)
  have HOB:=Lib.hid hob
  have HBW:Hid (Below w.heap.size w wy):=by obtain ⟨_,_,_,_,_,_,h⟩:=HY.out;exact h
  rw [←HN.out] at hsv
  subst hsv
  clear hT hfin hob
  go_wp2_with fail
  go_loopw [5,34] (fun rv i wr=>rv= .slice q j d∧i= .int .i64 0∧wr=wy) (fun _ _ _=>0)
  case atStart=>exact ⟨rfl,rfl,rfl⟩
  case round=>
  obtain ⟨rfl,rfl,rfl⟩:=hrel
  go_wp2_with fail
  go_ret
  exact ⟨_,_,rfl,HOB.out,HBW.out⟩
end Go.Proofs.YtfldplmgkeiimaaGreatDoor.VW
