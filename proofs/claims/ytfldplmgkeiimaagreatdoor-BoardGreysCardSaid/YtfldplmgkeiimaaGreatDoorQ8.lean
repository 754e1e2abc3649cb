/-
  Several texts of this proof in one: Qi, Qj.
-/
import Derived.Test.YtfldplmgkeiimaaGreatDoorQ7
import Derived.Laws.AppendOwn
import Derived.Deep.AppendLies
import Derived.Deep.RegionLaw
import Derived.OwnWalk
set_option linter.unusedVariables false
set_option linter.unusedSimpArgs false
namespace Go.Proofs.YtfldplmgkeiimaaGreatDoor.VW
open Go.RowKit Go.Proofs.YtfldplmgkeiimaaGreatDoor.Vp
abbrev tOb:TypeId:=77
def obP:List Ob→Ps
 | []=> .nil
 | o :: l=> .cons o.1 o.2.b o.2.p (obP l)
theorem obP_len:∀l:List Ob,(obP l).len=l.length
 | []=>rfl
 | _ :: l=>by simp only [obP,Ps.len,obP_len l,List.length_cons]
theorem obP_append:∀l m:List Ob,obP (l++m)=(obP l).append (obP m)
 | [],_=>rfl
 | _ :: l,m=>by simp only [List.cons_append,obP,Ps.append,obP_append l m]
def ObsIn (S:Nat→Prop) (w:World) (p:Option Addr) (l:List Ob):Prop:=l.length≤big∧(0 < l.length→∃(k o:Nat) (cs:Array Value),p=some ⟨k,o,none⟩∧S k∧w.heap[k]?=some (.cells cs tOb)∧PartsAt S w (obP l) (cs.toList.drop o))
theorem ObsIn.nil (S:Nat→Prop) (w:World) (p:Option Addr):ObsIn S w p []:=⟨Nat.zero_le _,fun h=>absurd h (Nat.lt_irrefl _)⟩
theorem ObsIn.keep {S:Nat→Prop} {w w':World} {p:Option Addr} {l:List Ob} (h:ObsIn S w p l) (hk:Keep S w w'):ObsIn S w' p l:=by
 refine ⟨h.1,fun hl=>?_⟩
 obtain ⟨k,o,cs,e,hS,hh,hp⟩:=h.2 hl
 exact ⟨k,o,cs,e,hS,hk.get hS hh,PartsAt.keep hk hp⟩
theorem ObsIn.below {S:Nat→Prop} {w w':World} {p:Option Addr} {l:List Ob} (h:ObsIn S w p l) (hb:Below w.heap.size w w'):ObsIn S w' p l:=h.keep (.of_below hb)
theorem ObsIn.mono {S R:Nat→Prop} {w:World} {p:Option Addr} {l:List Ob} (h:ObsIn S w p l) (hk:∀k,k < w.heap.size→S k→R k):ObsIn R w p l:=by
 refine ⟨h.1,fun hl=>?_⟩
 obtain ⟨k,o,cs,e,hS,hh,hp⟩:=h.2 hl
 exact ⟨k,o,cs,e,hk _ (lt_of_heap hh) hS,hh,PartsAt.mono hk hp⟩
theorem ObsIn.at {S:Nat→Prop} {w:World} {p:Option Addr} {l:List Ob} {a:Bool} {b:Bs} {s:Ps} {n:Nat} (h:ObsIn S w p l) (hn:n < l.length) (he:l[n]=(a,⟨b,s⟩)):
  ∃(k o:Nat) (pl:Option Addr) (cl:Nat) (pp:Option Addr) (cp:Nat),p=some ⟨k,o,none⟩∧k < w.heap.size∧S k∧ShIn S w pl cl pp cp ⟨b,s⟩∧
   w.cell? ⟨k,o+n *11,none⟩=some (.bool a)∧w.cell? ⟨k,o+n *11+1,none⟩=some (.int .i64 b.k)∧w.cell? ⟨k,o+n *11+2,none⟩=some (.int .i64 b.a.1)∧w.cell? ⟨k,o+n *11+3,none⟩=some (.int .i64 b.a.2)∧w.cell? ⟨k,o+n *11+4,none⟩=some (.int .i64 b.b.1)∧w.cell? ⟨k,o+n *11+5,none⟩=some (.int .i64 b.b.2)∧w.cell? ⟨k,o+n *11+6,none⟩=some (.int .i64 b.c.1)∧w.cell? ⟨k,o+n *11+7,none⟩=some (.int .i64 b.c.2)∧w.cell? ⟨k,o+n *11+8,none⟩=some (.int .i64 b.r)∧w.cell? ⟨k,o+n *11+9,none⟩=some (.slice pl b.l.length cl)∧w.cell? ⟨k,o+n *11+10,none⟩=some (.slice pp s.len cp):=by
 obtain ⟨k,o,cs,rfl,hS,hh,hp⟩:=h.2 (by omega)
 have e1:l=l.take n++(a,⟨b,s⟩):: l.drop (n+1):=by
  conv=>lhs;rw [←List.take_append_drop n l,List.drop_eq_getElem_cons hn,he]
 rw [e1,obP_append] at hp
 have h2:=hp.drop
 rw [List.drop_drop,obP_len,List.length_take,Nat.min_eq_left (by omega)] at h2
 obtain ⟨pl,cl,pp,cp,h3,hs⟩:=PartsAt.head (show PartsAt S w (.cons a b s (obP (l.drop (n+1)))) _ from h2)
 obtain ⟨c0,c1,c2,c3,c4,c5,c6,c7,c8,c9,c10⟩:=cells11 h3
 refine ⟨k,o,pl,cl,pp,cp,rfl,lt_of_heap hh,hS,hs,?_,?_,?_,?_,?_,?_,?_,?_,?_,?_,?_⟩<;> simp only [World.cell?, *] <;> rfl
theorem ob_at {w:World} {k:Nat} {v0 v1 v2 v3 v4 v5 v6 v7 v8 v9 v10:Value} {t:TypeId} (h:w.heap[k]?=some (.cells #[v0,v1,v2,v3,v4,v5,v6,v7,v8,v9,v10] t)):
  w.cell? ⟨k,0,none⟩=some v0∧w.cell? ⟨k,1,none⟩=some v1∧w.cell? ⟨k,2,none⟩=some v2∧w.cell? ⟨k,3,none⟩=some v3∧w.cell? ⟨k,4,none⟩=some v4∧w.cell? ⟨k,5,none⟩=some v5∧w.cell? ⟨k,6,none⟩=some v6∧w.cell? ⟨k,7,none⟩=some v7∧w.cell? ⟨k,8,none⟩=some v8∧w.cell? ⟨k,9,none⟩=some v9∧w.cell? ⟨k,10,none⟩=some v10:=by
 refine ⟨?_,?_,?_,?_,?_,?_,?_,?_,?_,?_,?_⟩<;> simp [World.cell?,h]
theorem ok_true {s:Shp} {k:Int} {x:Bx} (h:okV s=true) (hk:classV x s=k):clsS x s=k:=by rw [←hk];unfold classV;rw [if_pos h]
set_option maxHeartbeats 3200000 in
theorem Class_c (S:Nat→Prop) (x:Bx) (hx:BxOk x) (b:Bs) (s:Ps) (hn:Nice ⟨b,s⟩) (pl:Option Addr) (cl:Nat) (pp:Option Addr) (cp:Nat) (w:World) (hsh:Hid (ShIn S w pl cl pp cp ⟨b,s⟩)) (k:Int) (hk:Hid (classV x ⟨b,s⟩=k)):
  Calls Tryz.prog 174 #[shV b (.slice pl b.l.length cl) (.slice pp s.len cp),bxV x] w fun e w'=>e= .returned (.int .i64 k)∧Below w.heap.size w w':=by
 obtain ⟨v,hv⟩:∃v,okV ⟨b,s⟩=v:=⟨_,rfl⟩
 have HV:=Lib.hid hv
 have HNi:=Lib.hid hn
 have HX:=Lib.hid hx
 have hb:shV b (.slice pl b.l.length cl) (.slice pp s.len cp)= .agg #[.int .i64 b.k, .int .i64 b.a.1, .int .i64 b.a.2, .int .i64 b.b.1, .int .i64 b.b.2, .int .i64 b.c.1, .int .i64 b.c.2, .int .i64 b.r, .slice pl b.l.length cl, .slice pp s.len cp]:=rfl
 obtain ⟨x0,y0,x1,y1⟩:=x
 obtain ⟨n,hnn⟩:∃n,b.l.length=n:=⟨_,rfl⟩
 obtain ⟨m,hm⟩:∃m,s.len=m:=⟨_,rfl⟩
 have HN:=Lib.hid hnn
 have HM:=Lib.hid hm
 clear hv hn hx hb
 obtain ⟨kk,⟨ax,ay⟩,⟨bx,bz⟩,⟨cx,cy⟩,r,l⟩:=b
 show Calls _ _ #[.agg #[.int .i64 kk, .int .i64 ax, .int .i64 ay, .int .i64 bx, .int .i64 bz, .int .i64 cx, .int .i64 cy, .int .i64 r, .slice pl l.length cl, .slice pp s.len cp],bxV ⟨x0,y0,x1,y1⟩] w _
 simp only at hnn
 rw [hnn,hm]
 clear hnn hm
 go_enter Tryz.func174,Tryz.ntmps174
 go_upto_region 1 with fail
 obtain ⟨W,hW⟩:∃W,(w.alloc (.cells #[.int .i64 kk, .int .i64 ax, .int .i64 ay, .int .i64 bx, .int .i64 bz, .int .i64 cx, .int .i64 cy, .int .i64 r, .slice pl n cl, .slice pp m cp] tSh)).alloc (bxO ⟨x0,y0,x1,y1⟩)=W:=⟨_,rfl⟩
 have HB:Hid (Below w.heap.size w W):=by show Below _ _ _;rw [←hW];exact bel2 _ _ _
 have HA:Hid (W.heap[w.heap.size]?=some (.cells #[.int .i64 kk, .int .i64 ax, .int .i64 ay, .int .i64 bx, .int .i64 bz, .int .i64 cx, .int .i64 cy, .int .i64 r, .slice pl n cl, .slice pp m cp] tSh)):=by show _=_;rw [←hW];exact one_below (alloc_new _ _) (bel_alloc _ _)
 have HP:Hid (W.heap[w.heap.size+1]?=some (bxO ⟨x0,y0,x1,y1⟩)):=by show _=_;rw [←hW];exact second_new _ _ _
 rw [hW]
 clear hW
 obtain ⟨g0,g1,g2,g3,g4,g5,g6,g7,g8,g9⟩:=sh_at HA.out
 go_wp2_with fail
 have hcall:=ok_c S ⟨kk,(ax,ay),(bx,bz),(cx,cy),r,l⟩ s pl cl pp cp W (Lib.hid (hsh.out.below HB.out)) v HV
 rw [show (⟨kk,(ax,ay),(bx,bz),(cx,cy),r,l⟩:Bs).l.length=n from HN.out,HM.out] at hcall
 with_reducible refine hcall.mono ?_
 clear hcall
 rintro e V ⟨rfl,hb⟩
 have HB1:Hid (Below w.heap.size w V):=HB.out.trans (hb.mono HB.out.size)
 have HA1:=Lib.hid (one_below HA.out hb)
 have HP1:=Lib.hid (one_below HP.out hb)
 clear g0 g1 g2 g3 g4 g5 g6 g7 g8 g9 hb
 cases v with
 | false=>
  have HF:Hid ((0:Int)=k):=by show _=_;rw [←hk.out];unfold classV;rw [HV.out];rfl
  go_wp2_with fail
  go_ret
  exact ⟨ret_i HF.out,HB1.out⟩
 | true=>
  obtain ⟨g0,g1,g2,g3,g4,g5,g6,g7,g8,g9⟩:=sh_at HA1.out
  obtain ⟨a0,a1,a2,a3⟩:=bx_at HP1.out
  go_wp2_with fail
  have hcall:=class_c S ⟨x0,y0,x1,y1⟩ HX.out ⟨kk,(ax,ay),(bx,bz),(cx,cy),r,l⟩ s HNi.out HV.out pl cl pp cp V (Lib.hid (hsh.out.below HB1.out)) k (Lib.hid (ok_true HV.out hk.out))
  rw [show (⟨kk,(ax,ay),(bx,bz),(cx,cy),r,l⟩:Bs).l.length=n from HN.out,HM.out] at hcall
  with_reducible refine hcall.mono ?_
  clear hcall
  rintro e V2 ⟨rfl,hb⟩
  have HB2:Hid (Below w.heap.size w V2):=HB1.out.trans (hb.mono HB1.out.size)
  clear hb g0 g1 g2 g3 g4 g5 g6 g7 g8 g9 a0 a1 a2 a3
  go_wp2_with fail
  go_ret
  exact ⟨rfl,HB2.out⟩
set_option maxRecDepth 100000 in
set_option maxHeartbeats 6400000 in
theorem bounds1_c (ax ay r:Int) (ha:near30 (ax,ay)) (hr:1≤r∧r≤536870912) (bx bz cx cy:Int) (pl:Option Addr) (n cl:Nat) (pp:Option Addr) (m cp:Nat) (w:World) (o:Bx) (ho:Hid (aroundV (ax,ay) (ax,ay) r=o)):
  Calls Tryz.prog 170 #[.agg #[.int .i64 1, .int .i64 ax, .int .i64 ay, .int .i64 bx, .int .i64 bz, .int .i64 cx, .int .i64 cy, .int .i64 r, .slice pl n cl, .slice pp m cp]] w fun e w'=>e= .returned (.tuple #[bxV o, .bool true])∧Below w.heap.size w w':=by
 have HA:=Lib.hid ha
 have HR:Hid (0≤r∧r≤4611686018427387904):=by show _∧_;omega
 clear ha hr
 go_enter Tryz.func170,Tryz.ntmps170
 go_upto_region 1 with fail
 obtain ⟨W,hW⟩:∃W,(w.alloc (.cells #[.int .i64 1, .int .i64 ax, .int .i64 ay, .int .i64 bx, .int .i64 bz, .int .i64 cx, .int .i64 cy, .int .i64 r, .slice pl n cl, .slice pp m cp] tSh)).alloc (bxO bx0)=W:=⟨_,rfl⟩
 have HB:Hid (Below w.heap.size w W):=by show Below _ _ _;rw [←hW];exact bel2 _ _ _
 have HS:Hid (W.heap[w.heap.size]?=some (.cells #[.int .i64 1, .int .i64 ax, .int .i64 ay, .int .i64 bx, .int .i64 bz, .int .i64 cx, .int .i64 cy, .int .i64 r, .slice pl n cl, .slice pp m cp] tSh)):=by show _=_;rw [←hW];exact one_below (alloc_new _ _) (bel_alloc _ _)
 have HP:Hid (W.heap[w.heap.size+1]?=some (bxO bx0)):=by show _=_;rw [←hW];exact second_new _ _ _
 change Code.wp _ _ _ _ ((w.alloc (.cells #[.int .i64 1, .int .i64 ax, .int .i64 ay, .int .i64 bx, .int .i64 bz, .int .i64 cx, .int .i64 cy, .int .i64 r, .slice pl n cl, .slice pp m cp] tSh)).alloc (bxO bx0))
 rw [hW]
 clear hW
 obtain ⟨g0,g1,g2,g3,g4,g5,g6,g7,g8,g9⟩:=sh_at HS.out
 go_wp2_with fail
 with_reducible refine (around_c (ax,ay) (ax,ay) r HA.out HA.out HR.out o ho _).mono ?_
 rintro e V ⟨rfl,hb⟩
 have HB1:Hid (Below w.heap.size w V):=HB.out.trans (hb.mono HB.out.size)
 have HP1:=Lib.hid (one_below HP.out hb)
 clear g0 g1 g2 g3 g4 g5 g6 g7 g8 g9 hb
 obtain ⟨a0,a1,a2,a3⟩:=bx_at (show V.heap[w.heap.size+1]?=some (bxO ⟨0,0,0,0⟩) from HP1.out)
 have fr:=cells_f0 HP1.out
 go_wp2_with fail
 have hrr:=putW_all [.int .i64 o.x0, .int .i64 o.y0, .int .i64 o.x1, .int .i64 o.y1] HP1.out rfl
 have hb:=putW_below (m:=0) (b:=w.heap.size+1) (Nat.le_succ _) [.int .i64 o.x0, .int .i64 o.y0, .int .i64 o.x1, .int .i64 o.y1] HB1.out
 exact bodyPost_ret (results_cell_tmp_row rfl _ _ (w.heap.size+1) _ _ _ _ rfl hrr Tryz.underlying198 rfl (by kernel_rfl)) rfl ⟨rfl,hb⟩
theorem bounds_c (S:Nat→Prop) (b:Bs) (s:Ps) (hn:Nice ⟨b,s⟩) (hok:okV ⟨b,s⟩=true) (pl:Option Addr) (cl:Nat) (pp:Option Addr) (cp:Nat) (w:World) (hsh:Hid (ShIn S w pl cl pp cp ⟨b,s⟩)) (o:Option Bx) (ho:Hid (boundsB b (boundsP s)=o)):
  Calls Tryz.prog 170 #[shV b (.slice pl b.l.length cl) (.slice pp s.len cp)] w fun e w'=>e= .returned (.tuple #[bxV (o.getD bx0), .bool o.isSome])∧Below w.heap.size w w':=by
 have hsv:=nice_ok hok (by rcases hn.2 with h | h <;>(simp only at h⊢;omega))
 obtain ⟨hp,hk12⟩:=hn
 obtain ⟨kk,⟨ax,ay⟩,⟨bx,bz⟩,⟨cx,cy⟩,r,l⟩:=b
 simp only at hp hk12 hsv
 subst hp
 have hl:=ho.out
 rcases hk12 with rfl | rfl
 ·have h3:farV (ax,ay)=true∧radV r=true:=by simpa [simpleV] using hsv
  have hr:1≤r∧r≤536870912:=by have:=h3.2;simp [radV] at this;exact this
  have e:o=some (aroundV (ax,ay) (ax,ay) r):=by rw [←hl];rfl
  subst e
  exact bounds1_c ax ay r (near_of h3.1) hr bx bz cx cy pl l.length cl pp 0 cp w _ (Lib.hid rfl)
 ·have h3:contV l=true:=by simpa [simpleV] using hsv
  have hc:∀c∈l,∀q∈c,near30 q:=by
   intro c hc q hq
   unfold contV at h3
   simp only [Bool.and_eq_true,List.all_eq_true] at h3
   exact near_of (h3.2 c hc q hq)
  exact bounds2_c S ax ay bx bz cx cy r l pl cl pp cp w hc (Lib.hid hsh.out.l) o (Lib.hid hl)
set_option maxHeartbeats 3200000 in
theorem Bounds_c (S:Nat→Prop) (b:Bs) (s:Ps) (hn:Nice ⟨b,s⟩) (pl:Option Addr) (cl:Nat) (pp:Option Addr) (cp:Nat) (w:World) (hsh:Hid (ShIn S w pl cl pp cp ⟨b,s⟩)) (o:Option Bx) (ho:Hid (boundsS ⟨b,s⟩=o)):
  Calls Tryz.prog 122 #[shV b (.slice pl b.l.length cl) (.slice pp s.len cp)] w fun e w'=>e= .returned (.tuple #[bxV (o.getD bx0), .bool o.isSome])∧Below w.heap.size w w':=by
 obtain ⟨v,hv⟩:∃v,okV ⟨b,s⟩=v:=⟨_,rfl⟩
 have HV:=Lib.hid hv
 have HNi:=Lib.hid hn
 have ho2:=ho.out
 unfold boundsS at ho2
 rw [hv] at ho2
 have HO:=Lib.hid ho2
 obtain ⟨n,hnn⟩:∃n,b.l.length=n:=⟨_,rfl⟩
 obtain ⟨m,hm⟩:∃m,s.len=m:=⟨_,rfl⟩
 have HN:=Lib.hid hnn
 have HM:=Lib.hid hm
 clear hv hn ho ho2
 obtain ⟨kk,⟨ax,ay⟩,⟨bx,bz⟩,⟨cx,cy⟩,r,l⟩:=b
 show Calls _ _ #[.agg #[.int .i64 kk, .int .i64 ax, .int .i64 ay, .int .i64 bx, .int .i64 bz, .int .i64 cx, .int .i64 cy, .int .i64 r, .slice pl l.length cl, .slice pp s.len cp]] w _
 simp only at hnn
 rw [hnn,hm]
 clear hnn hm
 go_enter Tryz.func122,Tryz.ntmps122
 go_upto_region 1 with fail
 obtain ⟨W,hW⟩:∃W,(w.alloc (.cells #[.int .i64 kk, .int .i64 ax, .int .i64 ay, .int .i64 bx, .int .i64 bz, .int .i64 cx, .int .i64 cy, .int .i64 r, .slice pl n cl, .slice pp m cp] tSh)).alloc (bxO bx0)=W:=⟨_,rfl⟩
 have HB:Hid (Below w.heap.size w W):=by show Below _ _ _;rw [←hW];exact bel2 _ _ _
 have HA:Hid (W.heap[w.heap.size]?=some (.cells #[.int .i64 kk, .int .i64 ax, .int .i64 ay, .int .i64 bx, .int .i64 bz, .int .i64 cx, .int .i64 cy, .int .i64 r, .slice pl n cl, .slice pp m cp] tSh)):=by show _=_;rw [←hW];exact one_below (alloc_new _ _) (bel_alloc _ _)
 have HP:Hid (W.heap[w.heap.size+1]?=some (bxO bx0)):=by show _=_;rw [←hW];exact second_new _ _ _
 change Code.wp _ _ _ _ ((w.alloc (.cells #[.int .i64 kk, .int .i64 ax, .int .i64 ay, .int .i64 bx, .int .i64 bz, .int .i64 cx, .int .i64 cy, .int .i64 r, .slice pl n cl, .slice pp m cp] tSh)).alloc (bxO bx0))
 rw [hW]
 clear hW
 obtain ⟨g0,g1,g2,g3,g4,g5,g6,g7,g8,g9⟩:=sh_at HA.out
 go_wp2_with fail
 have hcall:=ok_c S ⟨kk,(ax,ay),(bx,bz),(cx,cy),r,l⟩ s pl cl pp cp W (Lib.hid (hsh.out.below HB.out)) v HV
 rw [show (⟨kk,(ax,ay),(bx,bz),(cx,cy),r,l⟩:Bs).l.length=n from HN.out,HM.out] at hcall
 with_reducible refine hcall.mono ?_
 clear hcall
 rintro e V ⟨rfl,hb⟩
 have HB1:Hid (Below w.heap.size w V):=HB.out.trans (hb.mono HB.out.size)
 have HA1:=Lib.hid (one_below HA.out hb)
 have HP1:=Lib.hid (one_below HP.out hb)
 clear g0 g1 g2 g3 g4 g5 g6 g7 g8 g9 hb
 obtain ⟨a0,a1,a2,a3⟩:=bx_at (show V.heap[w.heap.size+1]?=some (bxO ⟨0,0,0,0⟩) from HP1.out)
 have fr:=cells_f0 HP1.out
 cases v with
 | false=>
  obtain rfl:none=o:=HO.out
  go_wp2_with fail
  have hrr:=putW_all [.int .i64 0, .int .i64 0, .int .i64 0, .int .i64 0] HP1.out rfl
  have hb:=putW_below (m:=0) (b:=w.heap.size+1) (Nat.le_succ _) [.int .i64 0, .int .i64 0, .int .i64 0, .int .i64 0] HB1.out
  exact bodyPost_ret (results_cell_tmp_row rfl _ _ (w.heap.size+1) _ _ _ _ rfl hrr Tryz.underlying198 rfl (by kernel_rfl)) rfl ⟨rfl,hb⟩
 | true=>
  obtain ⟨g0,g1,g2,g3,g4,g5,g6,g7,g8,g9⟩:=sh_at HA1.out
  go_wp2_with fail
  have hcall:=bounds_c S ⟨kk,(ax,ay),(bx,bz),(cx,cy),r,l⟩ s HNi.out HV.out pl cl pp cp V (Lib.hid (hsh.out.below HB1.out)) o (Lib.hid HO.out)
  rw [show (⟨kk,(ax,ay),(bx,bz),(cx,cy),r,l⟩:Bs).l.length=n from HN.out,HM.out] at hcall
  with_reducible refine hcall.mono ?_
  clear hcall
  rintro e V2 ⟨rfl,hb⟩
  have HB2:Hid (Below w.heap.size w V2):=HB1.out.trans (hb.mono HB1.out.size)
  have HP2:=Lib.hid (one_below HP1.out hb)
  clear hb g0 g1 g2 g3 g4 g5 g6 g7 g8 g9 a0 a1 a2 a3 fr
  obtain ⟨a0,a1,a2,a3⟩:=bx_at (show V2.heap[w.heap.size+1]?=some (bxO ⟨0,0,0,0⟩) from HP2.out)
  have fr:=cells_f0 HP2.out
  go_wp2_with fail
  have hrr:=putW_all [.int .i64 (o.getD bx0).x0, .int .i64 (o.getD bx0).y0, .int .i64 (o.getD bx0).x1, .int .i64 (o.getD bx0).y1] HP2.out rfl
  have hb:=putW_below (m:=0) (b:=w.heap.size+1) (Nat.le_succ _) [.int .i64 (o.getD bx0).x0, .int .i64 (o.getD bx0).y0, .int .i64 (o.getD bx0).x1, .int .i64 (o.getD bx0).y1] HB2.out
  exact bodyPost_ret (results_cell_tmp_row rfl _ _ (w.heap.size+1) _ _ _ _ rfl hrr Tryz.underlying198 rfl (by kernel_rfl)) rfl ⟨rfl,hb⟩
set_option maxRecDepth 100000 in
theorem hasBar_c (b:Bs) (s:Ps) (hn:Nice ⟨b,s⟩) (pl:Option Addr) (cl:Nat) (pp:Option Addr) (cp:Nat) (w:World):
  Calls Tryz.prog 123 #[shV b (.slice pl b.l.length cl) (.slice pp s.len cp)] w fun e w'=>e= .returned (.bool (hasBarS ⟨b,s⟩))∧Below w.heap.size w w':=by
 obtain ⟨hp,hk12⟩:=hn
 obtain ⟨kk,⟨ax,ay⟩,⟨bx,bz⟩,⟨cx,cy⟩,r,l⟩:=b
 simp only at hp hk12
 subst hp
 have h4:¬kk=4:=by omega
 have HF:Hid (false=hasBarS ⟨⟨kk,(ax,ay),(bx,bz),(cx,cy),r,l⟩, .nil⟩):=by show _=_;simp [hasBarS,hasBarP,h4]
 generalize l.length=n
 show Calls _ _ #[.agg #[.int .i64 kk, .int .i64 ax, .int .i64 ay, .int .i64 bx, .int .i64 bz, .int .i64 cx, .int .i64 cy, .int .i64 r, .slice pl n cl, .slice pp 0 cp]] w _
 clear hk12
 go_enter Tryz.func123,Tryz.ntmps123
 go_wp2_with fail
 go_loopw [11] (fun i wr=>i= .int .i64 0∧Hid (Below w.heap.size w wr)) (fun _ _=>0)
 case atStart=>exact ⟨rfl,bel1 _ _⟩
 case round=>
 obtain ⟨rfl,HB⟩:=hrel
 go_wp2_with fail
 go_ret
 exact ⟨ret_b HF.out,HB.out⟩
abbrev PcP (w0:World) (D:Nat) (d:Bool) (k ax ay bx bz cx cy r:Int) (pl:Option Addr) (n cl:Nat) (pp:Option Addr) (m cp:Nat) (g:Nat) (x0 y0 x1 y1:Int) (Z:World):Prop:=
 Z.cell? ⟨D,0,none⟩=some (.bool d)∧Z.cell? ⟨D,1,none⟩=some (.int .i64 k)∧Z.cell? ⟨D,2,none⟩=some (.int .i64 ax)∧Z.cell? ⟨D,3,none⟩=some (.int .i64 ay)∧Z.cell? ⟨D,4,none⟩=some (.int .i64 bx)∧Z.cell? ⟨D,5,none⟩=some (.int .i64 bz)∧Z.cell? ⟨D,6,none⟩=some (.int .i64 cx)∧Z.cell? ⟨D,7,none⟩=some (.int .i64 cy)∧Z.cell? ⟨D,8,none⟩=some (.int .i64 r)∧Z.cell? ⟨D,9,none⟩=some (.slice pl n cl)∧Z.cell? ⟨D,10,none⟩=some (.slice pp m cp)∧Z.cell? ⟨g,0,none⟩=some (.int .i64 x0)∧Z.cell? ⟨g,1,none⟩=some (.int .i64 y0)∧Z.cell? ⟨g,2,none⟩=some (.int .i64 x1)∧Z.cell? ⟨g,3,none⟩=some (.int .i64 y1)∧Below w0.heap.size w0 Z
theorem pc_keep {w0:World} {D:Nat} {d:Bool} {k ax ay bx bz cx cy r:Int} {pl:Option Addr} {n cl:Nat} {pp:Option Addr} {m cp:Nat} {g:Nat} {x0 y0 x1 y1:Int} {v Z:World} (hb:Below v.heap.size v Z) (h:PcP w0 D d k ax ay bx bz cx cy r pl n cl pp m cp g x0 y0 x1 y1 v):PcP w0 D d k ax ay bx bz cx cy r pl n cl pp m cp g x0 y0 x1 y1 Z:=
 ⟨cell_keep hb h.1,cell_keep hb h.2.1,cell_keep hb h.2.2.1,cell_keep hb h.2.2.2.1,cell_keep hb h.2.2.2.2.1,cell_keep hb h.2.2.2.2.2.1,cell_keep hb h.2.2.2.2.2.2.1,cell_keep hb h.2.2.2.2.2.2.2.1,cell_keep hb h.2.2.2.2.2.2.2.2.1,cell_keep hb h.2.2.2.2.2.2.2.2.2.1,cell_keep hb h.2.2.2.2.2.2.2.2.2.2.1,cell_keep hb h.2.2.2.2.2.2.2.2.2.2.2.1,cell_keep hb h.2.2.2.2.2.2.2.2.2.2.2.2.1,cell_keep hb h.2.2.2.2.2.2.2.2.2.2.2.2.2.1,cell_keep hb h.2.2.2.2.2.2.2.2.2.2.2.2.2.2.1,h.2.2.2.2.2.2.2.2.2.2.2.2.2.2.2.trans (hb.mono h.2.2.2.2.2.2.2.2.2.2.2.2.2.2.2.size)⟩
theorem pc_bel {w0:World} {D:Nat} {d:Bool} {k ax ay bx bz cx cy r:Int} {pl:Option Addr} {n cl:Nat} {pp:Option Addr} {m cp:Nat} {g:Nat} {x0 y0 x1 y1:Int} {v:World} (h:PcP w0 D d k ax ay bx bz cx cy r pl n cl pp m cp g x0 y0 x1 y1 v):Below w0.heap.size w0 v:=h.2.2.2.2.2.2.2.2.2.2.2.2.2.2.2
set_option maxRecDepth 100000 in
set_option maxHeartbeats 12800000 in
theorem pileC_c (S:Nat→Prop) (x:Bx) (hx:BxOk x) (p:Option Addr) (l:List Ob) (n c:Nat) (hn:n=l.length) (hl:∀o∈l,Nice o.2) (w:World) (H:Hid (ObsIn S w p l)) (k:Int) (hk:Hid (pileC l x=k)):
  Calls Tryz.prog 126 #[.slice p n c,bxV x] w fun e w'=>e= .returned (.int .i64 k)∧Below w.heap.size w w':=by
 have hbig:n≤1000000000:=by rw [hn];exact H.out.1
 have HN:=Lib.hid hn
 have HL:=Lib.hid hl
 have HX:=Lib.hid hx
 obtain ⟨F,hF⟩:∃F:Int→Ob→Int,(fun k o=>foldV k (classV x o.2) o.1)=F:=⟨_,rfl⟩
 have HF:=Lib.hid hF
 have HC0:Hid ((l.drop 0).foldl F 0=k):=by show _=_;rw [←hF];exact hk.out
 clear hn hl hx hF hk
 obtain ⟨x0,y0,x1,y1⟩:=x
 go_enter Tryz.func126,Tryz.ntmps126
 go_wp2_with fail
 have HW:Hid (Below w.heap.size w (w.alloc (bxO ⟨x0,y0,x1,y1⟩))):=bel1 _ _
 have HA:Hid ((w.alloc (bxO ⟨x0,y0,x1,y1⟩)).heap[w.heap.size]?=some (bxO ⟨x0,y0,x1,y1⟩)):=alloc_new _ _
 generalize w.alloc (bxO ⟨x0,y0,x1,y1⟩)=W at HW HA⊢
 go_loopw [5,10] (fun a i wr=>∃(j:Nat) (acc:Int) (wy:World),wy=wr∧j≤n∧Hid ((l.drop j).foldl F acc=k)∧a= .int .i64 acc∧i= .int .i64 j∧Hid (Below W.heap.size W wy)) (fun _ i _=>n -(intOf i).toNat)
 case atStart=>exact ⟨0,0,_,rfl,Nat.zero_le _,HC0.out,rfl,rfl,Below.refl _ _⟩
 case round=>
 obtain ⟨j,acc,wy,rfl,hj,HJ,rfl,rfl,HB⟩:=hrel
 by_cases hlt:j < n
 ·have hlt2:j < l.length:=by rw [←HN.out];exact hlt
  have hlti:(j:Int)<(n:Int):=by omega
  obtain ⟨⟨d,⟨b,s⟩⟩,hq⟩:∃q,l[j]=q:=⟨_,rfl⟩
  have HNi:=Lib.hid (HL.out (d,⟨b,s⟩) (by rw [←hq];exact List.getElem_mem _))
  obtain ⟨kb,ko,pl,cl,pp,cp,rfl,hkb,_,hsh,c0,c1,c2,c3,c4,c5,c6,c7,c8,c9,c10⟩:=(H.out.below (HW.out.trans (HB.out.mono HW.out.size))).at hlt2 hq
  have HSH:=Lib.hid hsh
  obtain ⟨k1,hk1⟩:∃k1,classV ⟨x0,y0,x1,y1⟩ ⟨b,s⟩=k1:=⟨_,rfl⟩
  obtain ⟨k2,hk2⟩:∃k2,foldV acc k1 d=k2:=⟨_,rfl⟩
  have HK1:=Lib.hid hk1
  have HK2:=Lib.hid hk2
  have HJ2:Hid ((l.drop (j+1)).foldl F k2=k):=by
   show _=_
   rw [←HJ.out,List.drop_eq_getElem_cons hlt2,hq,List.foldl_cons,←HF.out]
   simp only
   rw [hk1,hk2]
  obtain ⟨nn,hnn⟩:∃n,b.l.length=n:=⟨_,rfl⟩
  obtain ⟨mm,hmm⟩:∃m,s.len=m:=⟨_,rfl⟩
  have hcall:Hid (∀Z,Below (wy).heap.size wy Z→Calls Tryz.prog 174 #[.agg #[.int .i64 b.k, .int .i64 b.a.1, .int .i64 b.a.2, .int .i64 b.b.1, .int .i64 b.b.2, .int .i64 b.c.1, .int .i64 b.c.2, .int .i64 b.r, .slice pl nn cl, .slice pp mm cp],bxV ⟨x0,y0,x1,y1⟩] Z fun e w'=>e= .returned (.int .i64 k1)∧Below Z.heap.size Z w'):=by
   intro Z hZ
   rw [←hnn,←hmm]
   exact Class_c S ⟨x0,y0,x1,y1⟩ HX.out b s HNi.out pl cl pp cp Z (Lib.hid (HSH.out.below hZ)) k1 HK1
  rw [hnn] at c9
  rw [hmm] at c10
  clear hsh hq hk1 hk2 hnn hmm
  obtain ⟨a0,a1,a2,a3⟩:=bx_at (one_below HA.out HB.out)
  have n1:=lt_of_heap (one_below HA.out HB.out)
  go_upto_region 5 with fail
  have HSD:Hid (PcP wy wy.heap.size d b.k b.a.1 b.a.2 b.b.1 b.b.2 b.c.1 b.c.2 b.r pl nn cl pp mm cp w.heap.size x0 y0 x1 y1 (wy.alloc (.cells #[.bool d, .int .i64 b.k, .int .i64 b.a.1, .int .i64 b.a.2, .int .i64 b.b.1, .int .i64 b.b.2, .int .i64 b.c.1, .int .i64 b.c.2, .int .i64 b.r, .slice pl nn cl, .slice pp mm cp] tOb))):=by
   obtain ⟨e0,e1,e2,e3,e4,e5,e6,e7,e8,e9,e10⟩:=ob_at (alloc_new wy (.cells #[.bool d, .int .i64 b.k, .int .i64 b.a.1, .int .i64 b.a.2, .int .i64 b.b.1, .int .i64 b.b.2, .int .i64 b.c.1, .int .i64 b.c.2, .int .i64 b.r, .slice pl nn cl, .slice pp mm cp] tOb))
   have hb:=bel_alloc wy (.cells #[.bool d, .int .i64 b.k, .int .i64 b.a.1, .int .i64 b.a.2, .int .i64 b.b.1, .int .i64 b.b.2, .int .i64 b.c.1, .int .i64 b.c.2, .int .i64 b.r, .slice pl nn cl, .slice pp mm cp] tOb)
   exact ⟨e0,e1,e2,e3,e4,e5,e6,e7,e8,e9,e10,cell_keep hb a0,cell_keep hb a1,cell_keep hb a2,cell_keep hb a3,hb⟩
  generalize wy.alloc (.cells #[.bool d, .int .i64 b.k, .int .i64 b.a.1, .int .i64 b.a.2, .int .i64 b.b.1, .int .i64 b.b.2, .int .i64 b.c.1, .int .i64 b.c.2, .int .i64 b.r, .slice pl nn cl, .slice pp mm cp] tOb)=W2 at HSD⊢
  have HSD2:=Lib.hid (pc_keep (Below.refl _ _).drew HSD.out)
  clear a0 a1 a2 a3 c0 c1 c2 c3 c4 c5 c6 c7 c8 c9 c10
  go_region_held3 (fun Z=>PcP wy wy.heap.size d b.k b.a.1 b.a.2 b.b.1 b.b.2 b.c.1 b.c.2 b.r pl nn cl pp mm cp w.heap.size x0 y0 x1 y1 Z) (first | with_reducible exact HSD.out | with_reducible exact HSD2.out | with_reducible exact pc_keep (by assumption) (by assumption)| assumption | fail) (first |(go_at_call 174;with_reducible refine (hcall.out _ (pc_bel (by assumption))).mono ?_;rintro e w5 ⟨rfl,hb5⟩)|(go_at_call 173;with_reducible refine (fold_c acc k1 d k2 HK2 _).mono ?_;rintro e w5 ⟨rfl,rfl⟩)| fail)
  rename_i hHeld
  have HZ:Hid (Below W.heap.size W w5):=HB.out.trans ((pc_bel hHeld).mono HB.out.size)
  clear hHeld HSD HSD2
  go_wp2_with fail
  go_round <;> first | exact ⟨j+1,k2,_,rfl,by omega,HJ2.out,rfl,by go_num,HZ.out⟩|(simp [intOf] <;> omega)
 ·have hje:j=n:=by omega
  have HT:Hid (acc=k):=by
   show _=_
   rw [←HJ.out,List.drop_eq_nil_of_le (by rw [←HN.out];omega)]
   rfl
  subst hje
  go_wp2_with fail
  go_ret
  exact ⟨ret_i HT.out,HW.out.trans (HB.out.mono HW.out.size)⟩
end Go.Proofs.YtfldplmgkeiimaaGreatDoor.VW
namespace Go.Proofs.YtfldplmgkeiimaaGreatDoor.VW
open Go.RowKit Go.Proofs.YtfldplmgkeiimaaGreatDoor.Vp
abbrev tExt:TypeId:=248
abbrev tGrp:TypeId:=201
theorem row_below {w w':World} {B:Nat} {e:TypeId} {sz n:Nat} {v:Value} {xs:List Value} (h:w.ownsRow B e sz v n xs) (hb:Below w.heap.size w w'):w'.ownsRow B e sz v n xs:=
 h.kept (row:=none) ⟨hb.os,hb.tape,hb.output,hb.size,fun k hk _=>hb.block k hk⟩ (by cases v.ownBlock <;> simp)
theorem own_ne {w:World} {B:Nat} {e t:TypeId} {sz n:Nat} {v:Value} {xs:List Value} (h:w.ownsRow B e sz v n xs) {b:Nat} {cs:Array Value} {fz:Nat × Nat} (hb:w.heap[b]?=some (.cells cs t fz)) (he:e≠t):v.ownBlock≠some b:=by
 rcases h.2 with ⟨rfl,_⟩|⟨g,cap,cur,rfl,_,hh,_⟩
 ·simp [Value.ownBlock]
 ·intro h2
  have:g=b:=by simpa [Value.ownBlock] using h2
  subst this
  rw [hb] at hh
  injection hh with hh
  injection hh with _ ht
  exact he ht.symm
theorem own_ne2 {w:World} {B C:Nat} {e f:TypeId} {s1 s2 n m:Nat} {v u:Value} {xs ys:List Value} (h:w.ownsRow B e s1 v n xs) (g:w.ownsRow C f s2 u m ys) (he:e≠f):u.ownBlock=none∨u.ownBlock≠v.ownBlock:=by
 rcases g.2 with ⟨rfl,_⟩|⟨k,cap,cur,rfl,_,hh,_⟩
 ·exact .inl rfl
 ·exact .inr (Ne.symm (own_ne h hh he))
theorem row_form {w:World} {B:Nat} {e:TypeId} {sz n:Nat} {v:Value} {xs:List Value} (h:w.ownsRow B e sz v n xs):∃p cap,v= .slice p n cap:=by
 rcases h.2 with ⟨rfl,rfl⟩|⟨g,cap,cur,rfl,_⟩
 ·exact ⟨_,_,rfl⟩
 ·exact ⟨_,_,rfl⟩
theorem row_grown {w w':World} {B:Nat} {e:TypeId} {sz n:Nat} {v:Value} {xs:List Value} {row:Option Nat} (h:w.ownsRow B e sz v n xs) (hg:w.grownBy w' row) (hne:v.ownBlock=none∨v.ownBlock≠row):w'.ownsRow B e sz v n xs:=h.kept hg hne
theorem grown_set (w:World) (b i:Nat) (u:Value):w.grownBy (w.setCell ⟨b,i,none⟩ u) (some b):=⟨rfl,rfl,rfl,by simp [World.setCell],fun k hk hne=>Below.heap_setCell _ _ _ _ (by show k≠b;intro e;exact hne (by rw [e]))⟩
abbrev exVs (b:Bx) (a:Bool):List Value:= [.int .i64 b.x0, .int .i64 b.y0, .int .i64 b.x1, .int .i64 b.y1, .bool a]
def exsV (l:List (Bx × Bool)):List Value:=l.flatMap fun e=>exVs e.1 e.2
theorem exsV_len (l:List (Bx × Bool)):(exsV l).length=l.length *5:=by
 induction l with
 | nil=>rfl
 | cons a l ih=>simp only [exsV,List.flatMap_cons,List.length_append,List.length_cons] at ih⊢;rw [ih];simp;omega
theorem exsV_at {l:List (Bx × Bool)} {i:Nat} (hi:i < l.length) {b:Bx} {a:Bool} (he:l[i]=(b,a)):((exsV l).drop (i *5)).take 5=exVs b a:=by
 have e1:l=l.take i++(b,a):: l.drop (i+1):=by
  conv=>lhs;rw [←List.take_append_drop i l,List.drop_eq_getElem_cons hi,he]
 have e2:exsV l=exsV (l.take i)++(exVs b a++exsV (l.drop (i+1))):=by
  conv=>lhs;rw [e1]
  simp only [exsV,List.flatMap_append,List.flatMap_cons]
 rw [e2,List.drop_append_of_le_length (by rw [exsV_len,List.length_take];omega),List.drop_eq_nil_of_le (by rw [exsV_len,List.length_take];omega),List.nil_append,List.take_append_of_le_length (by simp)]
 rfl
def ExtIn (S:Nat→Prop) (w:World) (p:Option Addr) (l:List (Bx × Bool)):Prop:=l.length≤big∧(0 < l.length→∃(k o:Nat) (cs:Array Value),p=some ⟨k,o,none⟩∧S k∧w.heap[k]?=some (.cells cs tExt)∧(cs.toList.drop o).take (l.length *5)=exsV l)
theorem ExtIn.keep {S:Nat→Prop} {w w':World} {p:Option Addr} {l:List (Bx × Bool)} (h:ExtIn S w p l) (hk:Keep S w w'):ExtIn S w' p l:=by
 refine ⟨h.1,fun hl=>?_⟩
 obtain ⟨k,o,cs,e,hS,hh,hp⟩:=h.2 hl
 exact ⟨k,o,cs,e,hS,hk.get hS hh,hp⟩
theorem ExtIn.below {S:Nat→Prop} {w w':World} {p:Option Addr} {l:List (Bx × Bool)} (h:ExtIn S w p l) (hb:Below w.heap.size w w'):ExtIn S w' p l:=h.keep (.of_below hb)
theorem ExtIn.mono {S R:Nat→Prop} {w:World} {p:Option Addr} {l:List (Bx × Bool)} (h:ExtIn S w p l) (hk:∀k,k < w.heap.size→S k→R k):ExtIn R w p l:=by
 refine ⟨h.1,fun hl=>?_⟩
 obtain ⟨k,o,cs,e,hS,hh,hp⟩:=h.2 hl
 exact ⟨k,o,cs,e,hk _ (lt_of_heap hh) hS,hh,hp⟩
theorem ExtIn.at {S:Nat→Prop} {w:World} {p:Option Addr} {l:List (Bx × Bool)} (h:ExtIn S w p l) {i:Nat} (hi:i < l.length) {b:Bx} {a:Bool} (he:l[i]=(b,a)):
  ∃(k o:Nat),p=some ⟨k,o,none⟩∧w.cell? ⟨k,o+i *5,none⟩=some (.int .i64 b.x0)∧w.cell? ⟨k,o+i *5+1,none⟩=some (.int .i64 b.y0)∧w.cell? ⟨k,o+i *5+2,none⟩=some (.int .i64 b.x1)∧w.cell? ⟨k,o+i *5+3,none⟩=some (.int .i64 b.y1)∧w.cell? ⟨k,o+i *5+4,none⟩=some (.bool a):=by
 obtain ⟨k,o,cs,rfl,_,hh,hp⟩:=h.2 (by omega)
 have h1:=exsV_at hi he
 rw [←hp,List.drop_take,List.drop_drop,List.take_take,Nat.min_eq_left (by omega)] at h1
 have key:∀j,j < 5→cs[o+i *5+j]?=(exVs b a)[j]?:=by
  intro j hj
  rw [←h1,List.getElem?_take,if_pos hj,List.getElem?_drop]
  simp
 have k0:=key 0 (by decide)
 have k1:=key 1 (by decide)
 have k2:=key 2 (by decide)
 have k3:=key 3 (by decide)
 have k4:=key 4 (by decide)
 simp only [Nat.add_zero] at k0
 refine ⟨k,o,rfl,?_,?_,?_,?_,?_⟩<;> simp only [World.cell?, *] <;> rfl
structure GrpIn (S:Nat→Prop) (w:World) (p q:Option Addr) (g:List Ex):Prop where
 o:ObsIn S w p (g.map Ex.o)
 e:ExtIn S w q (g.map fun e=>(e.b,e.any))
theorem GrpIn.keep {S:Nat→Prop} {w w':World} {p q:Option Addr} {l:List Ex} (h:GrpIn S w p q l) (hk:Keep S w w'):GrpIn S w' p q l:=⟨h.o.keep hk,h.e.keep hk⟩
theorem GrpIn.below {S:Nat→Prop} {w w':World} {p q:Option Addr} {l:List Ex} (h:GrpIn S w p q l) (hb:Below w.heap.size w w'):GrpIn S w' p q l:=h.keep (.of_below hb)
theorem GrpIn.mono {S R:Nat→Prop} {w:World} {p q:Option Addr} {l:List Ex} (h:GrpIn S w p q l) (hk:∀k,k < w.heap.size→S k→R k):GrpIn R w p q l:=⟨h.o.mono hk,h.e.mono hk⟩
abbrev grCs (p:Option Addr) (n c:Nat) (q:Option Addr) (d:Nat):Array Value:= #[.slice p n c, .slice q n d]
structure NrM (S:Nat→Prop) (w0:World) (R:Nat) (os:List Ob) (es:List (Bx × Bool)) (vo ve:Value) (x:World):Prop where
 r:x.heap[R]?=some (.cells #[vo,ve] tGrp)
 o:∃xs,x.ownsRow (R+1) tOb 11 vo os.length xs∧PartsAt S x (obP os) xs
 e:x.ownsRow (R+1) tExt 5 ve es.length (exsV es)
 bel:Below w0.heap.size w0 x
theorem NrM.below {S:Nat→Prop} {w0:World} {R:Nat} {os:List Ob} {es:List (Bx × Bool)} {vo ve:Value} {x y:World} (h:NrM S w0 R os es vo ve x) (hb:Below x.heap.size x y):NrM S w0 R os es vo ve y:=by
 obtain ⟨xs,h1,h2⟩:=h.o
 exact ⟨one_below h.r hb,⟨xs,row_below h1 hb,h2.below hb⟩,row_below h.e hb,h.bel.trans (hb.mono h.bel.size)⟩
theorem NrM.pushO {S:Nat→Prop} {w0:World} {R:Nat} {os:List Ob} {es:List (Bx × Bool)} {vo ve vo':Value} {x X y:World} {xs:List Value} {d:Bool} {b:Bs} {s:Ps} {pl:Option Addr} {cl:Nat} {pp:Option Addr} {cp:Nat}
  (hr:X.heap[R]?=some (.cells #[vo,ve] tGrp)) (ho:X.ownsRow (R+1) tOb 11 vo os.length xs) (hp:PartsAt S X (obP os) xs) (he:X.ownsRow (R+1) tExt 5 ve es.length (exsV es)) (hbel:Below w0.heap.size w0 X) (hS:∀k,S k→k < R) (hR:w0.heap.size≤R)
  (hg:X.grownBy y vo.ownBlock) (hown:y.ownsRow (R+1) tOb 11 vo' (os.length+1) (xs++ .bool d :: shVs b (.slice pl b.l.length cl) (.slice pp s.len cp))) (hb:ShIn S X pl cl pp cp ⟨b,s⟩):
  NrM S w0 R (os++ [(d,⟨b,s⟩)]) es vo' ve (y.setCell ⟨R,0,none⟩ vo'):=by
 have hk:Keep S X y:=Keep.grown hg (fun k hk hs=>by have:=(ho.lt k hk).1;have:=hS k hs;omega)
 have hnr:some R≠vo.ownBlock:=fun h=>by have:=(ho.lt R h.symm).1;omega
 have hy:y.heap[R]?=some (.cells #[vo,ve] tGrp):=(hg.block R (lt_of_heap hr) hnr).trans hr
 have he2:y.ownsRow (R+1) tExt 5 ve es.length (exsV es):=row_grown he hg (own_ne2 ho he (by decide))
 have hgs:=grown_set y R 0 vo'
 have n1:∀{e:TypeId} {sz n:Nat} {v:Value} {zs:List Value},y.ownsRow (R+1) e sz v n zs→v.ownBlock=none∨v.ownBlock≠some R:=fun h=> .inr (fun e=>by have:=(h.lt R e).1;omega)
 refine ⟨set_at vo' hy,⟨xs++ .bool d :: shVs b (.slice pl b.l.length cl) (.slice pp s.len cp),?_,?_⟩,row_grown he2 hgs (n1 he2),(hbel.grown hg (Nat.le_trans hbel.size (Nat.le_refl _)) (fun k hk=>by have:=(ho.lt k hk).1;omega)).setCell (p:=⟨R,0,none⟩) hR _⟩
 ·rw [List.length_append]
  exact row_grown hown hgs (n1 hown)
 ·rw [obP_append]
  have hk2:Keep S X (y.setCell ⟨R,0,none⟩ vo'):=hk.trans (Keep.set (a:=⟨R,0,none⟩) (fun hs=>Nat.lt_irrefl _ (hS R hs)) vo')
  exact PartsAt.append (hp.keep hk2) (by rw [ho.1,obP_len]) (.mk (by rfl) (hb.keep hk2) trivial)
theorem NrM.pushE {S:Nat→Prop} {w0:World} {R:Nat} {os:List Ob} {es:List (Bx × Bool)} {vo ve ve':Value} {X y:World} {b:Bx} {a:Bool}
  (h:NrM S w0 R os es vo ve X) (hS:∀k,S k→k < R) (hR:w0.heap.size≤R)
  (hg:X.grownBy y ve.ownBlock) (hown:y.ownsRow (R+1) tExt 5 ve' (es.length+1) (exsV es++exVs b a)):
  NrM S w0 R os (es++ [(b,a)]) vo ve' (y.setCell ⟨R,1,none⟩ ve'):=by
 obtain ⟨xs,ho,hp⟩:=h.o
 have hk:Keep S X y:=Keep.grown hg (fun k hk hs=>by have:=(h.e.lt k hk).1;have:=hS k hs;omega)
 have hnr:some R≠ve.ownBlock:=fun e=>by have:=(h.e.lt R e.symm).1;omega
 have hy:y.heap[R]?=some (.cells #[vo,ve] tGrp):=(hg.block R (lt_of_heap h.r) hnr).trans h.r
 have ho2:y.ownsRow (R+1) tOb 11 vo os.length xs:=row_grown ho hg (own_ne2 h.e ho (by decide))
 have hgs:=grown_set y R 1 ve'
 have n1:∀{e:TypeId} {sz n:Nat} {v:Value} {zs:List Value},y.ownsRow (R+1) e sz v n zs→v.ownBlock=none∨v.ownBlock≠some R:=fun h=> .inr (fun e=>by have:=(h.lt R e).1;omega)
 refine ⟨set_at ve' hy,⟨xs,row_grown ho2 hgs (n1 ho2),?_⟩,?_,(h.bel.grown hg (Nat.le_trans h.bel.size (Nat.le_refl _)) (fun k hk=>by have:=(h.e.lt k hk).1;omega)).setCell (p:=⟨R,1,none⟩) hR _⟩
 ·exact (hp.keep hk).keep (Keep.set (a:=⟨R,1,none⟩) (fun hs=>Nat.lt_irrefl _ (hS R hs)) ve')
 ·rw [List.length_append]
  have e:exsV (es++ [(b,a)])=exsV es++exVs b a:=by simp [exsV]
  rw [e]
  exact row_grown hown hgs (n1 hown)
theorem NrM.done {S R':Nat→Prop} {w0:World} {R:Nat} {g:List Ex} {vo ve:Value} {x:World} (h:NrM S w0 R (g.map Ex.o) (g.map fun e=>(e.b,e.any)) vo ve x) (hbig:g.length≤big) (hS:∀k,S k→R' k) (hR:∀k,R+1≤k→R' k):
  ∃p c q d,vo= .slice p g.length c∧ve= .slice q g.length d∧GrpIn R' x p q g:=by
 obtain ⟨xs,ho,hp⟩:=h.o
 obtain ⟨p,c,rfl⟩:=row_form ho
 obtain ⟨q,d,rfl⟩:=row_form h.e
 rw [List.length_map,List.length_map]
 refine ⟨p,c,q,d,rfl,rfl,⟨by rw [List.length_map];exact hbig,fun hl=>?_⟩,⟨by rw [List.length_map];exact hbig,fun hl=>?_⟩⟩
 ·rcases ho.2 with ⟨_,h0⟩|⟨k,cap,cur,hv,hb,hh,_,_,_,ht⟩
  ·omega
  ·injection hv with h1 _ _
   refine ⟨k,0,cur,h1,hR k hb,hh,?_⟩
   refine (hp.mono (fun k _ hs=>hS k hs)).congr ?_
   rw [obP_len,List.drop_zero,←ht,List.take_take,Nat.min_self]
 ·rcases h.e.2 with ⟨_,h0⟩|⟨k,cap,cur,hv,hb,hh,_,_,_,ht⟩
  ·omega
  ·injection hv with h1 _ _
   exact ⟨k,0,cur,h1,hR k hb,hh,by rw [List.drop_zero];exact ht⟩
end Go.Proofs.YtfldplmgkeiimaaGreatDoor.VW
