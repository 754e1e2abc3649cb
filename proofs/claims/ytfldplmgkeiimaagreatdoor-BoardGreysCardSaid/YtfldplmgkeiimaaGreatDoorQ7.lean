/-
  Several texts of this proof in one: Qg, Qh.
-/
import Derived.Test.YtfldplmgkeiimaaGreatDoorQ6
import Derived.Test.YtfldplmgkeiimaaGreatDoorQ2
import Derived.Laws.Cover1
set_option linter.unusedVariables false
set_option linter.unusedSimpArgs false
namespace Go.Proofs.YtfldplmgkeiimaaGreatDoor.VW
open Go.RowKit Go.Proofs.YtfldplmgkeiimaaGreatDoor.Vp
structure BdM (w0:World) (g:Nat) (sh:Array Value) (o:Option Bx) (x:World):Prop where
 sh:x.heap[g]?=some (.cells sh tSh)
 res:x.heap[g+1]?=some (bxO bx0)
 tk:TkM x (g+1+1) (g+1+1+1) o
 bel:Below w0.heap.size w0 x
theorem BdM.below {w0:World} {g:Nat} {sh:Array Value} {o:Option Bx} {x y:World} (h:BdM w0 g sh o x) (hb:Below x.heap.size x y):BdM w0 g sh o y:=
 ⟨one_below h.sh hb,one_below h.res hb,h.tk.below hb,h.bel.trans (hb.mono h.bel.size)⟩
theorem BdM.take {w0:World} {g:Nat} {sh:Array Value} {o o':Option Bx} {x y:World} (h:BdM w0 g sh o x) (hg:g=w0.heap.size) (ht:TkM y (g+1+1) (g+1+1+1) o') (hk:Keep (fun k=>k≠g+1+1∧k≠g+1+1+1) x y):BdM w0 g sh o' y:=
 ⟨hk.get ⟨by omega,by omega⟩ h.sh,hk.get ⟨by omega,by omega⟩ h.res,ht,h.bel.trans (hk.below w0.heap.size h.bel.size (fun k hk=>⟨by omega,by omega⟩))⟩
abbrev ptsB (o:Option Bx) (c:List P2):Option Bx:=c.foldl (fun o p=>takeV o (aroundV p p 0)) o
set_option maxRecDepth 100000 in
set_option maxHeartbeats 12800000 in
theorem bounds2_c (S:Nat→Prop) (ax ay bx bz cx cy r:Int) (l:List (List P2)) (pl:Option Addr) (cl:Nat) (pp:Option Addr) (cp:Nat) (w:World) (hl:∀c∈l,∀q∈c,near30 q) (H:Hid (ConsIn S w pl l)) (o:Option Bx) (ho:Hid (l.foldl ptsB none=o)):
  Calls Tryz.prog 170 #[.agg #[.int .i64 2, .int .i64 ax, .int .i64 ay, .int .i64 bx, .int .i64 bz, .int .i64 cx, .int .i64 cy, .int .i64 r, .slice pl l.length cl, .slice pp 0 cp]] w fun e w'=>e= .returned (.tuple #[bxV (o.getD bx0), .bool o.isSome])∧Below w.heap.size w w':=by
 have HL:=Lib.hid hl
 obtain ⟨n,hn⟩:∃n,l.length=n:=⟨_,rfl⟩
 have hbig:n≤1000000000:=by rw [←hn];exact H.out.1
 have HN:=Lib.hid hn
 rw [hn]
 have HC0:Hid ((l.drop 0).foldl ptsB none=o):=ho.out
 clear hl hn ho
 go_enter Tryz.func170,Tryz.ntmps170
 go_upto_region 13 with fail
 obtain ⟨W,hW⟩:∃W,(((w.alloc (.cells #[.int .i64 2, .int .i64 ax, .int .i64 ay, .int .i64 bx, .int .i64 bz, .int .i64 cx, .int .i64 cy, .int .i64 r, .slice pl n cl, .slice pp 0 cp] tSh)).alloc (bxO bx0)).alloc (bxO bx0)).alloc (boO false)=W:=⟨_,rfl⟩
 have HM:Hid (BdM w w.heap.size #[.int .i64 2, .int .i64 ax, .int .i64 ay, .int .i64 bx, .int .i64 bz, .int .i64 cx, .int .i64 cy, .int .i64 r, .slice pl n cl, .slice pp 0 cp] none W):=by
  obtain ⟨h1,h2,h3,h4,hb⟩:=four_at hW
  exact ⟨h1,h2,⟨h3,h4⟩,hb⟩
 change Code.wp _ _ _ _ ((((w.alloc (.cells #[.int .i64 2, .int .i64 ax, .int .i64 ay, .int .i64 bx, .int .i64 bz, .int .i64 cx, .int .i64 cy, .int .i64 r, .slice pl n cl, .slice pp 0 cp] tSh)).alloc (bxO bx0)).alloc (bxO bx0)).alloc (boO false))
 rw [hW]
 clear hW
 obtain ⟨g0,g1,g2,g3,g4,g5,g6,g7,g8,g9⟩:=sh_at HM.out.sh
 go_wp2_with fail
 go_loopw [74] (fun i wr=>∃(j:Nat) (u:Option Bx) (wy:World),wy=wr∧j≤n∧Hid ((l.drop j).foldl ptsB u=o)∧i= .int .i64 j∧Hid (BdM w w.heap.size #[.int .i64 2, .int .i64 ax, .int .i64 ay, .int .i64 bx, .int .i64 bz, .int .i64 cx, .int .i64 cy, .int .i64 r, .slice pl n cl, .slice pp 0 cp] u wy)) (fun i _=>n -(intOf i).toNat)
 case atStart=>exact ⟨0,none,_,rfl,Nat.zero_le _,HC0.out,rfl,HM.out⟩
 case round=>
 obtain ⟨j,u,wy,rfl,hj,HJ,rfl,HB⟩:=hrel
 clear g0 g1 g2 g3 g4 g5 g6 g7 g8 g9 HM
 by_cases hlt:j < n
 ·have hlt2:j < l.length:=by rw [HN.out];exact hlt
  have hlti:(j:Int)<(n:Int):=by omega
  obtain ⟨q,hq⟩:∃q,l[j]=q:=⟨_,rfl⟩
  obtain ⟨bb,oo,qa,cc,rfl,hcell0,_,hpts⟩:=H.out.at hlt2 hq
  have hcell:=cell_keep HB.out.bel hcell0
  clear hcell0
  have HP:=Lib.hid hpts
  have hrl:q.length≤1000000000:=hpts.1
  have HR:Hid (∀z∈q,near30 z):=by intro z hz;exact HL.out q (by rw [←hq];exact List.getElem_mem _) z hz
  have HJ2:Hid ((l.drop (j+1)).foldl ptsB (q.foldl (fun o p=>takeV o (aroundV p p 0)) u)=o):=by
   show _=_
   rw [←HJ.out,List.drop_eq_getElem_cons hlt2,hq]
   rfl
  obtain ⟨m,hm⟩:∃m,q.length=m:=⟨_,rfl⟩
  have HMl:=Lib.hid hm
  rw [hm] at hcell hrl
  clear hpts hq HJ hm
  go_wp2_with fail
  go_loopw [80] (fun i wx=>∃(k:Nat) (v:Option Bx) (wz:World),wz=wx∧k≤m∧Hid ((q.drop k).foldl (fun o p=>takeV o (aroundV p p 0)) v=q.foldl (fun o p=>takeV o (aroundV p p 0)) u)∧i= .int .i64 k∧Hid (BdM w w.heap.size #[.int .i64 2, .int .i64 ax, .int .i64 ay, .int .i64 bx, .int .i64 bz, .int .i64 cx, .int .i64 cy, .int .i64 r, .slice (some ⟨bb,oo,none⟩) n cl, .slice pp 0 cp] v wz)) (fun i _=>m -(intOf i).toNat)
  case atStart=>exact ⟨0,u,_,rfl,Nat.zero_le _,rfl,rfl,HB.out⟩
  case round=>
  obtain ⟨k,v,wz,rfl,hk,HK,rfl,HZ⟩:=hrel
  by_cases hkl:k < m
  ·have hkl2:k < q.length:=by rw [HMl.out];exact hkl
   have hkli:(k:Int)<(m:Int):=by omega
   obtain ⟨z,hz⟩:∃z,q[k]=z:=⟨_,rfl⟩
   have HNZ:=Lib.hid (HR.out z (by rw [←hz];exact List.getElem_mem _))
   obtain ⟨pb,po,rfl,s0,s1⟩:=(HP.out.below HZ.out.bel).at hkl2 hz
   have HKZ:Hid ((q.drop (k+1)).foldl (fun o p=>takeV o (aroundV p p 0)) (takeV v (aroundV z z 0))=q.foldl (fun o p=>takeV o (aroundV p p 0)) u):=by
    show _=_
    rw [←HK.out,List.drop_eq_getElem_cons hkl2,hz]
    rfl
   clear hz
   obtain ⟨zx,zy⟩:=z
   obtain ⟨ab,hab⟩:∃ab,aroundV (zx,zy) (zx,zy) 0=ab:=⟨_,rfl⟩
   have HAB:=Lib.hid hab
   rw [hab] at HKZ
   clear hab
   go_wp2_with fail
   have HZ1:=Lib.hid (HZ.out.below (bel_alloc wz (ptO (zx,zy))))
   generalize wz.alloc (ptO (zx,zy))=W2 at HZ1⊢
   with_reducible refine (around_c (zx,zy) (zx,zy) 0 HNZ.out HNZ.out ⟨by decide,by decide⟩ ab HAB _).mono ?_
   rintro e W3 ⟨rfl,hb⟩
   have HZ2:=Lib.hid (HZ1.out.below hb)
   clear hb
   go_wp2_with fail
   with_reducible refine (take_c (w.heap.size+1+1) (w.heap.size+1+1+1) (by omega) v ab _ (Lib.hid HZ2.out.tk)).mono ?_
   rintro e W4 ⟨rfl,htk,hkp⟩
   have HZ3:=Lib.hid (HZ2.out.take rfl htk hkp)
   clear htk hkp HZ2 HZ1
   go_wp2_with fail
   go_round <;> first | exact ⟨k+1,_,_,rfl,by omega,HKZ.out,by go_num,HZ3.out⟩|(simp [intOf] <;> omega)
  ·have hkm:k=m:=by omega
   have HQ:Hid ((l.drop (j+1)).foldl ptsB v=o):=by
    show _=_
    have h1:=HK.out
    rw [List.drop_eq_nil_of_le (by have:=HMl.out;omega)] at h1
    rw [←HJ2.out,←h1]
    rfl
   subst hkm
   go_wp2_with fail
   go_round <;> first | exact ⟨j+1,v,_,rfl,by omega,HQ.out,by go_num,HZ.out⟩|(simp [intOf] <;> omega)
 ·have hje:j=n:=by omega
  have HT:u=o:=by
   rw [←HJ.out,List.drop_eq_nil_of_le (by have:=HN.out;omega)]
   rfl
  subst hje HT
  obtain ⟨g0,g1,g2,g3,g4,g5,g6,g7,g8,g9⟩:=sh_at HB.out.sh
  obtain ⟨a0,a1,a2,a3⟩:=bx_at (show wy.heap[w.heap.size+1+1]?=some (bxO ⟨(u.getD bx0).x0,(u.getD bx0).y0,(u.getD bx0).x1,(u.getD bx0).y1⟩) from HB.out.tk.a)
  obtain ⟨f0,f1⟩:=bo_at HB.out.tk.f
  obtain ⟨r0,r1,r2,r3⟩:=bx_at (show wy.heap[w.heap.size+1]?=some (bxO ⟨0,0,0,0⟩) from HB.out.res)
  have fr:=cells_f0 HB.out.res
  go_wp2_with fail
  go_loopw [94] (fun i wr=>i= .int .i64 0∧wr=wy) (fun _ _=>0)
  case atStart=>exact ⟨rfl,rfl⟩
  case round=>
  obtain ⟨rfl,rfl⟩:=hrel
  go_upto_region 30 with fail
  go_region
  all_goals
   go_wp2_with fail
   have hr:=putW_all [.int .i64 (u.getD bx0).x0, .int .i64 (u.getD bx0).y0, .int .i64 (u.getD bx0).x1, .int .i64 (u.getD bx0).y1] (show wr.heap[w.heap.size+1]?=some (.cells #[.int .i64 0, .int .i64 0, .int .i64 0, .int .i64 0] 198) from HB.out.res) rfl
   have hb:=putW_below (m:=0) (b:=w.heap.size+1) (Nat.le_succ _) [.int .i64 (u.getD bx0).x0, .int .i64 (u.getD bx0).y0, .int .i64 (u.getD bx0).x1, .int .i64 (u.getD bx0).y1] HB.out.bel
   exact bodyPost_ret (results_cell_tmp_row rfl _ _ (w.heap.size+1) _ _ _ _ rfl hr Tryz.underlying198 rfl (by kernel_rfl)) rfl ⟨rfl,hb.drew⟩
end Go.Proofs.YtfldplmgkeiimaaGreatDoor.VW
namespace Go.Proofs.YtfldplmgkeiimaaGreatDoor.VW
open Go.RowKit Go.Proofs.YtfldplmgkeiimaaGreatDoor.Vp
theorem max2_eq (x y:Int):(if y > x then y else x)=max x y:=by
 rw [Int.max_def]
 split <;> split <;> omega
theorem run_max4 (w:World) (ts:Array TypeId) (t:TypeId) (a b c d:Int):(Builtin.max_ ts t #[.int .i64 a, .int .i64 b, .int .i64 c, .int .i64 d]).run Tryz.prog w= .ok (.int .i64 (max (max (max a b) c) d)) w:=by
 simp [Builtin.max_,Builtin.max2,←max2_eq]
theorem reach_c (v lo hi:Int) (h:inI v∧inI lo∧inI hi) (g:Int) (hg:Hid (reachV v lo hi=g)) (w:World):Calls Tryz.prog 307 #[.int .i64 v, .int .i64 lo, .int .i64 hi] w fun e w'=>e= .returned (.int .i64 g)∧w'=w:=by
 unfold inI at h
 have h1:IntKind.i64.wrap (v - lo)=v - lo:=IntWalk.i64_in _ (by omega)
 have h2:IntKind.i64.wrap (lo - v)=lo - v:=IntWalk.i64_in _ (by omega)
 have h3:IntKind.i64.wrap (v - hi)=v - hi:=IntWalk.i64_in _ (by omega)
 have h4:IntKind.i64.wrap (hi - v)=hi - v:=IntWalk.i64_in _ (by omega)
 have hm:∀w,(Builtin.max_ #[2,2,2,2] 2 #[.int .i64 (v - lo), .int .i64 (lo - v), .int .i64 (v - hi), .int .i64 (hi - v)]).run Tryz.prog w= .ok (.int .i64 g) w:=fun w=>by rw [run_max4,←hg.out];rfl
 clear h
 go_enter Tryz.func307,Tryz.ntmps307
 go_wp2_with fail
 go_ret
 exact ⟨rfl,rfl⟩
theorem square_c (r:Int) (h:1≤r∧r≤536870912) (q:Int) (hq:Hid (r *r=q)) (w:World):Calls Tryz.prog 270 #[.int .i64 r] w fun e w'=>e= .returned (.int .i64 q)∧w'=w:=by
 have hm:min r 2147483648=r:=by omega
 have hs:=sq_in (x:=r) ⟨by omega,by omega⟩
 have hw:IntKind.i64.wrap (r *r)=r *r:=IntWalk.i64_in _ (by omega)
 clear hs h
 go_enter Tryz.func270,Tryz.ntmps270
 go_wp2_with fail
 go_ret
 exact ⟨ret_i hq.out,rfl⟩
abbrev MoP (w0:World) (k:Nat) (x0 y0 x1 y1 px py:Int) (Z:World):Prop:=
 Z.cell? ⟨k,0,none⟩=some (.int .i64 x0)∧Z.cell? ⟨k,1,none⟩=some (.int .i64 y0)∧Z.cell? ⟨k,2,none⟩=some (.int .i64 x1)∧Z.cell? ⟨k,3,none⟩=some (.int .i64 y1)∧Z.cell? ⟨k+1,0,none⟩=some (.int .i64 px)∧Z.cell? ⟨k+1,1,none⟩=some (.int .i64 py)∧Below w0.heap.size w0 Z
theorem mo_keep {w0:World} {k:Nat} {x0 y0 x1 y1 px py:Int} {v Z:World} (hb:Below v.heap.size v Z) (h:MoP w0 k x0 y0 x1 y1 px py v):MoP w0 k x0 y0 x1 y1 px py Z:=
 ⟨cell_keep hb h.1,cell_keep hb h.2.1,cell_keep hb h.2.2.1,cell_keep hb h.2.2.2.1,cell_keep hb h.2.2.2.2.1,cell_keep hb h.2.2.2.2.2.1,h.2.2.2.2.2.2.trans (hb.mono h.2.2.2.2.2.2.size)⟩
theorem reach_fit {v lo hi:Int} (h:-536870912≤v∧v≤536870912) (h0:-536870912≤lo∧lo≤536870912) (h1:-536870912≤hi∧hi≤536870912):inI v∧inI lo∧inI hi∧fitsI (reachV v lo hi)∧fitsI (gapV v lo hi):=by
 refine ⟨⟨by omega,by omega⟩,⟨by omega,by omega⟩,⟨by omega,by omega⟩,⟨?_,?_⟩,⟨?_,?_⟩⟩<;> first |(unfold reachV;omega)|(unfold gapV;split <;>(try split)<;> omega)
set_option maxHeartbeats 3200000 in
theorem boxMost_c (b:Bx) (p:P2) (h0:near30 (b.x0,b.y0)) (h1:near30 (b.x1,b.y1)) (hp:near30 p) (d:Int) (hd:Hid (mostB b p=d)) (w:World):
  Calls Tryz.prog 271 #[bxV b,ptV2 p] w fun e w'=>e= .returned (.int .i64 d)∧Below w.heap.size w w':=by
 obtain ⟨x0,y0,x1,y1⟩:=b
 obtain ⟨px,py⟩:=p
 obtain ⟨i1,i2,i3,i4,_⟩:=reach_fit hp.1 h0.1 h1.1
 obtain ⟨j1,j2,j3,j4,_⟩:=reach_fit hp.2 h0.2 h1.2
 obtain ⟨gx,hx⟩:∃g,reachV px x0 x1=g:=⟨_,rfl⟩
 obtain ⟨gy,hy⟩:∃g,reachV py y0 y1=g:=⟨_,rfl⟩
 simp only at i1 i2 i3 i4 j1 j2 j3 j4
 rw [hx] at i4
 rw [hy] at j4
 have s1:=sq_in i4
 have s2:=sq_in j4
 have w1:IntKind.i64.wrap (gx *gx)=gx *gx:=IntWalk.i64_in _ (by omega)
 have w2:IntKind.i64.wrap (gy *gy)=gy *gy:=IntWalk.i64_in _ (by omega)
 have w3:IntKind.i64.wrap (gx *gx+gy *gy)=d:=by
  rw [←hd.out,IntWalk.i64_in _ (by omega),←hx,←hy]
  rfl
 have HX:=Lib.hid hx
 have HY:=Lib.hid hy
 have HI:=Lib.hid (And.intro i1 (And.intro i2 i3))
 have HJ:=Lib.hid (And.intro j1 (And.intro j2 j3))
 clear i1 i2 i3 i4 j1 j2 j3 j4 s1 s2 hx hy h0 h1 hp
 go_enter Tryz.func271,Tryz.ntmps271
 go_upto_region 1 with fail
 obtain ⟨W,hW⟩:∃W,(w.alloc (bxO ⟨x0,y0,x1,y1⟩)).alloc (ptO (px,py))=W:=⟨_,rfl⟩
 have HP:Hid (MoP w w.heap.size x0 y0 x1 y1 px py W):=by
  have t1:W.heap[w.heap.size]?=some (bxO ⟨x0,y0,x1,y1⟩):=by rw [←hW];exact one_below (alloc_new _ _) (bel_alloc _ _)
  have t2:W.heap[w.heap.size+1]?=some (ptO (px,py)):=by rw [←hW];exact second_new _ _ _
  obtain ⟨a0,a1,a2,a3⟩:=bx_at t1
  obtain ⟨p0,p1⟩:=pt_at t2
  exact ⟨a0,a1,a2,a3,p0,p1,by rw [←hW];exact bel2 _ _ _⟩
 rw [hW]
 clear hW
 have HPD:=Lib.hid (mo_keep (Below.refl _ _).drew HP.out)
 go_region_held3 (fun Z=>MoP w w.heap.size x0 y0 x1 y1 px py Z) (first | with_reducible exact HP.out | with_reducible exact HPD.out | with_reducible exact mo_keep (by assumption) (by assumption)| with_reducible exact mo_keep (Below.refl _ _).drew (by assumption)| assumption | fail) (first |(go_at_call 307;with_reducible refine (reach_c px x0 x1 HI.out gx HX _).mono ?_;rintro e w5 ⟨rfl,rfl⟩)|(go_at_call 307;with_reducible refine (reach_c py y0 y1 HJ.out gy HY _).mono ?_;rintro e w5 ⟨rfl,rfl⟩)| fail)
 rename_i hHeld
 have HB:=Lib.hid hHeld.2.2.2.2.2.2
 clear hHeld
 go_wp2_with fail
 go_ret
 exact ⟨rfl,HB.out⟩
set_option maxHeartbeats 6400000 in
theorem discClass_c (b:Bx) (c:P2) (r:Int) (h0:near30 (b.x0,b.y0)) (h1:near30 (b.x1,b.y1)) (he:emptyB b=false) (hc:near30 c) (hr:1≤r∧r≤536870912) (k:Int) (hk:Hid (discC b c r=k)) (w:World):
  Calls Tryz.prog 248 #[bxV b,ptV2 c, .int .i64 r] w fun e w'=>e= .returned (.int .i64 k)∧Below w.heap.size w w':=by
 have H0:=Lib.hid h0
 have H1:=Lib.hid h1
 have HE:=Lib.hid he
 have HC:=Lib.hid hc
 have HR:=Lib.hid hr
 obtain ⟨x0,y0,x1,y1⟩:=b
 obtain ⟨cx,cy⟩:=c
 obtain ⟨i1,i2,i3,_,i4⟩:=reach_fit hc.1 h0.1 h1.1
 obtain ⟨j1,j2,j3,_,j4⟩:=reach_fit hc.2 h0.2 h1.2
 simp only at i1 i2 i3 i4 j1 j2 j3 j4
 have HIn:Hid (Bx.In ⟨x0,y0,x1,y1⟩):=(⟨i2,j2,i3,j3⟩:Bx.In _)
 have HIc:=Lib.hid (And.intro i1 j1)
 obtain ⟨gx,hx⟩:∃g,gapV cx x0 x1=g:=⟨_,rfl⟩
 obtain ⟨gy,hy⟩:∃g,gapV cy y0 y1=g:=⟨_,rfl⟩
 rw [hx] at i4
 rw [hy] at j4
 obtain ⟨dn,hdn⟩:∃d,gx *gx+gy *gy=d:=⟨_,rfl⟩
 obtain ⟨dm,hdm⟩:∃d,mostB ⟨x0,y0,x1,y1⟩ (cx,cy)=d:=⟨_,rfl⟩
 obtain ⟨q,hq⟩:∃q,r *r=q:=⟨_,rfl⟩
 have HK:Hid ((if q < dn then (0:Int) else if dm≤q then 2 else 1)=k):=by
  show _=_
  rw [←hk.out,←hdn,←hdm,←hq,←hx,←hy]
  rfl
 have HX:=Lib.hid hx
 have HY:=Lib.hid hy
 have HFx:=Lib.hid i4
 have HFy:=Lib.hid j4
 have HDN:=Lib.hid hdn
 have HDM:=Lib.hid hdm
 have HQ:=Lib.hid hq
 have hr1:¬r < 1:=by omega
 clear h0 h1 he hc hr i1 i2 i3 i4 j1 j2 j3 j4 hx hy hdn hdm hq hk
 go_enter Tryz.func248,Tryz.ntmps248
 go_upto_region 1 with fail
 obtain ⟨W,hW⟩:∃W,(w.alloc (bxO ⟨x0,y0,x1,y1⟩)).alloc (ptO (cx,cy))=W:=⟨_,rfl⟩
 have HB:Hid (Below w.heap.size w W):=by show Below _ _ _;rw [←hW];exact bel2 _ _ _
 have HA:Hid (W.heap[w.heap.size]?=some (bxO ⟨x0,y0,x1,y1⟩)):=by show _=_;rw [←hW];exact one_below (alloc_new _ _) (bel_alloc _ _)
 have HP:Hid (W.heap[w.heap.size+1]?=some (ptO (cx,cy))):=by show _=_;rw [←hW];exact second_new _ _ _
 rw [hW]
 clear hW
 obtain ⟨a0,a1,a2,a3⟩:=bx_at HA.out
 go_wp2_with fail
 with_reducible refine (bhas_c ⟨x0,y0,x1,y1⟩ (x0,y0) true (Lib.hid (has_corner x0 y0 x1 y1 HE.out)) _).mono ?_
 rintro e V ⟨rfl,hb⟩
 have HB1:Hid (Below w.heap.size w V):=HB.out.trans (hb.mono HB.out.size)
 have HA1:=Lib.hid (one_below HA.out hb)
 have HP1:=Lib.hid (one_below HP.out hb)
 clear a0 a1 a2 a3 hb
 obtain ⟨a0,a1,a2,a3⟩:=bx_at HA1.out
 obtain ⟨p0,p1⟩:=pt_at HP1.out
 simp only at p0 p1
 go_wp2_with fail
 with_reducible refine (boxNear_c x0 y0 x1 y1 cx cy HIn.out HIc.out gx gy HX HY HFx.out HFy.out dn HDN _).mono ?_
 rintro e V2 ⟨rfl,hb⟩
 have HB2:Hid (Below w.heap.size w V2):=HB1.out.trans (hb.mono HB1.out.size)
 have HA2:=Lib.hid (one_below HA1.out hb)
 have HP2:=Lib.hid (one_below HP1.out hb)
 clear a0 a1 a2 a3 p0 p1 hb
 obtain ⟨a0,a1,a2,a3⟩:=bx_at HA2.out
 obtain ⟨p0,p1⟩:=pt_at HP2.out
 simp only at p0 p1
 go_wp2_with fail
 with_reducible refine (square_c r HR.out q HQ _).mono ?_
 rintro e V3 ⟨rfl,rfl⟩
 by_cases c1:q < dn
 ·have HF:Hid ((0:Int)=k):=by show _=_;rw [←HK.out,if_pos c1]
  go_wp2_with fail
  go_ret
  exact ⟨ret_i HF.out,HB2.out⟩
 ·have HK2:Hid ((if dm≤q then (2:Int) else 1)=k):=by show _=_;rw [←HK.out,if_neg c1]
  go_wp2_with fail
  with_reducible refine (boxMost_c ⟨x0,y0,x1,y1⟩ (cx,cy) H0.out H1.out HC.out dm HDM _).mono ?_
  rintro e V4 ⟨rfl,hb⟩
  have HB4:Hid (Below w.heap.size w V4):=HB2.out.trans (hb.mono HB2.out.size)
  clear a0 a1 a2 a3 p0 p1 hb
  go_wp2_with fail
  with_reducible refine (square_c r HR.out q HQ _).mono ?_
  rintro e V5 ⟨rfl,rfl⟩
  by_cases c2:dm≤q
  ·have HF:Hid ((2:Int)=k):=by show _=_;rw [←HK2.out,if_pos c2]
   go_wp2_with fail
   go_ret
   exact ⟨ret_i HF.out,HB4.out⟩
  ·have HF:Hid ((1:Int)=k):=by show _=_;rw [←HK2.out,if_neg c2]
   go_wp2_with fail
   go_ret
   exact ⟨ret_i HF.out,HB4.out⟩
structure BxOk (b:Bx):Prop where
 p0:near30 (b.x0,b.y0)
 p1:near30 (b.x1,b.y1)
 e:emptyB b=false
def Nice (s:Shp):Prop:=s.p= .nil∧(s.b.k=1∨s.b.k=2)
theorem near_of {p:P2} (h:farV p=true):near30 p:=far_in h
theorem nice_ok {s:Shp} (h:okV s=true) (hk:s.b.k≠6):simpleV s.b=true:=by
 unfold okV at h
 rw [show Ps.one true s= .cons true s.b s.p .nil from rfl,parts_cons] at h
 cases hm:oneV s.b s.p 0 1000 with
 | none=>rw [hm] at h;simp at h
 | some m=>exact ((oneV_some hm).2.2.1 hk).1
set_option maxRecDepth 100000 in
set_option maxHeartbeats 6400000 in
theorem class_c (S:Nat→Prop) (x:Bx) (hx:BxOk x) (b:Bs) (s:Ps) (hn:Nice ⟨b,s⟩) (hok:okV ⟨b,s⟩=true) (pl:Option Addr) (cl:Nat) (pp:Option Addr) (cp:Nat) (w:World) (hsh:Hid (ShIn S w pl cl pp cp ⟨b,s⟩)) (k:Int) (hk:Hid (clsS x ⟨b,s⟩=k)):
  Calls Tryz.prog 217 #[shV b (.slice pl b.l.length cl) (.slice pp s.len cp),bxV x] w fun e w'=>e= .returned (.int .i64 k)∧Below w.heap.size w w':=by
 have hsv:=nice_ok hok (by rcases hn.2 with h | h <;>(simp only at h⊢;omega))
 have HX:=Lib.hid hx
 obtain ⟨x0,y0,x1,y1⟩:=x
 obtain ⟨hp,hk12⟩:=hn
 obtain ⟨kk,⟨ax,ay⟩,⟨bx,bz⟩,⟨cx,cy⟩,r,l⟩:=b
 simp only at hp hk12 hsv
 subst hp
 have hl:=hk.out
 clear hk
 unfold clsS clsB at hl
 simp only at hl
 obtain ⟨n,hn⟩:∃n,l.length=n:=⟨_,rfl⟩
 have HN:=Lib.hid hn
 show Calls _ _ #[.agg #[.int .i64 kk, .int .i64 ax, .int .i64 ay, .int .i64 bx, .int .i64 bz, .int .i64 cx, .int .i64 cy, .int .i64 r, .slice pl l.length cl, .slice pp 0 cp],bxV ⟨x0,y0,x1,y1⟩] w _
 rw [hn]
 clear hn
 rcases hk12 with rfl | rfl
 ·have h3:farV (ax,ay)=true∧radV r=true:=by simpa [simpleV] using hsv
  have HC:=Lib.hid (near_of h3.1)
  have HR:Hid (1≤r∧r≤536870912):=by have:=h3.2;simp [radV] at this;exact this
  have HK:Hid (discC ⟨x0,y0,x1,y1⟩ (ax,ay) r=k):=hl
  clear hsv h3 hl
  go_enter Tryz.func217,Tryz.ntmps217
  go_wp2_with fail
  with_reducible refine (discClass_c ⟨x0,y0,x1,y1⟩ (ax,ay) r HX.out.p0 HX.out.p1 HX.out.e HC.out HR.out k HK _).mono ?_
  rintro e V ⟨rfl,hb⟩
  go_wp2_with fail
  go_ret
  exact ⟨rfl,(bel2 _ _ _).trans (hb.mono (by simp;omega))⟩
 ·have h3:contV l=true:=by simpa [simpleV] using hsv
  have HC:Hid (∀c∈l,∀q∈c,near30 q):=by
   intro c hc q hq
   unfold contV at h3
   simp only [Bool.and_eq_true,List.all_eq_true] at h3
   exact near_of (h3.2 c hc q hq)
  have HK:Hid (polyC ⟨x0,y0,x1,y1⟩ l=k):=hl
  have HL:=Lib.hid hsh.out.l
  clear hsv h3 hl
  go_enter Tryz.func217,Tryz.ntmps217
  go_wp2_with fail
  with_reducible refine (polyClass_c S ⟨x0,y0,x1,y1⟩ HX.out.p0 HX.out.p1 HX.out.e pl l n cl HN.out.symm HC.out _ (Lib.hid (HL.out.below (bel2 _ _ _))) k HK).mono ?_
  rintro e V ⟨rfl,hb⟩
  go_wp2_with fail
  go_ret
  exact ⟨rfl,(bel2 _ _ _).trans (hb.mono (by simp;omega))⟩
end Go.Proofs.YtfldplmgkeiimaaGreatDoor.VW
