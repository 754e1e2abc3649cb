/-
  Several texts of this proof in one: Qc, Qf.
-/
import Derived.Test.YtfldplmgkeiimaaGreatDoorQ5
import Derived.Test.YtfldplmgkeiimaaGreatDoorQ1
import Derived.Deep.RegionLaw
import Derived.Deep.RegionHeld3
import Derived.Test.YtfldplmgkeiimaaGreatDoorQ4
import Derived.Test.YtfldplmgkeiimaaGreatDoorQ2
import Derived.Lib.MinMax
set_option linter.unusedVariables false
set_option linter.unusedSimpArgs false
namespace Go.Proofs.YtfldplmgkeiimaaGreatDoor.VW
open Go.RowKit Go.Proofs.YtfldplmgkeiimaaGreatDoor.Vp
set_option maxHeartbeats 3200000 in
theorem crosses_c (p a e:P2) (hp:near30 p) (ha:near30 a) (he:near30 e) (f:Bool) (hf:Hid (crossesV p a e=f)) (w:World):
  Calls Tryz.prog 308 #[ptV2 p,ptV2 a,ptV2 e] w fun r w'=>r= .returned (.bool f)∧Below w.heap.size w w':=by
 have HP:=Lib.hid hp
 have HA:=Lib.hid ha
 have HE:=Lib.hid he
 clear hp ha he
 have h:=hf.out
 clear hf
 unfold crossesV at h
 obtain ⟨px,py⟩:=p
 obtain ⟨ax,ay⟩:=a
 obtain ⟨ex,ey⟩:=e
 simp only at h
 obtain ⟨v,hv⟩:∃v,crossV (ax,ay) (ex,ey) (px,py)=v:=⟨_,rfl⟩
 rw [hv] at h
 have HV:=Lib.hid hv
 have HH:=Lib.hid h
 clear hv h
 go_enter Tryz.func308,Tryz.ntmps308
 go_upto_region 1 with fail
 obtain ⟨W,hW⟩:∃W,((w.alloc (ptO (px,py))).alloc (ptO (ax,ay))).alloc (ptO (ex,ey))=W:=⟨_,rfl⟩
 obtain ⟨t1,t2,t3,t4,t5⟩:=three_at hW
 have HB1:=Lib.hid t1
 have HB2:=Lib.hid t2
 have HB3:=Lib.hid t3
 have HW:=Lib.hid t4
 rw [hW]
 clear hW t1 t2 t3 t4 t5
 obtain ⟨p0,p1⟩:=pt_at HB1.out
 obtain ⟨a0,a1⟩:=pt_at HB2.out
 obtain ⟨e0,e1⟩:=pt_at HB3.out
 simp only at p0 p1 a0 a1 e0 e1
 by_cases c1:py < ay <;> by_cases c2:py < ey
 ·have HF:Hid (false=f):=by show _=_;rw [←HH.out];simp [c1,c2]
  go_wp2_with fail
  go_ret
  exact ⟨ret_b HF.out,HW.out⟩
 ·have HF:Hid ((if ay < ey then decide (0 < v) else decide (v < 0))=f):=by show _=_;rw [←HH.out];simp [c1,c2]
  have c3:¬ay < ey:=by omega
  go_wp2_with fail
  with_reducible refine (cross_c (ax,ay) (ex,ey) (px,py) HA.out HE.out HP.out v HV _).mono ?_
  rintro r V ⟨rfl,hv⟩
  have HX:Hid (Below w.heap.size w V):=HW.out.trans (hv.mono HW.out.size)
  obtain ⟨a0,a1⟩:=pt_at (one_below HB2.out hv)
  obtain ⟨e0,e1⟩:=pt_at (one_below HB3.out hv)
  simp only at a0 a1 e0 e1
  clear hv
  go_wp2_with fail
  go_ret
  refine ⟨ret_b ?_,HX.out⟩
  rw [←HF.out,if_neg (by omega)]
 ·have HF:Hid ((if ay < ey then decide (0 < v) else decide (v < 0))=f):=by show _=_;rw [←HH.out];simp [c1,c2]
  have c3:ay < ey:=by omega
  go_wp2_with fail
  with_reducible refine (cross_c (ax,ay) (ex,ey) (px,py) HA.out HE.out HP.out v HV _).mono ?_
  rintro r V ⟨rfl,hv⟩
  have HX:Hid (Below w.heap.size w V):=HW.out.trans (hv.mono HW.out.size)
  obtain ⟨a0,a1⟩:=pt_at (one_below HB2.out hv)
  obtain ⟨e0,e1⟩:=pt_at (one_below HB3.out hv)
  simp only at a0 a1 e0 e1
  clear hv
  go_wp2_with fail
  go_ret
  refine ⟨ret_b ?_,HX.out⟩
  rw [←HF.out,if_pos c3]
 ·have HF:Hid (false=f):=by show _=_;rw [←HH.out];simp [c1,c2]
  go_wp2_with fail
  go_ret
  exact ⟨ret_b HF.out,HW.out⟩
theorem edges_len (c:List P2):(edges c).length=c.length:=by
 unfold edges
 rw [List.length_zip,List.length_append,List.length_drop,List.length_take]
 omega
theorem edges_at (c:List P2) (i:Nat) (hi:i < c.length) (hm:(i+1) % c.length < c.length):(edges c)[i]'(by rw [edges_len];exact hi)=(c[i],c[(i+1) % c.length]):=by
 simp only [edges,List.getElem_zip]
 congr 1
 by_cases h:i+1 < c.length
 ·rw [List.getElem_append_left (by simp;omega),List.getElem_drop]
  congr 1
  rw [Nat.mod_eq_of_lt h,Nat.add_comm]
 ·have hl:i+1=c.length:=by omega
  rw [List.getElem_append_right (by simp;omega),List.getElem_take]
  congr 1
  simp only [List.length_drop]
  rw [hl,Nat.mod_self]
  omega
theorem ndiv {a b:Int} (h0:0≤a) (h1:0 < b):a.tmod b=a % b:=Int.tmod_eq_emod_of_nonneg h0
abbrev TcP (w0:World) (k0:Nat) (x0 y0 x1 y1:Int) (D:Nat) (ax ay:Int) (qb qo:Nat) (ex ey:Int) (Z:World):Prop:=
 Z.cell? ⟨k0,0,none⟩=some (.int .i64 x0)∧Z.cell? ⟨k0,1,none⟩=some (.int .i64 y0)∧Z.cell? ⟨k0,2,none⟩=some (.int .i64 x1)∧Z.cell? ⟨k0,3,none⟩=some (.int .i64 y1)∧Z.cell? ⟨D,0,none⟩=some (.int .i64 ax)∧Z.cell? ⟨D,1,none⟩=some (.int .i64 ay)∧Z.cell? ⟨qb,qo,none⟩=some (.int .i64 ex)∧Z.cell? ⟨qb,qo+1,none⟩=some (.int .i64 ey)∧Below w0.heap.size w0 Z
theorem tc_keep {w0:World} {k0:Nat} {x0 y0 x1 y1:Int} {D:Nat} {ax ay:Int} {qb qo:Nat} {ex ey:Int} {v Z:World} (hb:Below v.heap.size v Z) (h:TcP w0 k0 x0 y0 x1 y1 D ax ay qb qo ex ey v):TcP w0 k0 x0 y0 x1 y1 D ax ay qb qo ex ey Z:=
 ⟨cell_keep hb h.1,cell_keep hb h.2.1,cell_keep hb h.2.2.1,cell_keep hb h.2.2.2.1,cell_keep hb h.2.2.2.2.1,cell_keep hb h.2.2.2.2.2.1,cell_keep hb h.2.2.2.2.2.2.1,cell_keep hb h.2.2.2.2.2.2.2.1,h.2.2.2.2.2.2.2.2.trans (hb.mono h.2.2.2.2.2.2.2.2.size)⟩
theorem tc_drew {w0:World} {k0:Nat} {x0 y0 x1 y1:Int} {D:Nat} {ax ay:Int} {qb qo:Nat} {ex ey:Int} {v:World} (h:TcP w0 k0 x0 y0 x1 y1 D ax ay qb qo ex ey v):TcP w0 k0 x0 y0 x1 y1 D ax ay qb qo ex ey v.drew:=tc_keep (Below.refl _ _).drew h
set_option maxRecDepth 100000 in
set_option maxHeartbeats 12800000 in
theorem touches_c (S:Nat→Prop) (b:Bx) (h0:near30 (b.x0,b.y0)) (h1:near30 (b.x1,b.y1)) (he:emptyB b=false) (p:Option Addr) (l:List (List P2)) (n c:Nat) (hn:n=l.length) (hl:∀c∈l,∀q∈c,near30 q) (w:World) (H:Hid (ConsIn S w p l)) (f:Bool) (hf:Hid (touchV b l=f)):
  Calls Tryz.prog 272 #[bxV b, .slice p n c] w fun e w'=>e= .returned (.bool f)∧Below w.heap.size w w':=by
 have hbig:n≤1000000000:=by rw [hn];exact H.out.1
 have HN:=Lib.hid hn
 have HL:=Lib.hid hl
 have H0:=Lib.hid h0
 have H1:=Lib.hid h1
 have HE:=Lib.hid he
 obtain ⟨g,hg⟩:∃g:P2 × P2→Bool,(fun e=>meetsV b e.1 e.2)=g:=⟨_,rfl⟩
 have HG:=Lib.hid hg
 have HC0:Hid ((l.drop 0).any (fun c=>(edges c).any g)=f):=by show _=_;rw [←hg];exact hf.out
 clear hf hn hl h0 h1 he hg
 obtain ⟨x0,y0,x1,y1⟩:=b
 go_enter Tryz.func272,Tryz.ntmps272
 go_wp2_with fail
 have HW:Hid (Below w.heap.size w (w.alloc (bxO ⟨x0,y0,x1,y1⟩))):=bel1 _ _
 have HA:Hid ((w.alloc (bxO ⟨x0,y0,x1,y1⟩)).heap[w.heap.size]?=some (bxO ⟨x0,y0,x1,y1⟩)):=alloc_new _ _
 generalize w.alloc (bxO ⟨x0,y0,x1,y1⟩)=W at HW HA⊢
 go_loopw [11] (fun i wr=>∃(j:Nat) (wy:World),wy=wr∧j≤n∧Hid ((l.drop j).any (fun c=>(edges c).any g)=f)∧i= .int .i64 j∧Hid (Below W.heap.size W wy)) (fun i _=>n -(intOf i).toNat)
 case atStart=>exact ⟨0,_,rfl,Nat.zero_le _,HC0.out,rfl,Below.refl _ _⟩
 case round=>
 obtain ⟨j,wy,rfl,hj,HJ,rfl,HB⟩:=hrel
 by_cases hlt:j < n
 ·have hlt2:j < l.length:=by rw [←HN.out];exact hlt
  have hlti:(j:Int)<(n:Int):=by omega
  obtain ⟨r,hr⟩:∃r,l[j]=r:=⟨_,rfl⟩
  obtain ⟨bb,o,q,cc,rfl,hcell,_,hpts⟩:=(H.out.below (HW.out.trans (HB.out.mono HW.out.size))).at hlt2 hr
  have HP:=Lib.hid hpts
  have hrl:r.length≤1000000000:=hpts.1
  have HR:Hid (∀q∈r,near30 q):=by intro q hq;exact HL.out r (by rw [←hr];exact List.getElem_mem _) q hq
  have HJ2:Hid (((edges r).any g ||(l.drop (j+1)).any (fun c=>(edges c).any g))=f):=by
   show _=_
   rw [←HJ.out,List.drop_eq_getElem_cons hlt2,hr]
   rfl
  obtain ⟨m,hm⟩:∃m,r.length=m:=⟨_,rfl⟩
  have HM:=Lib.hid hm
  rw [hm] at hcell hrl
  clear hpts hr HJ hm
  go_wp2_with fail
  go_loopw [17] (fun i wx=>∃(k:Nat) (wz:World),wz=wx∧k≤m∧Hid (((edges r).drop k).any g=(edges r).any g)∧i= .int .i64 k∧Hid (Below wy.heap.size wy wz)) (fun i _=>m -(intOf i).toNat)
  case atStart=>exact ⟨0,_,rfl,Nat.zero_le _,rfl,rfl,Below.refl _ _⟩
  case round=>
  obtain ⟨k,wz,rfl,hk,HK,rfl,HZ⟩:=hrel
  by_cases hkl:k < m
  ·have hkl2:k < r.length:=by rw [HM.out];exact hkl
   have hkli:(k:Int)<(m:Int):=by omega
   obtain ⟨k2,hk2⟩:∃k2,(k+1) % m=k2:=⟨_,rfl⟩
   have hk2m:k2 < m:=by rw [←hk2];exact Nat.mod_lt _ (by omega)
   have hk2r:k2 < r.length:=by rw [HM.out];exact hk2m
   obtain ⟨z,hz⟩:∃z,r[k]=z:=⟨_,rfl⟩
   obtain ⟨z2,hz2⟩:∃z,r[k2]=z:=⟨_,rfl⟩
   have HNZ:=Lib.hid (HR.out z (by rw [←hz];exact List.getElem_mem _))
   have HNZ2:=Lib.hid (HR.out z2 (by rw [←hz2];exact List.getElem_mem _))
   obtain ⟨pb,po,rfl,s0,s1⟩:=(HP.out.below HZ.out).at hkl2 hz
   obtain ⟨pb',po',hpo,u0,u1⟩:=(HP.out.below HZ.out).at hk2r hz2
   obtain ⟨rfl,rfl⟩:pb'=pb∧po'=po:=by injection hpo with h1;injection h1 with h1 h2;exact ⟨h1.symm,h2.symm⟩
   have HKZ:Hid (((edges r).drop k).any g=(g (z,z2)||((edges r).drop (k+1)).any g)):=by
    show _=_
    rw [List.drop_eq_getElem_cons (by rw [edges_len];exact hkl2),edges_at r k hkl2 (by rw [HM.out,hk2,←HM.out];exact hk2r)]
    have:r[(k+1) % r.length]'(by rw [HM.out,hk2,←HM.out];exact hk2r)=z2:=by rw [←hz2];congr 1;rw [HM.out,hk2]
    rw [this,hz]
    rfl
   clear hz hz2 hpo
   obtain ⟨zx,zy⟩:=z
   obtain ⟨ex,ey⟩:=z2
   obtain ⟨fm,hfm⟩:∃f,g ((zx,zy),(ex,ey))=f:=⟨_,rfl⟩
   have HFM:=Lib.hid hfm
   have HFZ:Hid (meetsV ⟨x0,y0,x1,y1⟩ (zx,zy) (ex,ey)=fm):=by show _=_;rw [←hfm,←HG.out]
   have hw1:IntKind.i64.wrap ((k:Int)+1)=(k:Int)+1:=IntWalk.i64_in _ (by omega)
   have hm0:¬((m:Int)=0):=by omega
   have hmd:((k:Int)+1).tmod (m:Int)=(k2:Int):=by rw [ndiv (by omega) (by omega),←hk2];exact (Int.natCast_emod (k+1) m).symm
   have hm0n:¬m=0:=by omega
   have hk2p:(0:Int)≤(k2:Int):=by omega
   have hk2i:(k2:Int)<(m:Int):=by omega
   clear hfm hk2
   obtain ⟨a0,a1,a2,a3⟩:=bx_at (one_below (one_below HA.out HB.out) HZ.out)
   have n1:=lt_of_heap (one_below (one_below HA.out HB.out) HZ.out)
   go_upto_region 7 with fail
   have HSD:Hid (TcP wz w.heap.size x0 y0 x1 y1 wz.heap.size zx zy pb' (po'+k2 *2) ex ey (wz.alloc (ptO (zx,zy)))):=by
    obtain ⟨b0,b1⟩:=pt_at (alloc_new wz (ptO (zx,zy)))
    have hb:=bel_alloc wz (ptO (zx,zy))
    exact ⟨cell_keep hb a0,cell_keep hb a1,cell_keep hb a2,cell_keep hb a3,b0,b1,cell_keep hb u0,cell_keep hb u1,hb⟩
   generalize wz.alloc (ptO (zx,zy))=W2 at HSD⊢
   clear a0 a1 a2 a3 s0 s1 u0 u1
   go_region_held3 (fun Z=>TcP wz w.heap.size x0 y0 x1 y1 wz.heap.size zx zy pb' (po'+k2 *2) ex ey Z) (first | with_reducible exact HSD.out | with_reducible exact tc_drew HSD.out | with_reducible exact tc_keep (by assumption) (by assumption)| with_reducible exact tc_drew (by assumption)| fail) (first |(go_at_call 277;with_reducible refine (meets_c ⟨x0,y0,x1,y1⟩ (zx,zy) (ex,ey) H0.out H1.out HNZ.out HNZ2.out HE.out fm HFZ _).mono ?_;rintro e w5 ⟨rfl,hb5⟩)| fail)
   rename_i hHeld
   have HZ2:Hid (Below wy.heap.size wy w5):=HZ.out.trans (hHeld.2.2.2.2.2.2.2.2.mono HZ.out.size)
   clear hHeld hb5 HSD
   cases fm with
   | true=>
    have HF:Hid (true=f):=by show _=_;rw [←HJ2.out,←HK.out,HKZ.out,HFM.out];rfl
    go_wp2_with fail
    go_ret
    exact ⟨ret_b HF.out,HW.out.trans ((HB.out.trans (HZ2.out.mono HB.out.size)).mono HW.out.size)⟩
   | false=>
    have HK2:Hid (((edges r).drop (k+1)).any g=(edges r).any g):=by show _=_;rw [←HK.out,HKZ.out,HFM.out];rfl
    go_wp2_with fail
    go_round <;> first | exact ⟨k+1,_,rfl,by omega,HK2.out,by go_num,HZ2.out⟩|(simp [intOf] <;> omega)
  ·have hkm:k=m:=by omega
   have HQ:Hid ((l.drop (j+1)).any (fun c=>(edges c).any g)=f):=by
    show _=_
    have h1:=HK.out
    rw [List.drop_eq_nil_of_le (by rw [edges_len];have:=HM.out;omega)] at h1
    rw [←HJ2.out,←h1]
    rfl
   subst hkm
   go_wp2_with fail
   go_round <;> first | exact ⟨j+1,_,rfl,by omega,HQ.out,by go_num,HB.out.trans (HZ.out.mono HB.out.size)⟩|(simp [intOf] <;> omega)
 ·have hje:j=n:=by omega
  have HT:Hid (false=f):=by
   show _=_
   rw [←HJ.out,List.drop_eq_nil_of_le (by rw [←HN.out];omega)]
   rfl
  subst hje
  go_wp2_with fail
  go_ret
  exact ⟨ret_b HT.out,HW.out.trans (HB.out.mono HW.out.size)⟩
abbrev TdP (w0:World) (k0:Nat) (x0 y0:Int) (D:Nat) (ax ay:Int) (qb qo:Nat) (ex ey:Int) (Z:World):Prop:=
 Z.cell? ⟨k0,0,none⟩=some (.int .i64 x0)∧Z.cell? ⟨k0,1,none⟩=some (.int .i64 y0)∧Z.cell? ⟨D,0,none⟩=some (.int .i64 ax)∧Z.cell? ⟨D,1,none⟩=some (.int .i64 ay)∧Z.cell? ⟨qb,qo,none⟩=some (.int .i64 ex)∧Z.cell? ⟨qb,qo+1,none⟩=some (.int .i64 ey)∧Below w0.heap.size w0 Z
theorem td_keep {w0:World} {k0:Nat} {x0 y0:Int} {D:Nat} {ax ay:Int} {qb qo:Nat} {ex ey:Int} {v Z:World} (hb:Below v.heap.size v Z) (h:TdP w0 k0 x0 y0 D ax ay qb qo ex ey v):TdP w0 k0 x0 y0 D ax ay qb qo ex ey Z:=
 ⟨cell_keep hb h.1,cell_keep hb h.2.1,cell_keep hb h.2.2.1,cell_keep hb h.2.2.2.1,cell_keep hb h.2.2.2.2.1,cell_keep hb h.2.2.2.2.2.1,h.2.2.2.2.2.2.trans (hb.mono h.2.2.2.2.2.2.size)⟩
theorem td_drew {w0:World} {k0:Nat} {x0 y0:Int} {D:Nat} {ax ay:Int} {qb qo:Nat} {ex ey:Int} {v:World} (h:TdP w0 k0 x0 y0 D ax ay qb qo ex ey v):TdP w0 k0 x0 y0 D ax ay qb qo ex ey v.drew:=td_keep (Below.refl _ _).drew h
set_option maxRecDepth 100000 in
set_option maxHeartbeats 12800000 in
theorem odd_c (S:Nat→Prop) (b:P2) (h0:near30 b) (p:Option Addr) (l:List (List P2)) (n c:Nat) (hn:n=l.length) (hl:∀c∈l,∀q∈c,near30 q) (w:World) (H:Hid (ConsIn S w p l)) (f:Bool) (hf:Hid (oddV b l=f)):
  Calls Tryz.prog 273 #[ptV2 b, .slice p n c] w fun e w'=>e= .returned (.bool f)∧Below w.heap.size w w':=by
 have hbig:n≤1000000000:=by rw [hn];exact H.out.1
 have HN:=Lib.hid hn
 have HL:=Lib.hid hl
 have H0:=Lib.hid h0
 obtain ⟨g,hg⟩:∃g:P2 × P2→Bool,(fun e=>crossesV b e.1 e.2)=g:=⟨_,rfl⟩
 have HG:=Lib.hid hg
 have HC0:Hid ((l.drop 0).foldl (fun i c=>(edges c).foldl (fun i e=>if g e=true then !i else i) i) false=f):=by show _=_;rw [←hg];exact hf.out
 clear hf hn hl h0 hg
 obtain ⟨x0,y0⟩:=b
 go_enter Tryz.func273,Tryz.ntmps273
 go_wp2_with fail
 have HW:Hid (Below w.heap.size w (w.alloc (ptO (x0,y0)))):=bel1 _ _
 have HA:Hid ((w.alloc (ptO (x0,y0))).heap[w.heap.size]?=some (ptO (x0,y0))):=alloc_new _ _
 generalize w.alloc (ptO (x0,y0))=W at HW HA⊢
 go_loopw [5,12] (fun iv i wr=>∃(j:Nat) (inn:Bool) (wy:World),wy=wr∧j≤n∧Hid ((l.drop j).foldl (fun i c=>(edges c).foldl (fun i e=>if g e=true then !i else i) i) inn=f)∧iv= .bool inn∧i= .int .i64 j∧Hid (Below W.heap.size W wy)) (fun _ i _=>n -(intOf i).toNat)
 case atStart=>exact ⟨0,false,_,rfl,Nat.zero_le _,HC0.out,rfl,rfl,Below.refl _ _⟩
 case round=>
 obtain ⟨j,inn,wy,rfl,hj,HJ,rfl,rfl,HB⟩:=hrel
 by_cases hlt:j < n
 ·have hlt2:j < l.length:=by rw [←HN.out];exact hlt
  have hlti:(j:Int)<(n:Int):=by omega
  obtain ⟨r,hr⟩:∃r,l[j]=r:=⟨_,rfl⟩
  obtain ⟨bb,o,q,cc,rfl,hcell,_,hpts⟩:=(H.out.below (HW.out.trans (HB.out.mono HW.out.size))).at hlt2 hr
  have HP:=Lib.hid hpts
  have hrl:r.length≤1000000000:=hpts.1
  have HR:Hid (∀q∈r,near30 q):=by intro q hq;exact HL.out r (by rw [←hr];exact List.getElem_mem _) q hq
  have HJ2:Hid ((l.drop (j+1)).foldl (fun i c=>(edges c).foldl (fun i e=>if g e=true then !i else i) i) ((edges r).foldl (fun i e=>if g e=true then !i else i) inn)=f):=by
   show _=_
   rw [←HJ.out,List.drop_eq_getElem_cons hlt2,hr]
   rfl
  obtain ⟨m,hm⟩:∃m,r.length=m:=⟨_,rfl⟩
  have HM:=Lib.hid hm
  rw [hm] at hcell hrl
  clear hpts hr HJ hm
  go_wp2_with fail
  go_loopw [5,18] (fun iv i wx=>∃(k:Nat) (im:Bool) (wz:World),wz=wx∧k≤m∧Hid (((edges r).drop k).foldl (fun i e=>if g e=true then !i else i) im=(edges r).foldl (fun i e=>if g e=true then !i else i) inn)∧iv= .bool im∧i= .int .i64 k∧Hid (Below wy.heap.size wy wz)) (fun _ i _=>m -(intOf i).toNat)
  case atStart=>exact ⟨0,inn,_,rfl,Nat.zero_le _,rfl,rfl,rfl,Below.refl _ _⟩
  case round=>
  obtain ⟨k,im,wz,rfl,hk,HK,rfl,rfl,HZ⟩:=hrel
  by_cases hkl:k < m
  ·have hkl2:k < r.length:=by rw [HM.out];exact hkl
   have hkli:(k:Int)<(m:Int):=by omega
   obtain ⟨k2,hk2⟩:∃k2,(k+1) % m=k2:=⟨_,rfl⟩
   have hk2m:k2 < m:=by rw [←hk2];exact Nat.mod_lt _ (by omega)
   have hk2r:k2 < r.length:=by rw [HM.out];exact hk2m
   obtain ⟨z,hz⟩:∃z,r[k]=z:=⟨_,rfl⟩
   obtain ⟨z2,hz2⟩:∃z,r[k2]=z:=⟨_,rfl⟩
   have HNZ:=Lib.hid (HR.out z (by rw [←hz];exact List.getElem_mem _))
   have HNZ2:=Lib.hid (HR.out z2 (by rw [←hz2];exact List.getElem_mem _))
   obtain ⟨pb,po,rfl,s0,s1⟩:=(HP.out.below HZ.out).at hkl2 hz
   obtain ⟨pb',po',hpo,u0,u1⟩:=(HP.out.below HZ.out).at hk2r hz2
   obtain ⟨rfl,rfl⟩:pb'=pb∧po'=po:=by injection hpo with h1;injection h1 with h1 h2;exact ⟨h1.symm,h2.symm⟩
   have HKZ:Hid (((edges r).drop k).foldl (fun i e=>if g e=true then !i else i) im=((edges r).drop (k+1)).foldl (fun i e=>if g e=true then !i else i) (if g (z,z2)=true then !im else im)):=by
    show _=_
    rw [List.drop_eq_getElem_cons (by rw [edges_len];exact hkl2),edges_at r k hkl2 (by rw [HM.out,hk2,←HM.out];exact hk2r)]
    have:r[(k+1) % r.length]'(by rw [HM.out,hk2,←HM.out];exact hk2r)=z2:=by rw [←hz2];congr 1;rw [HM.out,hk2]
    rw [this,hz]
    rfl
   clear hz hz2 hpo
   obtain ⟨zx,zy⟩:=z
   obtain ⟨ex,ey⟩:=z2
   obtain ⟨fm,hfm⟩:∃f,g ((zx,zy),(ex,ey))=f:=⟨_,rfl⟩
   have HFM:=Lib.hid hfm
   have HFZ:Hid (crossesV (x0,y0) (zx,zy) (ex,ey)=fm):=by show _=_;rw [←hfm,←HG.out]
   have hw1:IntKind.i64.wrap ((k:Int)+1)=(k:Int)+1:=IntWalk.i64_in _ (by omega)
   have hm0:¬((m:Int)=0):=by omega
   have hmd:((k:Int)+1).tmod (m:Int)=(k2:Int):=by rw [ndiv (by omega) (by omega),←hk2];exact (Int.natCast_emod (k+1) m).symm
   have hm0n:¬m=0:=by omega
   have hk2p:(0:Int)≤(k2:Int):=by omega
   have hk2i:(k2:Int)<(m:Int):=by omega
   clear hfm hk2
   obtain ⟨a0,a1⟩:=pt_at (one_below (one_below HA.out HB.out) HZ.out)
   have n1:=lt_of_heap (one_below (one_below HA.out HB.out) HZ.out)
   go_upto_region 8 with fail
   have HSD:Hid (TdP wz w.heap.size x0 y0 wz.heap.size zx zy pb' (po'+k2 *2) ex ey (wz.alloc (ptO (zx,zy)))):=by
    obtain ⟨b0,b1⟩:=pt_at (alloc_new wz (ptO (zx,zy)))
    have hb:=bel_alloc wz (ptO (zx,zy))
    exact ⟨cell_keep hb a0,cell_keep hb a1,b0,b1,cell_keep hb u0,cell_keep hb u1,hb⟩
   generalize wz.alloc (ptO (zx,zy))=W2 at HSD⊢
   clear a0 a1 s0 s1 u0 u1
   go_region_held3 (fun Z=>TdP wz w.heap.size x0 y0 wz.heap.size zx zy pb' (po'+k2 *2) ex ey Z) (first | with_reducible exact HSD.out | with_reducible exact td_drew HSD.out | with_reducible exact td_keep (by assumption) (by assumption)| with_reducible exact td_drew (by assumption)| fail) (first |(go_at_call 308;with_reducible refine (crosses_c (x0,y0) (zx,zy) (ex,ey) H0.out HNZ.out HNZ2.out fm HFZ _).mono ?_;rintro e w5 ⟨rfl,hb5⟩)| fail)
   rename_i hHeld
   have HZ2:Hid (Below wy.heap.size wy w5):=HZ.out.trans (hHeld.2.2.2.2.2.2.mono HZ.out.size)
   clear hHeld hb5 HSD
   cases fm with
   | true=>
    have HK2:Hid (((edges r).drop (k+1)).foldl (fun i e=>if g e=true then !i else i) (!im)=(edges r).foldl (fun i e=>if g e=true then !i else i) inn):=by show _=_;rw [←HK.out,HKZ.out,HFM.out];rfl
    go_wp2_with fail
    go_round <;> first | exact ⟨k+1,!im,_,rfl,by omega,HK2.out,rfl,by go_num,HZ2.out⟩|(simp [intOf] <;> omega)
   | false=>
    have HK2:Hid (((edges r).drop (k+1)).foldl (fun i e=>if g e=true then !i else i) im=(edges r).foldl (fun i e=>if g e=true then !i else i) inn):=by show _=_;rw [←HK.out,HKZ.out,HFM.out];rfl
    go_wp2_with fail
    go_round <;> first | exact ⟨k+1,im,_,rfl,by omega,HK2.out,rfl,by go_num,HZ2.out⟩|(simp [intOf] <;> omega)
  ·have hkm:k=m:=by omega
   have HQ:Hid ((l.drop (j+1)).foldl (fun i c=>(edges c).foldl (fun i e=>if g e=true then !i else i) i) im=f):=by
    show _=_
    have h1:=HK.out
    rw [List.drop_eq_nil_of_le (by rw [edges_len];have:=HM.out;omega)] at h1
    rw [←HJ2.out,←h1]
    rfl
   subst hkm
   go_wp2_with fail
   go_round <;> first | exact ⟨j+1,im,_,rfl,by omega,HQ.out,rfl,by go_num,HB.out.trans (HZ.out.mono HB.out.size)⟩|(simp [intOf] <;> omega)
 ·have hje:j=n:=by omega
  have HT:Hid (inn=f):=by
   show _=_
   rw [←HJ.out,List.drop_eq_nil_of_le (by rw [←HN.out];omega)]
   rfl
  subst hje
  go_wp2_with fail
  go_ret
  exact ⟨ret_b HT.out,HW.out.trans (HB.out.mono HW.out.size)⟩
theorem has_corner (x0 y0 x1 y1:Int) (he:emptyB ⟨x0,y0,x1,y1⟩=false):(decide (x0≤x0) && (decide (x0≤x1) && (decide (y0≤y0) && decide (y0≤y1))))=true:=by
 simp only [emptyB,Bool.or_eq_false_iff,decide_eq_false_iff_not] at he
 simp
 omega
set_option maxHeartbeats 6400000 in
theorem polyClass_c (S:Nat→Prop) (b:Bx) (h0:near30 (b.x0,b.y0)) (h1:near30 (b.x1,b.y1)) (he:emptyB b=false) (p:Option Addr) (l:List (List P2)) (n c:Nat) (hn:n=l.length) (hl:∀c∈l,∀q∈c,near30 q) (w:World) (H:Hid (ConsIn S w p l)) (k:Int) (hk:Hid (polyC b l=k)):
  Calls Tryz.prog 249 #[bxV b, .slice p n c] w fun e w'=>e= .returned (.int .i64 k)∧Below w.heap.size w w':=by
 have H0:=Lib.hid h0
 have H1:=Lib.hid h1
 have HE:=Lib.hid he
 have HL:=Lib.hid hl
 have HN:=Lib.hid hn
 obtain ⟨ft,hft⟩:∃f,touchV b l=f:=⟨_,rfl⟩
 obtain ⟨fo,hfo⟩:∃f,oddV (b.x0,b.y0) l=f:=⟨_,rfl⟩
 have HFT:=Lib.hid hft
 have HFO:=Lib.hid hfo
 have HK:Hid ((if ft=true then (1:Int) else if fo=true then 2 else 0)=k):=by show _=_;rw [←hk.out,←hft,←hfo];rfl
 clear hft hfo hk h0 h1 he hl hn
 obtain ⟨x0,y0,x1,y1⟩:=b
 simp only at HFO
 go_enter Tryz.func249,Tryz.ntmps249
 go_wp2_with fail
 have HW:Hid (Below w.heap.size w (w.alloc (bxO ⟨x0,y0,x1,y1⟩))):=bel1 _ _
 have HA:Hid ((w.alloc (bxO ⟨x0,y0,x1,y1⟩)).heap[w.heap.size]?=some (bxO ⟨x0,y0,x1,y1⟩)):=alloc_new _ _
 generalize w.alloc (bxO ⟨x0,y0,x1,y1⟩)=W at HW HA⊢
 with_reducible refine (touches_c S ⟨x0,y0,x1,y1⟩ H0.out H1.out HE.out p l n c HN.out HL.out _ (Lib.hid (H.out.below HW.out)) ft HFT).mono ?_
 rintro e V ⟨rfl,hb⟩
 have HV:Hid (Below w.heap.size w V):=HW.out.trans (hb.mono HW.out.size)
 have HA2:=Lib.hid (one_below HA.out hb)
 clear hb
 obtain ⟨a0,a1,a2,a3⟩:=bx_at HA2.out
 cases ft with
 | true=>
  go_wp2_with fail
  go_ret
  exact ⟨ret_i HK.out,HV.out⟩
 | false=>
  go_upto_region 4 with fail
  have HB2:Hid (Below V.heap.size V (V.alloc (ptO (x0,y0)))):=bel_alloc _ _
  have HP:Hid ((V.alloc (ptO (x0,y0))).heap[V.heap.size]?=some (ptO (x0,y0))):=alloc_new _ _
  generalize V.alloc (ptO (x0,y0))=V2 at HB2 HP⊢
  clear a0 a1 a2 a3
  obtain ⟨a0,a1,a2,a3⟩:=bx_at (one_below HA2.out HB2.out)
  obtain ⟨p0,p1⟩:=pt_at HP.out
  simp only at p0 p1
  have HV2:Hid (Below w.heap.size w V2):=HV.out.trans (HB2.out.mono HV.out.size)
  go_wp2_with fail
  with_reducible refine (bhas_c ⟨x0,y0,x1,y1⟩ (x0,y0) true (Lib.hid (has_corner x0 y0 x1 y1 HE.out)) _).mono ?_
  rintro e V3 ⟨rfl,hb⟩
  have HV3:Hid (Below w.heap.size w V3):=HV2.out.trans (hb.mono HV2.out.size)
  have HP3:=Lib.hid (one_below HP.out hb)
  clear a0 a1 a2 a3 p0 p1 hb
  obtain ⟨p0,p1⟩:=pt_at HP3.out
  simp only at p0 p1
  go_wp2_with fail
  with_reducible refine (odd_c S (x0,y0) H0.out p l n c HN.out HL.out _ (Lib.hid (H.out.below HV3.out)) fo HFO).mono ?_
  rintro e V4 ⟨rfl,hb⟩
  have HV4:Hid (Below w.heap.size w V4):=HV3.out.trans (hb.mono HV3.out.size)
  clear p0 p1 hb
  cases fo with
  | true=>
   go_wp2_with fail
   go_ret
   exact ⟨ret_i HK.out,HV4.out⟩
  | false=>
   go_wp2_with fail
   go_ret
   exact ⟨ret_i HK.out,HV4.out⟩
end Go.Proofs.YtfldplmgkeiimaaGreatDoor.VW
namespace Go.Proofs.YtfldplmgkeiimaaGreatDoor.VW
open Go.RowKit Go.Proofs.YtfldplmgkeiimaaGreatDoor.Vp
set_option maxHeartbeats 3200000 in
theorem fold_c (was cls:Int) (add:Bool) (k:Int) (hk:Hid (foldV was cls add=k)) (w:World):Calls Tryz.prog 173 #[.int .i64 was, .int .i64 cls, .bool add] w fun e w'=>e= .returned (.int .i64 k)∧w'=w:=by
 cases add <;> go_enter Tryz.func173,Tryz.ntmps173 <;> go_wp2_with fail
 all_goals
  go_ret
  refine ⟨ret_i ?_,rfl⟩
  have h:=hk.out
  unfold foldV at h
  grind
theorem third_new (w:World) (o p q:Obj):(((w.alloc o).alloc p).alloc q).heap[w.heap.size+1+1]?=some q:=by rw [←alloc_size w o,←alloc_size (w.alloc o) p];exact alloc_new _ _
set_option maxHeartbeats 3200000 in
theorem around_c (p q:P2) (r:Int) (hp:near30 p) (hq:near30 q) (hr:0≤r∧r≤4611686018427387904) (b:Bx) (hb:Hid (aroundV p q r=b)) (w:World):Calls Tryz.prog 213 #[ptV2 p,ptV2 q, .int .i64 r] w fun e w'=>e= .returned (bxV b)∧Below w.heap.size w w':=by
 obtain ⟨px,py⟩:=p
 obtain ⟨qx,qy⟩:=q
 unfold near30 at hp hq
 simp only at hp hq
 have w1:IntKind.i64.wrap (min px qx - r)=min px qx - r:=IntWalk.i64_in _ (by omega)
 have w2:IntKind.i64.wrap (min py qy - r)=min py qy - r:=IntWalk.i64_in _ (by omega)
 have w3:IntKind.i64.wrap (max px qx+r)=max px qx+r:=IntWalk.i64_in _ (by omega)
 have w4:IntKind.i64.wrap (max py qy+r)=max py qy+r:=IntWalk.i64_in _ (by omega)
 clear hp hq hr
 go_enter Tryz.func213,Tryz.ntmps213
 go_wp2_with fail
 rw [←hb.out]
 have key:=third_new w (ptO (px,py)) (ptO (qx,qy)) (bxO (aroundV (px,py) (qx,qy) r))
 exact bodyPost_ret (results_cell_row rfl _ _ (w.heap.size+1+1) _ _ _ _ rfl key Tryz.underlying198 rfl (by kernel_rfl)) rfl ⟨rfl,bel3 _ _ _ _⟩
abbrev boO (b:Bool):Obj:= .cells #[.bool b] 4
theorem bo_at {w:World} {k:Nat} {b:Bool} (h:w.heap[k]?=some (boO b)):w.cell? ⟨k,0,none⟩=some (.bool b)∧∀i,w.frozen? ⟨k,i,none⟩=false:=by
 refine ⟨?_,fun i=>?_⟩<;> simp [World.cell?,World.frozen?,h]
structure TkM (w:World) (ka kf:Nat) (o:Option Bx):Prop where
 a:w.heap[ka]?=some (bxO (o.getD bx0))
 f:w.heap[kf]?=some (boO o.isSome)
theorem TkM.below {w w':World} {ka kf:Nat} {o:Option Bx} (h:TkM w ka kf o) (hb:Below w.heap.size w w'):TkM w' ka kf o:=⟨one_below h.a hb,one_below h.f hb⟩
theorem take_end {w W:World} {ka kf:Nat} {f:Bool} {a:Bx} {x0 y0 x1 y1:Int} (ha:W.heap[ka]?=some (bxO a)) (hf:W.heap[kf]?=some (boO f)) (hne:ka≠kf) (hb:Below w.heap.size w W):
  Ending.returned (.tuple #[])= .returned (.tuple #[])∧TkM ((putW W ka 0 [.int .i64 x0, .int .i64 y0, .int .i64 x1, .int .i64 y1]).setCell ⟨kf,0,none⟩ (.bool true)) ka kf (some ⟨x0,y0,x1,y1⟩)∧Keep (fun k=>k≠ka∧k≠kf) w ((putW W ka 0 [.int .i64 x0, .int .i64 y0, .int .i64 x1, .int .i64 y1]).setCell ⟨kf,0,none⟩ (.bool true)):=by
 refine ⟨rfl,⟨(far0 hne).trans (putW_all _ ha rfl),set_at _ ((putW_far (Ne.symm hne) _).trans hf)⟩,?_⟩
 exact ((Keep.of_below hb).trans (putW_keep (fun h=>h.1 rfl) _)).trans (Keep.set (fun h=>h.2 rfl) _)
set_option maxHeartbeats 6400000 in
theorem take_c (ka kf:Nat) (hne:ka≠kf) (o:Option Bx) (b:Bx) (w:World) (H:Hid (TkM w ka kf o)):Calls Tryz.prog 215 #[bxV b, .pointer (some ⟨kf,0,none⟩), .pointer (some ⟨ka,0,none⟩)] w fun e w'=>e= .returned (.tuple #[])∧TkM w' ka kf (takeV o b)∧Keep (fun k=>k≠ka∧k≠kf) w w':=by
 obtain ⟨x0,y0,x1,y1⟩:=b
 cases o with
 | none=>
  go_enter Tryz.func215,Tryz.ntmps215
  go_upto_region 1 with fail
  have HA:Hid ((w.alloc (bxO ⟨x0,y0,x1,y1⟩)).heap[w.heap.size]?=some (bxO ⟨x0,y0,x1,y1⟩)):=alloc_new _ _
  have HT:Hid (TkM (w.alloc (bxO ⟨x0,y0,x1,y1⟩)) ka kf none):=H.out.below (bel_alloc _ _)
  have HB:Hid (Below w.heap.size w (w.alloc (bxO ⟨x0,y0,x1,y1⟩))):=bel_alloc _ _
  generalize w.alloc (bxO ⟨x0,y0,x1,y1⟩)=W at HA HT HB⊢
  have HF:Hid (∀i,W.frozen? ⟨kf,i,none⟩=false):=(bo_at HT.out.f).2
  obtain ⟨f0,f1⟩:=bo_at HT.out.f
  obtain ⟨a0,a1,a2,a3⟩:=bx_at HA.out
  have g:=cells_f0 HT.out.a
  obtain ⟨e0,e1,e2,e3⟩:=bx_at (show W.heap[ka]?=some (bxO ⟨0,0,0,0⟩) from HT.out.a)
  have hk1:=lt_of_heap HT.out.a
  have hk2:=lt_of_heap HT.out.f
  go_wp2_with fail
  refine bodyPost_end (results_none rfl _ _ _) rfl ?_
  exact take_end HT.out.a HT.out.f hne HB.out
 | some a=>
  obtain ⟨u0,v0,u1,v1⟩:=a
  go_enter Tryz.func215,Tryz.ntmps215
  go_upto_region 1 with fail
  have HA:Hid ((w.alloc (bxO ⟨x0,y0,x1,y1⟩)).heap[w.heap.size]?=some (bxO ⟨x0,y0,x1,y1⟩)):=alloc_new _ _
  have HT:Hid (TkM (w.alloc (bxO ⟨x0,y0,x1,y1⟩)) ka kf (some ⟨u0,v0,u1,v1⟩)):=H.out.below (bel_alloc _ _)
  have HB:Hid (Below w.heap.size w (w.alloc (bxO ⟨x0,y0,x1,y1⟩))):=bel_alloc _ _
  generalize w.alloc (bxO ⟨x0,y0,x1,y1⟩)=W at HA HT HB⊢
  obtain ⟨f0,f1⟩:=bo_at HT.out.f
  obtain ⟨a0,a1,a2,a3⟩:=bx_at HA.out
  obtain ⟨e0,e1,e2,e3⟩:=bx_at (show W.heap[ka]?=some (bxO ⟨u0,v0,u1,v1⟩) from HT.out.a)
  have ga:=cells_f0 HA.out
  go_upto_region 3 with fail
  have hka:=lt_of_heap H.out.a
  have hkf:=lt_of_heap H.out.f
  obtain ⟨W2,hW2⟩:∃W2,putW W w.heap.size 0 [.int .i64 (min u0 x0), .int .i64 (min v0 y0), .int .i64 (max u1 x1), .int .i64 (max v1 y1)]=W2:=⟨_,rfl⟩
  have HA2:Hid (W2.heap[w.heap.size]?=some (bxO ⟨min u0 x0,min v0 y0,max u1 x1,max v1 y1⟩)):=by show _=_;rw [←hW2];exact putW_all _ HA.out rfl
  have HB2:Hid (Below w.heap.size w W2):=by show Below _ _ _;rw [←hW2];exact putW_below (Nat.le_refl _) _ HB.out
  have HTa:Hid (W2.heap[ka]?=some (bxO ⟨u0,v0,u1,v1⟩)):=by show _=_;rw [←hW2,putW_far (by omega)];exact HT.out.a
  have HTf:Hid (W2.heap[kf]?=some (boO true)):=by show _=_;rw [←hW2,putW_far (by omega)];exact HT.out.f
  change Code.wp _ _ _ _ (putW W w.heap.size 0 [.int .i64 (min u0 x0), .int .i64 (min v0 y0), .int .i64 (max u1 x1), .int .i64 (max v1 y1)])
  rw [hW2]
  clear hW2 f0 f1 a0 a1 a2 a3 e0 e1 e2 e3 ga
  obtain ⟨f0,f1⟩:=bo_at HTf.out
  obtain ⟨a0,a1,a2,a3⟩:=bx_at HA2.out
  have g:=cells_f0 HTa.out
  obtain ⟨e0,e1,e2,e3⟩:=bx_at HTa.out
  have hk1:=lt_of_heap HTa.out
  have hk2:=lt_of_heap HTf.out
  go_wp2_with fail
  refine bodyPost_end (results_none rfl _ _ _) rfl ?_
  exact take_end HTa.out HTf.out hne HB2.out
end Go.Proofs.YtfldplmgkeiimaaGreatDoor.VW
