/-
  Several texts of this proof in one: Ql, Qn, Qd.
-/
import Derived.Test.YtfldplmgkeiimaaGreatDoorQ10
import Derived.Deep.RegionHeld3
import Derived.Test.YtfldplmgkeiimaaGreatDoorQ4
import Derived.Lib.MinMax
set_option linter.unusedVariables false
set_option linter.unusedSimpArgs false
namespace Go.Proofs.YtfldplmgkeiimaaGreatDoor.VW
open Go.RowKit Go.Proofs.YtfldplmgkeiimaaGreatDoor.Vp
structure RcM (S:Nat→Prop) (w0:World) (g:Nat) (os:List Ob) (es:List (Bx × Bool)) (vo ve:Value) (x:World):Prop where
 res:x.heap[g]?=some (.cells #[.slice none 0 0, .slice none 0 0] tGrp)
 n:NrM S w0 (g+1) os es vo ve x
theorem RcM.below {S:Nat→Prop} {w0:World} {g:Nat} {os:List Ob} {es:List (Bx × Bool)} {vo ve:Value} {x y:World} (h:RcM S w0 g os es vo ve x) (hb:Below x.heap.size x y):RcM S w0 g os es vo ve y:=⟨one_below h.res hb,h.n.below hb⟩
theorem RcM.pushO {S:Nat→Prop} {w0:World} {g:Nat} {os:List Ob} {es:List (Bx × Bool)} {vo ve vo':Value} {X y:World} {xs:List Value} {d:Bool} {bs:Bs} {s:Ps} {pl:Option Addr} {cl:Nat} {pp:Option Addr} {cp:Nat} {V:List Value}
  (h:RcM S w0 g os es vo ve X) (hxs:X.ownsRow (g+1+1) tOb 11 vo os.length xs) (hp:PartsAt S X (obP os) xs) (hS:∀k,S k→k < g+1) (hR:w0.heap.size≤g)
  (hg:X.grownBy y vo.ownBlock) (hV:V= .bool d :: shVs bs (.slice pl bs.l.length cl) (.slice pp s.len cp)) (hown:y.ownsRow (g+1+1) tOb 11 vo' (os.length+1) (xs++V)) (hb:ShIn S X pl cl pp cp ⟨bs,s⟩):
  RcM S w0 g (os++ [(d,⟨bs,s⟩)]) es vo' ve (y.setCell ⟨g+1,0,none⟩ vo'):=by
 subst hV
 exact ⟨far_grown hxs hg (by omega) (by omega) h.res,NrM.pushO (x:=X) h.n.r hxs hp h.n.e h.n.bel hS (by omega) hg hown hb⟩
theorem RcM.pushE {S:Nat→Prop} {w0:World} {g:Nat} {os:List Ob} {es:List (Bx × Bool)} {vo ve ve':Value} {X y:World} {c:Bx} {a:Bool}
  (h:RcM S w0 g os es vo ve X) (hS:∀k,S k→k < g+1) (hR:w0.heap.size≤g)
  (hg:X.grownBy y ve.ownBlock) (hown:y.ownsRow (g+1+1) tExt 5 ve' (es.length+1) (exsV es++exVs c a)):
  RcM S w0 g os (es++ [(c,a)]) vo ve' (y.setCell ⟨g+1,1,none⟩ ve'):=
 ⟨far_grown h.n.e hg (by omega) (by omega) h.res,h.n.pushE hS (by omega) hg hown⟩
theorem reachO_snoc (l:List Ob) (x:Ob) (o:Option Bx) (h:boundsS x.2=o):reachO (l++ [x])=o.elim (reachO l) (fun b=>reachO l++ [⟨x,b,hasBarS x.2⟩]):=by
 unfold reachO
 rw [List.filterMap_append]
 cases o <;> simp [h]
theorem reachO_le (l:List Ob):(reachO l).length≤l.length:=List.length_filterMap_le _ _
abbrev RcS (W:World) (row:Option Nat) (R Bk D:Nat) (ve:Value) (bb:Bx) (ob:Bs) (pl:Option Addr) (nl cl:Nat) (pp:Option Addr) (mp cp:Nat) (Z:World):Prop:=
 Z.cell? ⟨R,1,none⟩=some (ve)∧Z.cell? ⟨Bk,0,none⟩=some (.int .i64 bb.x0)∧Z.cell? ⟨Bk,1,none⟩=some (.int .i64 bb.y0)∧Z.cell? ⟨Bk,2,none⟩=some (.int .i64 bb.x1)∧Z.cell? ⟨Bk,3,none⟩=some (.int .i64 bb.y1)∧Z.cell? ⟨D,1,none⟩=some (.int .i64 ob.k)∧Z.cell? ⟨D,2,none⟩=some (.int .i64 ob.a.1)∧Z.cell? ⟨D,3,none⟩=some (.int .i64 ob.a.2)∧Z.cell? ⟨D,4,none⟩=some (.int .i64 ob.b.1)∧Z.cell? ⟨D,5,none⟩=some (.int .i64 ob.b.2)∧Z.cell? ⟨D,6,none⟩=some (.int .i64 ob.c.1)∧Z.cell? ⟨D,7,none⟩=some (.int .i64 ob.c.2)∧Z.cell? ⟨D,8,none⟩=some (.int .i64 ob.r)∧Z.cell? ⟨D,9,none⟩=some (.slice pl nl cl)∧Z.cell? ⟨D,10,none⟩=some (.slice pp mp cp)∧Z.frozen? ⟨R,1,none⟩=false∧Keep (fun k=>some k≠row) W Z
theorem rcs_of {W Z:World} {row:Option Nat} {R Bk D:Nat} {vo ve:Value} {bb:Bx} {od:Bool} {ob:Bs} {pl:Option Addr} {nl cl:Nat} {pp:Option Addr} {mp cp:Nat} (hr:W.heap[R]?=some (.cells #[vo,ve] tGrp)) (hb:W.heap[Bk]?=some (bxO bb)) (hd:W.heap[D]?=some (.cells #[.bool od, .int .i64 ob.k, .int .i64 ob.a.1, .int .i64 ob.a.2, .int .i64 ob.b.1, .int .i64 ob.b.2, .int .i64 ob.c.1, .int .i64 ob.c.2, .int .i64 ob.r, .slice pl nl cl, .slice pp mp cp] tOb)) (n1:some R≠row) (n2:some Bk≠row) (n3:some D≠row) (hk:Keep (fun k=>some k≠row) W Z):
  RcS W row R Bk D ve bb ob pl nl cl pp mp cp Z:=by
 have h1:=hk.get n1 hr
 have h2:=hk.get n2 hb
 have h3:=hk.get n3 hd
 exact ⟨cell_of h1 rfl,cell_of h2 rfl,cell_of h2 rfl,cell_of h2 rfl,cell_of h2 rfl,cell_of h3 rfl,cell_of h3 rfl,cell_of h3 rfl,cell_of h3 rfl,cell_of h3 rfl,cell_of h3 rfl,cell_of h3 rfl,cell_of h3 rfl,cell_of h3 rfl,cell_of h3 rfl,cells_f0 h1 1,hk⟩
set_option maxRecDepth 100000 in
set_option maxHeartbeats 12800000 in
theorem reach_g (S:Nat→Prop) (l:List Ob) (hl:∀o∈l,Nice o.2) (p:Option Addr) (n c:Nat) (hn:n=l.length) (w:World) (H:Hid (ObsIn S w p l)):
  Calls Tryz.prog 84 #[.slice p n c] w fun e w'=>∃p' c' q' d',e= .returned (.agg (grCs p' (reachO l).length c' q' d'))∧GrpIn (fun k=>S k∨w.heap.size≤k) w' p' q' (reachO l)∧Below w.heap.size w w':=by
 have hbig:n≤1000000000:=by rw [hn];exact H.out.1
 have HN:=Lib.hid hn
 have HL:=Lib.hid hl
 have HG:Hid (ObsIn (fun k=>S k∧k < w.heap.size) w p l):=H.out.mono (fun k h1 h2=>⟨h2,h1⟩)
 obtain ⟨S0,hS0⟩:∃S0:Nat→Prop,(fun k=>S k∧k < w.heap.size)=S0:=⟨_,rfl⟩
 have HS0:Hid (∀k,S0 k→S k):=by rw [←hS0];exact fun k h=>h.1
 have HS2:Hid (∀k,S0 k→k < w.heap.size):=by rw [←hS0];exact fun k h=>h.2
 have HS1:Hid (∀k,S0 k→k < w.heap.size+1):=fun k h=>Nat.lt_succ_of_lt (HS2.out k h)
 rw [hS0] at HG
 clear hn hl hS0 H
 go_enter Tryz.func84,Tryz.ntmps84
 go_upto_region 2 with fail
 obtain ⟨W,hW⟩:∃W,(w.alloc (.cells #[.slice none 0 0, .slice none 0 0] tGrp)).alloc (.cells #[.slice none 0 0, .slice none 0 0] tGrp)=W:=⟨_,rfl⟩
 have HM:Hid (RcM S0 w w.heap.size [] [] (.slice none 0 0) (.slice none 0 0) W):=by
  have h1:W.heap[w.heap.size]?=some (.cells #[.slice none 0 0, .slice none 0 0] tGrp):=by rw [←hW];exact one_below (alloc_new _ _) (bel_alloc _ _)
  have h2:W.heap[w.heap.size+1]?=some (.cells #[.slice none 0 0, .slice none 0 0] tGrp):=by rw [←hW];exact second_new _ _ _
  exact ⟨h1,h2,⟨[],⟨rfl, .inl ⟨rfl,rfl⟩⟩,trivial⟩,⟨rfl, .inl ⟨rfl,rfl⟩⟩,by rw [←hW];exact bel2 _ _ _⟩
 rw [hW]
 clear hW
 go_wp2_with fail
 go_loopw [10] (fun i wr=>∃(j:Nat) (vo ve:Value) (wy:World),wy=wr∧j≤n∧i= .int .i64 j∧Hid (RcM S0 w w.heap.size (nObs (reachO (l.take j))) (nExs (reachO (l.take j))) vo ve wy)) (fun i _=>n -(intOf i).toNat)
 case atStart=>exact ⟨0,_,_,_,rfl,Nat.zero_le _,rfl,HM.out⟩
 case round=>
 obtain ⟨j,vo,ve,wy,rfl,hj,rfl,HB⟩:=hrel
 clear HM
 obtain ⟨OS,hos⟩:∃O,nObs (reachO (l.take j))=O:=⟨_,rfl⟩
 obtain ⟨ES,hes⟩:∃E,nExs (reachO (l.take j))=E:=⟨_,rfl⟩
 rw [hos,hes] at HB
 have HOS:=Lib.hid hos.symm
 have HES:=Lib.hid hes.symm
 clear hos hes
 by_cases hlt:j < n
 ·have hlt2:j < l.length:=by rw [←HN.out];exact hlt
  have hlti:(j:Int)<(n:Int):=by omega
  obtain ⟨⟨od,⟨ob,os⟩⟩,hq⟩:∃e,l[j]=e:=⟨_,rfl⟩
  have HNi:=Lib.hid (HL.out (od,⟨ob,os⟩) (by rw [←hq];exact List.getElem_mem _))
  obtain ⟨kb,ko,pl,cl,pp,cp,rfl,hkb,_,hsh,c0,c1,c2,c3,c4,c5,c6,c7,c8,c9,c10⟩:=HG.out.at hlt2 hq
  have HSH:=Lib.hid hsh
  obtain ⟨o,ho⟩:∃o,boundsS ⟨ob,os⟩=o:=⟨_,rfl⟩
  obtain ⟨hb0,hhb⟩:∃o,hasBarS ⟨ob,os⟩=o:=⟨_,rfl⟩
  have HBO:=Lib.hid ho
  have HHB:=Lib.hid hhb
  have HSN:=Lib.hid (reachO_snoc (l.take j) (od,⟨ob,os⟩) o ho)
  have HTK:Hid (l.take (j+1)=l.take j++ [(od,⟨ob,os⟩)]):=by show _=_;rw [List.take_succ_eq_append_getElem hlt2,hq]
  obtain ⟨nl,hnl⟩:∃n,ob.l.length=n:=⟨_,rfl⟩
  obtain ⟨mp,hmp⟩:∃n,os.len=n:=⟨_,rfl⟩
  have HNL:=Lib.hid hnl
  have HMP:=Lib.hid hmp
  have hcB:Hid (∀Z,Below w.heap.size w Z→Calls Tryz.prog 122 #[.agg #[.int .i64 ob.k, .int .i64 ob.a.1, .int .i64 ob.a.2, .int .i64 ob.b.1, .int .i64 ob.b.2, .int .i64 ob.c.1, .int .i64 ob.c.2, .int .i64 ob.r, .slice pl nl cl, .slice pp mp cp]] Z fun e w'=>e= .returned (.tuple #[bxV (o.getD bx0), .bool o.isSome])∧Below Z.heap.size Z w'):=by
   intro Z hZ
   rw [←hnl,←hmp]
   exact Bounds_c S0 ob os HNi.out pl cl pp cp Z (Lib.hid (HSH.out.below hZ)) o HBO
  have hcH:Hid (∀Z,Calls Tryz.prog 123 #[.agg #[.int .i64 ob.k, .int .i64 ob.a.1, .int .i64 ob.a.2, .int .i64 ob.b.1, .int .i64 ob.b.2, .int .i64 ob.c.1, .int .i64 ob.c.2, .int .i64 ob.r, .slice pl nl cl, .slice pp mp cp]] Z fun e w'=>e= .returned (.bool hb0)∧Below Z.heap.size Z w'):=by
   intro Z
   rw [←hnl,←hmp,←hhb]
   exact hasBar_c ob os HNi.out pl cl pp cp Z
  rw [hnl] at c9
  rw [hmp] at c10
  have hbw:=HB.out.n.bel
  have d0:=cell_keep hbw c0
  have d1:=cell_keep hbw c1
  have d2:=cell_keep hbw c2
  have d3:=cell_keep hbw c3
  have d4:=cell_keep hbw c4
  have d5:=cell_keep hbw c5
  have d6:=cell_keep hbw c6
  have d7:=cell_keep hbw c7
  have d8:=cell_keep hbw c8
  have d9:=cell_keep hbw c9
  have d10:=cell_keep hbw c10
  clear c0 c1 c2 c3 c4 c5 c6 c7 c8 c9 c10 hbw hsh hq ho hhb hnl hmp
  go_upto_region 5 with fail
  have HB1:=Lib.hid (HB.out.below (bel_alloc wy (.cells #[.bool od, .int .i64 ob.k, .int .i64 ob.a.1, .int .i64 ob.a.2, .int .i64 ob.b.1, .int .i64 ob.b.2, .int .i64 ob.c.1, .int .i64 ob.c.2, .int .i64 ob.r, .slice pl nl cl, .slice pp mp cp] tOb)))
  have HX1:Hid ((wy.alloc (.cells #[.bool od, .int .i64 ob.k, .int .i64 ob.a.1, .int .i64 ob.a.2, .int .i64 ob.b.1, .int .i64 ob.b.2, .int .i64 ob.c.1, .int .i64 ob.c.2, .int .i64 ob.r, .slice pl nl cl, .slice pp mp cp] tOb)).heap[wy.heap.size]?=some (.cells #[.bool od, .int .i64 ob.k, .int .i64 ob.a.1, .int .i64 ob.a.2, .int .i64 ob.b.1, .int .i64 ob.b.2, .int .i64 ob.c.1, .int .i64 ob.c.2, .int .i64 ob.r, .slice pl nl cl, .slice pp mp cp] tOb)):=alloc_new _ _
  generalize wy.alloc (.cells #[.bool od, .int .i64 ob.k, .int .i64 ob.a.1, .int .i64 ob.a.2, .int .i64 ob.b.1, .int .i64 ob.b.2, .int .i64 ob.c.1, .int .i64 ob.c.2, .int .i64 ob.r, .slice pl nl cl, .slice pp mp cp] tOb)=W1 at HB1 HX1⊢
  obtain ⟨D,hD⟩:∃D,wy.heap.size=D:=⟨_,rfl⟩
  have HVL:Hid (∀k,vo.ownBlock=some k→k < D):=by
   obtain ⟨xs0,hx0,_⟩:=HB.out.n.o
   intro k hk
   rw [←hD]
   exact (hx0.lt k hk).2
  rw [hD] at HX1⊢
  clear d0 d1 d2 d3 d4 d5 d6 d7 d8 d9 d10 hD HB
  obtain ⟨d0,d1,d2,d3,d4,d5,d6,d7,d8,d9,d10⟩:=ob_at HX1.out
  go_wp2_with fail
  with_reducible refine (hcB.out _ HB1.out.n.bel).mono ?_
  rintro e W2 ⟨rfl,hb⟩
  have HB2:=Lib.hid (HB1.out.below hb)
  have HX2:=Lib.hid (one_below HX1.out hb)
  clear d0 d1 d2 d3 d4 d5 d6 d7 d8 d9 d10 hb HX1 HB1 hcB
  cases o with
  | none=>
   have HF:Hid (reachO (l.take (j+1))=reachO (l.take j)):=by show _=_;rw [HTK.out,HSN.out];rfl
   go_wp2_with fail
   have HB3:=Lib.hid (HB2.out.below (bel_alloc W2 (bxO bx0)))
   go_round <;> first | exact ⟨j+1,_,_,_,rfl,by omega,by go_num,by rw [HF.out,←HOS.out,←HES.out];exact HB3.out⟩|(simp [intOf] <;> omega)
  | some bb=>
   have HF:Hid (reachO (l.take (j+1))=reachO (l.take j)++ [⟨(od,⟨ob,os⟩),bb,hb0⟩]):=by show _=_;rw [HTK.out,HSN.out,←HHB.out];rfl
   go_upto_region 7 with fail
   have HB3:=Lib.hid (HB2.out.below (bel_alloc W2 (bxO bb)))
   have HX3:=Lib.hid (one_below HX2.out (bel_alloc W2 (bxO bb)))
   have HK3:Hid ((W2.alloc (bxO bb)).heap[W2.heap.size]?=some (bxO bb)):=alloc_new _ _
   change Code.wp _ _ _ _ (W2.alloc (bxO bb))
   generalize W2.alloc (bxO bb)=W3 at HB3 HX3 HK3⊢
   obtain ⟨Bk,hBk⟩:∃B,W2.heap.size=B:=⟨_,rfl⟩
   rw [hBk] at HK3⊢
   clear hBk HB2 HX2
   obtain ⟨xs,hown0,hp0⟩:=HB3.out.n.o
   obtain ⟨pw,capw,rfl⟩:=row_form hown0
   obtain ⟨pv,capv,rfl⟩:=row_form HB3.out.n.e
   obtain ⟨m,hm⟩:∃m,OS.length=m:=⟨_,rfl⟩
   obtain ⟨m2,hm2⟩:∃m,ES.length=m:=⟨_,rfl⟩
   have hmb:m≤1000000000:=by rw [←hm,HOS.out,List.length_map];have:=reachO_le (l.take j);rw [List.length_take] at this;omega
   have hmb2:m2≤1000000000:=by rw [←hm2,HES.out,List.length_map];have:=reachO_le (l.take j);rw [List.length_take] at this;omega
   have HMm:=Lib.hid hm
   have HM2:=Lib.hid hm2
   have HOW:Hid (W3.ownsRow (w.heap.size+1+1) tOb 11 (.slice pw OS.length capw) OS.length xs):=hown0
   have HPP:=Lib.hid hp0
   have hwle:=HB3.out.n.bel.size
   have hRlt:=lt_of_heap HB3.out.n.r
   have HXX:=Lib.hid (HB3.out.below (bel_alloc W3 (.cells #[.bool od, .int .i64 ob.k, .int .i64 ob.a.1, .int .i64 ob.a.2, .int .i64 ob.b.1, .int .i64 ob.b.2, .int .i64 ob.c.1, .int .i64 ob.c.2, .int .i64 ob.r, .slice pl nl cl, .slice pp mp cp] tOb)))
   rw [hm,hm2] at HB3 HXX
   rw [hm] at HOW HVL
   have HXO:Hid ((W3.alloc (.cells #[.bool od, .int .i64 ob.k, .int .i64 ob.a.1, .int .i64 ob.a.2, .int .i64 ob.b.1, .int .i64 ob.b.2, .int .i64 ob.c.1, .int .i64 ob.c.2, .int .i64 ob.r, .slice pl nl cl, .slice pp mp cp] tOb)).ownsRow (w.heap.size+1+1) tOb 11 (.slice pw m capw) m xs):=HOW.out.alloc _
   have hkey:∀(w4:World),(W3.alloc (.cells #[.bool od, .int .i64 ob.k, .int .i64 ob.a.1, .int .i64 ob.a.2, .int .i64 ob.b.1, .int .i64 ob.b.2, .int .i64 ob.c.1, .int .i64 ob.c.2, .int .i64 ob.r, .slice pl nl cl, .slice pp mp cp] tOb)).grownBy w4 (Value.slice pw m capw).ownBlock→w4.cell? ⟨w.heap.size+1,0,none⟩=some (.slice pw m capw)∧w4.frozen? ⟨w.heap.size+1,0,none⟩=false:=by
    intro w4 hg4
    have h1:=(hg4.block _ (lt_of_heap HXX.out.n.r) (fun e=>by have:=(HXO.out.lt _ e.symm).1;omega)).trans HXX.out.n.r
    exact ⟨(gr_at h1).1,cells_f0 h1 0⟩
   clear hown0 hp0 hm hm2
   obtain ⟨i0,hi,hz0,hz1,hz2⟩:=info_parts info_ob
   have HI:=Lib.hid (And.intro hi (And.intro hz0 (And.intro hz1 hz2)))
   clear hi hz0 hz1 hz2
   obtain ⟨r0,r1⟩:=gr_at HB3.out.n.r
   have fr:=cells_f0 HB3.out.n.r
   obtain ⟨d0,d1,d2,d3,d4,d5,d6,d7,d8,d9,d10⟩:=ob_at HX3.out
   have hDlt:=lt_of_heap HX3.out
   go_upto_region 8 with (at_builtin;refine wpList_append_lies _ rfl _ _ _ rfl (w.heap.size+1+1) tOb i0 zOb 11 120 Tryz.underlying47 HI.out.1 HI.out.2.1 HI.out.2.2.1 HI.out.2.2.2 rfl (by omega) (.slice pw m capw) m _ (by rfl) HXO.out ⟨W3.heap.size,0,none⟩ 1 1 [.bool od, .int .i64 ob.k, .int .i64 ob.a.1, .int .i64 ob.a.2, .int .i64 ob.b.1, .int .i64 ob.b.2, .int .i64 ob.c.1, .int .i64 ob.c.2, .int .i64 ob.r, .slice pl nl cl, .slice pp mp cp] (by rfl) (by rfl) (World.news_of_block (cs:= #[.bool od, .int .i64 ob.k, .int .i64 ob.a.1, .int .i64 ob.a.2, .int .i64 ob.b.1, .int .i64 ob.b.2, .int .i64 ob.c.1, .int .i64 ob.c.2, .int .i64 ob.r, .slice pl nl cl, .slice pp mp cp]) (t:=tOb) (fr:=(0,0)) (heap_alloc_new W3 _)) (by simp [Value.oneCell']) (by omega) (by unfold maxLen;omega) (by omega) (by simp;omega) (W3.heap.size+1) (by simp) ?_;intro gg cap2 w4 hown hgrow hat hltt;obtain ⟨q1,q2⟩:=hkey w4 hgrow)
   have HB4:=Lib.hid (RcM.pushO (d:=od) (bs:=ob) (s:=os) (pl:=pl) (cl:=cl) (pp:=pp) (cp:=cp) HXX.out (by rw [HMm.out];exact HXO.out) (HPP.out.below (bel_alloc W3 (.cells #[.bool od, .int .i64 ob.k, .int .i64 ob.a.1, .int .i64 ob.a.2, .int .i64 ob.b.1, .int .i64 ob.b.2, .int .i64 ob.c.1, .int .i64 ob.c.2, .int .i64 ob.r, .slice pl nl cl, .slice pp mp cp] tOb))) HS1.out (Nat.le_refl _) hgrow (show [.bool od, .int .i64 ob.k, .int .i64 ob.a.1, .int .i64 ob.a.2, .int .i64 ob.b.1, .int .i64 ob.b.2, .int .i64 ob.c.1, .int .i64 ob.c.2, .int .i64 ob.r, .slice pl nl cl, .slice pp mp cp]= .bool od :: shVs ob (.slice pl ob.l.length cl) (.slice pp os.len cp) by rw [HNL.out,HMP.out]) (by rw [HMm.out];exact hown) (HSH.out.below HXX.out.n.bel))
   have hRD:D≠w.heap.size+1:=by
    intro e
    have h3:=HX3.out
    rw [e,HB3.out.n.r] at h3
    injection h3 with h3
    injection h3 with _ h3
    exact absurd h3 (by decide)
   have hRB:Bk≠w.heap.size+1:=by
    intro e
    have h3:=HK3.out
    rw [e,HB3.out.n.r] at h3
    injection h3 with h3
    injection h3 with _ h3
    exact absurd h3 (by decide)
   have HX4:Hid ((w4.setCell ⟨w.heap.size+1,0,none⟩ (.slice (some ⟨gg,0,none⟩) (m+1) cap2)).heap[D]?=some (.cells #[.bool od, .int .i64 ob.k, .int .i64 ob.a.1, .int .i64 ob.a.2, .int .i64 ob.b.1, .int .i64 ob.b.2, .int .i64 ob.c.1, .int .i64 ob.c.2, .int .i64 ob.r, .slice pl nl cl, .slice pp mp cp] tOb)):=by
    have h1:=one_below HX3.out (bel_alloc W3 (.cells #[.bool od, .int .i64 ob.k, .int .i64 ob.a.1, .int .i64 ob.a.2, .int .i64 ob.b.1, .int .i64 ob.b.2, .int .i64 ob.c.1, .int .i64 ob.c.2, .int .i64 ob.r, .slice pl nl cl, .slice pp mp cp] tOb))
    exact (far0 hRD).trans ((hgrow.block D (lt_of_heap h1) (fun e=>Nat.lt_irrefl _ (HVL.out D e.symm))).trans h1)
   have HK4:Hid ((w4.setCell ⟨w.heap.size+1,0,none⟩ (.slice (some ⟨gg,0,none⟩) (m+1) cap2)).heap[Bk]?=some (bxO bb)):=by
    have h1:=one_below HK3.out (bel_alloc W3 (.cells #[.bool od, .int .i64 ob.k, .int .i64 ob.a.1, .int .i64 ob.a.2, .int .i64 ob.b.1, .int .i64 ob.b.2, .int .i64 ob.c.1, .int .i64 ob.c.2, .int .i64 ob.r, .slice pl nl cl, .slice pp mp cp] tOb))
    exact (far0 hRB).trans ((hgrow.block Bk (lt_of_heap h1) (Ne.symm (own_ne HXO.out h1 (by decide)))).trans h1)
   clear hown hgrow hat hltt q1 q2 d0 d1 d2 d3 d4 d5 d6 d7 d8 d9 d10 r0 r1 fr hRlt hDlt
   generalize w4.setCell ⟨w.heap.size+1,0,none⟩ (.slice (some ⟨gg,0,none⟩) (m+1) cap2)=W5 at HB4 HX4 HK4⊢
   obtain ⟨i1,hi,hz0,hz1,hz2⟩:=info_parts info_ex
   have HJ:=Lib.hid (And.intro hi (And.intro hz0 (And.intro hz1 hz2)))
   clear hi hz0 hz1 hz2
   have hsz:=HB4.out.n.bel.size
   have hRE:some (w.heap.size+1)≠(Value.slice pv m2 capv).ownBlock:=fun e=>by have:=(HB4.out.n.e.lt _ e.symm).1;omega
   have hDE:some D≠(Value.slice pv m2 capv).ownBlock:=Ne.symm (own_ne HB4.out.n.e HX4.out (by decide))
   have hBE:some Bk≠(Value.slice pv m2 capv).ownBlock:=Ne.symm (own_ne HB4.out.n.e HK4.out (by decide))
   have HC:Hid (∀Z,Keep (fun k=>some k≠(Value.slice pv m2 capv).ownBlock) W5 Z→RcS W5 (Value.slice pv m2 capv).ownBlock (w.heap.size+1) Bk D (.slice pv m2 capv) bb ob pl nl cl pp mp cp Z):=fun Z hk=>rcs_of (od:=od) HB4.out.n.r HK4.out HX4.out hRE hBE hDE hk
   have HKD:Hid (Keep (fun k=>some k≠(Value.slice pv m2 capv).ownBlock) W5 W5.drew):=Keep.of_below (Below.refl _ _).drew
   have HC0:=Lib.hid (HC.out _ (Keep.refl _ _))
   have HC1:=Lib.hid (HC.out _ HKD.out)
   have HOE:Hid (W5.ownsRow (w.heap.size+1+1) tExt 5 (.slice pv m2 capv) m2 (exsV ES)):=by have:=HB4.out.n.e;rw [HM2.out] at this;exact this
   clear hRE hDE hBE
   have hR5:=lt_of_heap HB4.out.n.r
   have hD5:=lt_of_heap HX4.out
   have hB5:=lt_of_heap HK4.out
   have HNL5:Hid (∀w6,Below W5.drew.heap.size W5.drew w6→w.heap.size+1 < w6.heap.size∧D < w6.heap.size∧Bk < w6.heap.size):=fun w6 h=>by have h1:=h.size;have h2:W5.drew.heap.size=W5.heap.size:=rfl;rw [h2] at h1;exact ⟨by omega,by omega,by omega⟩
   have HKY:Hid (∀w6,Below W5.drew.heap.size W5.drew w6→∀w7,(w6.alloc (.cells #[.int .i64 bb.x0, .int .i64 bb.y0, .int .i64 bb.x1, .int .i64 bb.y1, .bool hb0] tExt)).grownBy w7 (Value.slice pv m2 capv).ownBlock→w7.cell? ⟨w.heap.size+1,1,none⟩=some (.slice pv m2 capv)∧w7.frozen? ⟨w.heap.size+1,1,none⟩=false):=by
    intro w6 h6 w7 h7
    have hk:=HC.out w7 (((HKD.out.trans (Keep.of_below h6)).trans (Keep.alloc _ _ _)).trans (Keep.grown h7 (fun k hk h=>h hk.symm)))
    exact ⟨hk.1,hk.2.2.2.2.2.2.2.2.2.2.2.2.2.2.2.1⟩
   obtain ⟨l0,l1,l2,l3,l4,l5,l6,l7,l8,l9,l10,l11,l12,l13,l14,lf,_⟩:=HC0.out
   go_region_law (first |(refine step_append_lies _ (by rfl) _ _ _ (by rfl) (w.heap.size+1+1) tExt i1 zEx 5 40 Tryz.underlying199 HJ.out.1 HJ.out.2.1 HJ.out.2.2.1 HJ.out.2.2.2 rfl (by omega) (.slice pv m2 capv) m2 _ (by rfl) ((row_below (row_below HOE.out (Below.refl _ _).drew) hb6).alloc _) ⟨w6.heap.size,0,none⟩ 1 1 [.int .i64 bb.x0, .int .i64 bb.y0, .int .i64 bb.x1, .int .i64 bb.y1, .bool hb0] (by rfl) (by rfl) (World.news_of_block (cs:= #[.int .i64 bb.x0, .int .i64 bb.y0, .int .i64 bb.x1, .int .i64 bb.y1, .bool hb0]) (t:=tExt) (fr:=(0,0)) (heap_alloc_new w6 _)) (by simp [Value.oneCell']) (by omega) (by unfold maxLen;omega) (by omega) (by simp;omega) (w6.heap.size+1) (by simp) ?_;intro ge cape w7 hown hgrow hat hltt;obtain ⟨q1,q2⟩:=HKY.out w6 hb6 w7 hgrow)|(rw [if_pos (by rfl)];go_simp;go_at_call 123;with_reducible refine (hcH.out _).mono ?_;rintro e w6 ⟨rfl,hb6⟩;obtain ⟨k0,k1,k2,k3,k4,k5,k6,k7,k8,k9,k10,k11,k12,k13,k14,kf,_⟩:=HC.out w6 (HKD.out.trans (Keep.of_below hb6));obtain ⟨j1,j2,j3⟩:=HNL5.out w6 hb6))
   all_goals
    have HYY:=Lib.hid (((HB4.out.below (Below.refl _ _).drew).below hb6).below (bel_alloc w6 (.cells #[.int .i64 bb.x0, .int .i64 bb.y0, .int .i64 bb.x1, .int .i64 bb.y1, .bool hb0] tExt)))
    have HB6:=Lib.hid (RcM.pushE (c:=bb) (a:=hb0) HYY.out HS1.out (Nat.le_refl _) hgrow (by rw [HM2.out];exact hown))
    have e1:nObs (reachO (l.take (j+1)))=OS++ [(od,⟨ob,os⟩)]:=by rw [HF.out,nObs,List.map_append,HOS.out];rfl
    have e2:nExs (reachO (l.take (j+1)))=ES++ [(bb,hb0)]:=by rw [HF.out,nExs,List.map_append,HES.out];rfl
    rw [←e1,←e2] at HB6
    clear hown hgrow hat hltt q1 q2 k0 k1 k2 k3 k4 k5 k6 k7 k8 k9 k10 k11 k12 k13 k14 kf j1 j2 j3 l0 l1 l2 l3 l4 l5 l6 l7 l8 l9 l10 l11 l12 l13 l14 lf
    generalize w7.setCell ⟨w.heap.size+1,1,none⟩ (.slice (some ⟨ge,0,none⟩) (m2+1) cape)=W8 at HB6⊢
    go_wp2_with fail
    go_round <;> first | exact ⟨j+1,_,_,_,rfl,by omega,by go_num,HB6.out⟩|(simp [intOf] <;> omega)
 ·have hje:j=n:=by omega
  subst hje
  have HT:Hid (l.take j=l):=by show _=_;rw [HN.out];exact List.take_length
  rw [HT.out] at HOS HES
  have hfin:=HB.out.n
  rw [HOS.out,HES.out] at hfin
  obtain ⟨p',c',q',d',hvo,hve,hgr⟩:=hfin.done (R':=fun k=>S0 k∨w.heap.size+1+1≤k) (by have h1:=reachO_le l;have h2:=HN.out;show _≤1000000000;omega) (fun k h=> .inl h) (fun k h=> .inr h)
  have HGR:=Lib.hid hgr
  obtain ⟨L,hL⟩:∃L,(reachO l).length=L:=⟨_,rfl⟩
  have HLn:=Lib.hid hL
  rw [hL] at hvo hve
  subst hvo hve
  clear hfin hgr hL
  obtain ⟨r0,r1⟩:=gr_at HB.out.n.r
  obtain ⟨u0,u1⟩:=gr_at HB.out.res
  have fu:=cells_f0 HB.out.res
  go_wp2_with fail
  have hrr:=putW_all [.slice p' L c', .slice q' L d'] HB.out.res rfl
  have hb:=putW_below (m:=0) (b:=w.heap.size) (Nat.le_refl _) [.slice p' L c', .slice q' L d'] HB.out.n.bel
  refine bodyPost_ret (results_cell_row rfl _ _ w.heap.size _ _ _ _ rfl hrr Tryz.underlying201 rfl (by kernel_rfl)) rfl ⟨p',c',q',d',by rw [HLn.out],?_,hb⟩
  refine (HGR.out.keep (putW_keep (S:=fun k=>S0 k∨w.heap.size+1+1≤k) (b:=w.heap.size) (m:=0) (fun h=>?_) [.slice p' L c', .slice q' L d'])).mono (fun k _ h=>?_)
  ·rcases h with h | h
   ·have:=HS2.out _ h;omega
   ·omega
  ·rcases h with h | h
   ·exact .inl (HS0.out k h)
   ·exact .inr (by omega)
end Go.Proofs.YtfldplmgkeiimaaGreatDoor.VW
namespace Go.Proofs.YtfldplmgkeiimaaGreatDoor.Vp
def exF (d:Nat) (g:List Ex) (s:Option Cv × Int) (q:Bx):Option Cv × Int:=match s with
 |(none,m)=>(none,m)
 |(some c,m)=>match examV d (nearE g q) q m with
  |(none,m)=>(none,m)
  |(some e,m)=>(some (c.1+e.1,c.2+e.2),m)
theorem exF_none (d:Nat) (g:List Ex) (m:Int) (q:Bx):exF d g (none,m) q=(none,m):=rfl
theorem exF_nones (d:Nat) (g:List Ex) (m:Int):∀l:List Bx,l.foldl (exF d g) (none,m)=(none,m)
 | []=>rfl
 | q :: l=>by rw [List.foldl_cons,exF_none];exact exF_nones d g m l
theorem exF_no {d:Nat} {g:List Ex} {c:Cv} {m m':Int} {q:Bx} (h:examV d (nearE g q) q m=(none,m')):exF d g (some c,m) q=(none,m'):=by
 simp only [exF,h]
theorem exF_yes {d:Nat} {g:List Ex} {c e:Cv} {m m':Int} {q:Bx} (h:examV d (nearE g q) q m=(some e,m')):exF d g (some c,m) q=(some (c.1+e.1,c.2+e.2),m'):=by
 simp only [exF,h]
theorem examV_step (d:Nat) (g:List Ex) (b:Bx) (m:Int):examV (d+1) g b m=if m≤0 then (none,m - 1) else
 if pileC (g.map Ex.o) b=0 then (some (0,0),m - 1)
 else if pileC (g.map Ex.o) b=2 then (some (4 ^(d+1),4 ^(d+1)),m - 1)
 else (splitB b).foldl (exF d g) (some (0,0),m - 1):=rfl
theorem examV_zero (g:List Ex) (b:Bx) (m:Int):examV 0 g b m=if m≤0 then (none,m - 1) else
 (some (if pileC (g.map Ex.o) b=0 then (0,0) else if pileC (g.map Ex.o) b=2 then (1,1) else (0,1)),m - 1):=rfl
theorem foldV_01 (was cls:Int) (add:Bool) (h:0≤was∧was≤2):0≤foldV was cls add∧foldV was cls add≤2:=by
 unfold foldV
 repeat' split
 all_goals omega
theorem pileC_in (l:List Ob) (x:Bx):0≤pileC l x∧pileC l x≤2:=by
 unfold pileC
 have key:∀(l:List Ob) (k:Int),0≤k∧k≤2→0≤l.foldl (fun k o=>foldV k (classV x o.2) o.1) k∧l.foldl (fun k o=>foldV k (classV x o.2) o.1) k≤2:=by
  intro l
  induction l with
  | nil=>intro k h;exact h
  | cons a l ih=>intro k h;rw [List.foldl_cons];exact ih _ (foldV_01 _ _ _ h)
 exact key l 0 (by decide)
def CvIn (k:Int) (c:Cv):Prop:=0≤c.1∧c.1≤c.2∧c.2≤k
theorem exF_in (d:Nat) (g:List Ex) (P:Int) (hP:0≤P) (ih:∀q m c m',examV d (nearE g q) q m=(some c,m')→CvIn P c∧0≤m'∧m' < m):∀(l:List Bx) (K:Int) (c:Cv) (m:Int) (r:Cv) (m':Int),CvIn K c→0≤m→l.foldl (exF d g) (some c,m)=(some r,m')→CvIn (K+l.length *P) r∧0≤m'∧m'≤m
 | [],K,c,m,r,m',hc,hm,h=>by
  simp only [List.foldl_nil,Prod.mk.injEq,Option.some.injEq] at h
  obtain ⟨rfl,rfl⟩:=h
  simp only [List.length_nil]
  exact ⟨by unfold CvIn at hc⊢;omega,hm,Int.le_refl _⟩
 | q :: l,K,c,m,r,m',hc,hm,h=>by
  rw [List.foldl_cons] at h
  cases he:examV d (nearE g q) q m with
  | mk o m1=>
   cases o with
   | none=>
    rw [exF_no he,exF_nones] at h
    simp at h
   | some e=>
    rw [exF_yes he] at h
    obtain ⟨h1,h2,h3⟩:=ih q m e m1 he
    have hc2:CvIn (K+P) (c.1+e.1,c.2+e.2):=by unfold CvIn at hc h1⊢;simp only;omega
    obtain ⟨h4,h5,h6⟩:=exF_in d g P hP ih l (K+P) _ m1 r m' hc2 h2 h
    refine ⟨?_,h5,by omega⟩
    have:K+((q :: l).length:Int) *P=K+P+(l.length:Int) *P:=by simp only [List.length_cons];grind
    rw [this]
    exact h4
theorem examV_in:∀(d:Nat) (g:List Ex) (b:Bx) (m:Int) (c:Cv) (m':Int),examV d g b m=(some c,m')→CvIn (4 ^ d) c∧0≤m'∧m' < m
 | 0,g,b,m,c,m',h=>by
  rw [examV_zero] at h
  split at h
  ·simp at h
  ·simp only [Prod.mk.injEq,Option.some.injEq] at h
   obtain ⟨rfl,rfl⟩:=h
   refine ⟨?_,by omega,by omega⟩
   unfold CvIn
   repeat' split
   all_goals decide
 | d+1,g,b,m,c,m',h=>by
  have hp:(0:Int)≤4 ^ d:=Int.pow_nonneg (by decide)
  rw [examV_step] at h
  split at h
  ·simp at h
  ·split at h
   ·simp only [Prod.mk.injEq,Option.some.injEq] at h
    obtain ⟨rfl,rfl⟩:=h
    refine ⟨?_,by omega,by omega⟩
    have:(0:Int)≤4 ^(d+1):=Int.pow_nonneg (by decide)
    exact ⟨Int.le_refl _,Int.le_refl _,this⟩
   ·split at h
    ·simp only [Prod.mk.injEq,Option.some.injEq] at h
     obtain ⟨rfl,rfl⟩:=h
     refine ⟨?_,by omega,by omega⟩
     have:(0:Int)≤4 ^(d+1):=Int.pow_nonneg (by decide)
     exact ⟨this,Int.le_refl _,Int.le_refl _⟩
    ·obtain ⟨h1,h2,h3⟩:=exF_in d g (4 ^ d) hp (fun q m c m' h=>examV_in d _ q m c m' h) (splitB b) 0 (0,0) (m - 1) c m' (by unfold CvIn;decide) (by omega) h
     refine ⟨?_,h2,by omega⟩
     have e:(0:Int)+((splitB b).length:Int) *4 ^ d=4 ^(d+1):=by simp only [splitB,List.length_cons,List.length_nil];rw [Int.pow_succ];omega
     rw [e] at h1
     exact h1
theorem half_ok {lo hi:Int} {d:Nat} (h:(hi - lo) % 2 ^(d+1)=0∧0 < hi - lo):((hi - lo) % 2=0)∧0 <(hi - lo)/ 2∧((hi - lo)/ 2) % 2 ^ d=0∧hi -(lo+(hi - lo)/ 2)=(hi - lo)/ 2:=by
 obtain ⟨h1,h2⟩:=h
 obtain ⟨k,hk⟩:=Int.dvd_of_emod_eq_zero h1
 rw [Int.pow_succ] at hk
 have e:hi - lo=2 *(2 ^ d *k):=by rw [hk];grind
 have e2:(hi - lo)/ 2=2 ^ d *k:=by rw [e];exact Int.mul_ediv_cancel_left _ (by decide)
 refine ⟨by omega,by omega,?_,by omega⟩
 rw [e2]
 exact Int.mul_emod_right _ _
end Go.Proofs.YtfldplmgkeiimaaGreatDoor.Vp
namespace Go.Proofs.YtfldplmgkeiimaaGreatDoor.VW
open Go.RowKit Go.Proofs.YtfldplmgkeiimaaGreatDoor.Vp
abbrev toO (t:Int × Int):Obj:= .cells #[.int .i64 t.1, .int .i64 t.2] 107
abbrev toV (t:Int × Int):Value:= .agg #[.int .i64 t.1, .int .i64 t.2]
theorem start_c (c:Int) (w:World):Calls Tryz.prog 41 #[.int .i64 c] w fun e w'=>e= .returned (toV (startV c))∧Below w.heap.size w w':=by
 have hw:IntKind.i64.wrap (65536 *max 0 (min c 255))=65536 *max 0 (min c 255):=IntWalk.i64_in _ (by omega)
 go_enter Tryz.func41,Tryz.ntmps41
 go_wp2_with fail
 exact bodyPost_ret (results_cell_row rfl _ _ w.heap.size _ _ _ _ rfl (alloc_new _ _) Tryz.underlying107 rfl (by kernel_rfl)) rfl ⟨rfl,bel1 _ _⟩
set_option maxHeartbeats 1600000 in
theorem okTone_c (t:Int × Int) (f:Bool) (hf:Hid (okTone t=f)) (w:World):Calls Tryz.prog 66 #[toV t] w fun e w'=>e= .returned (.bool f)∧Below w.heap.size w w':=by
 obtain ⟨a,b⟩:=t
 go_enter Tryz.func66,Tryz.ntmps66
 go_wp2_with fail
 all_goals
  go_ret
  refine ⟨ret_b (bool_eq ⟨fun h=>?_,fun h=>?_⟩ hf.out),bel1 _ _⟩<;> simp only [okTone,Bool.and_eq_true,decide_eq_true_eq,Bool.false_eq_true] at h⊢<;> omega
set_option maxHeartbeats 1600000 in
theorem okCov_c (v:Int × Int) (cells:Int) (f:Bool) (hf:Hid (okCov v cells=f)) (w:World):Calls Tryz.prog 65 #[toV v, .int .i64 cells] w fun e w'=>e= .returned (.bool f)∧Below w.heap.size w w':=by
 obtain ⟨a,b⟩:=v
 go_enter Tryz.func65,Tryz.ntmps65
 go_wp2_with fail
 all_goals
  go_ret
  refine ⟨ret_b (bool_eq ⟨fun h=>?_,fun h=>?_⟩ hf.out),bel1 _ _⟩<;> simp only [okCov,Bool.and_eq_true,decide_eq_true_eq,Bool.false_eq_true] at h⊢<;> omega
theorem to_at {w:World} {k:Nat} {a b:Int} {t:TypeId} (h:w.heap[k]?=some (.cells #[.int .i64 a, .int .i64 b] t)):w.cell? ⟨k,0,none⟩=some (.int .i64 a)∧w.cell? ⟨k,1,none⟩=some (.int .i64 b):=by
 constructor <;> simp [World.cell?,h]
theorem ret_u8 {a b:Int} (h:a=b):Ending.returned (.int .u8 a)= .returned (.int .u8 b):=by rw [h]
set_option maxHeartbeats 3200000 in
theorem byte_c (t:Int × Int) (w:World):Calls Tryz.prog 44 #[toV t] w fun e w'=>e= .returned (.int .u8 (byteV t))∧Below w.heap.size w w':=by
 obtain ⟨a,b⟩:=t
 obtain ⟨f,hf⟩:∃f,okTone (a,b)=f:=⟨_,rfl⟩
 have HF:=Lib.hid hf
 clear hf
 go_enter Tryz.func44,Tryz.ntmps44
 go_wp2_with fail
 have HB:Hid (Below w.heap.size w (w.alloc (toO (a,b)))):=bel1 _ _
 have HA:Hid ((w.alloc (toO (a,b))).heap[w.heap.size]?=some (toO (a,b))):=alloc_new _ _
 generalize w.alloc (toO (a,b))=W at HB HA⊢
 with_reducible refine (okTone_c (a,b) _ HF _).mono ?_
 rintro e V ⟨rfl,hb⟩
 have HV:Hid (Below w.heap.size w V):=HB.out.trans (hb.mono HB.out.size)
 obtain ⟨c0,c1⟩:=to_at (one_below HA.out hb)
 clear hb
 simp only at c0 c1
 cases f with
 | false=>
  go_wp2_with fail
  go_ret
  refine ⟨ret_u8 ?_,HV.out⟩
  unfold byteV
  rw [HF.out]
  rfl
 | true=>
  have h1:=HF.out
  simp only [okTone,Bool.and_eq_true,decide_eq_true_eq] at h1
  have w1:IntKind.i64.wrap (a+b)=a+b:=IntWalk.i64_in _ (by omega)
  have w2:IntKind.i64.wrap (a+b+65536)=a+b+65536:=IntWalk.i64_in _ (by omega)
  have w3:(a+b+65536).tdiv 131072=(a+b+65536)/ 131072:=Int.tdiv_eq_ediv_of_nonneg (by omega)
  have w4:IntKind.i64.wrap ((a+b+65536)/ 131072)=(a+b+65536)/ 131072:=IntWalk.i64_in _ (by omega)
  have w5:IntKind.u8.wrap ((a+b+65536)/ 131072)=(a+b+65536)/ 131072:=by
   exact IntWalk.u8_in _ (by omega)
  go_wp2_with fail
  go_ret
  refine ⟨ret_u8 ?_,HV.out⟩
  unfold byteV
  rw [HF.out]
  first | rfl |(simp [w3,w4,w5];done)
set_option maxHeartbeats 3200000 in
theorem grey_c (v:Int × Int) (cells:Int) (w:World):Calls Tryz.prog 56 #[toV v, .int .i64 cells] w fun e w'=>e= .returned (.int .u8 (greyV v cells))∧Below w.heap.size w w':=by
 obtain ⟨a,b⟩:=v
 obtain ⟨f,hf⟩:∃f,okCov (a,b) cells=f:=⟨_,rfl⟩
 have HF:=Lib.hid hf
 clear hf
 go_enter Tryz.func56,Tryz.ntmps56
 go_wp2_with fail
 have HB:Hid (Below w.heap.size w (w.alloc (.cells #[.int .i64 a, .int .i64 b] 43))):=bel1 _ _
 have HA:Hid ((w.alloc (.cells #[.int .i64 a, .int .i64 b] 43)).heap[w.heap.size]?=some (.cells #[.int .i64 a, .int .i64 b] 43)):=alloc_new _ _
 generalize w.alloc (.cells #[.int .i64 a, .int .i64 b] 43)=W at HB HA⊢
 with_reducible refine (okCov_c (a,b) cells _ HF _).mono ?_
 rintro e V ⟨rfl,hb⟩
 have HV:Hid (Below w.heap.size w V):=HB.out.trans (hb.mono HB.out.size)
 obtain ⟨c0,c1⟩:=to_at (one_below HA.out hb)
 clear hb
 cases f with
 | false=>
  go_wp2_with fail
  go_ret
  refine ⟨ret_u8 ?_,HV.out⟩
  unfold greyV
  rw [HF.out]
  rfl
 | true=>
  have h1:=HF.out
  simp only [okCov,Bool.and_eq_true,decide_eq_true_eq] at h1
  have w1:IntKind.i64.wrap (a+b)=a+b:=IntWalk.i64_in _ (by omega)
  have w2:IntKind.i64.wrap (255 *(a+b))=255 *(a+b):=IntWalk.i64_in _ (by omega)
  have w2b:IntKind.i64.wrap (255 *(a+b)+cells)=255 *(a+b)+cells:=IntWalk.i64_in _ (by omega)
  have w2c:IntKind.i64.wrap (2 *cells)=2 *cells:=IntWalk.i64_in _ (by omega)
  have w3:(255 *(a+b)+cells).tdiv (2 *cells)=(255 *(a+b)+cells)/(2 *cells):=Int.tdiv_eq_ediv_of_nonneg (by omega)
  have hq:0≤(255 *(a+b)+cells)/(2 *cells)∧(255 *(a+b)+cells)/(2 *cells)≤255:=by
   constructor
   ·exact Int.ediv_nonneg (by omega) (by omega)
   ·apply Int.le_of_lt_add_one
    apply Int.ediv_lt_of_lt_mul (by omega)
    omega
  have w4:IntKind.i64.wrap ((255 *(a+b)+cells)/(2 *cells))=(255 *(a+b)+cells)/(2 *cells):=IntWalk.i64_in _ (by omega)
  have w5:IntKind.u8.wrap ((255 *(a+b)+cells)/(2 *cells))=(255 *(a+b)+cells)/(2 *cells):=IntWalk.u8_in _ hq
  have n0:¬(2 *cells=0):=by omega
  go_wp2_with fail
  go_ret
  refine ⟨ret_u8 ?_,HV.out⟩
  unfold greyV
  rw [HF.out]
  first | rfl |(simp [w3,w4,w5];done)
end Go.Proofs.YtfldplmgkeiimaaGreatDoor.VW
