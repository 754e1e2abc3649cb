/-
  Several texts of this proof in one: Qk.
-/
import Derived.Test.YtfldplmgkeiimaaGreatDoorQ8
set_option linter.unusedVariables false
set_option linter.unusedSimpArgs false
namespace Go.Proofs.YtfldplmgkeiimaaGreatDoor.VW
open Go.RowKit Go.Proofs.YtfldplmgkeiimaaGreatDoor.Vp
abbrev zOb:Value:= .agg #[.bool false, .int .i64 0, .int .i64 0, .int .i64 0, .int .i64 0, .int .i64 0, .int .i64 0, .int .i64 0, .int .i64 0, .slice none 0 0, .slice none 0 0]
abbrev zEx:Value:= .agg #[.int .i64 0, .int .i64 0, .int .i64 0, .int .i64 0, .bool false]
theorem info_ob:(Tryz.prog.info? 77).map (fun i=>(i.zero,i.size,i.bytes))=some (some zOb,11,120):=by kernel_rfl
theorem info_ex:(Tryz.prog.info? 248).map (fun i=>(i.zero,i.size,i.bytes))=some (some zEx,5,40):=by kernel_rfl
theorem info_parts {P:Program} {t:TypeId} {z:Option Value} {n b:Nat} (h:(P.info? t).map (fun i=>(i.zero,i.size,i.bytes))=some (z,n,b)):∃i,P.info? t=some i∧i.zero=z∧i.size=n∧i.bytes=b:=by
 cases hi:P.info? t with
 | none=>rw [hi] at h;cases h
 | some i=>
  rw [hi] at h
  simp only [Option.map_some,Option.some.injEq,Prod.mk.injEq] at h
  exact ⟨i,rfl,h.1,h.2.1,h.2.2⟩
structure NgM (S:Nat→Prop) (w0:World) (g:Nat) (gs:Array Value) (b:Bx) (os:List Ob) (es:List (Bx × Bool)) (vo ve:Value) (x:World):Prop where
 grp:x.heap[g]?=some (.cells gs tGrp)
 bx:x.heap[g+1]?=some (bxO b)
 res:x.heap[g+1+1]?=some (.cells #[.slice none 0 0, .slice none 0 0] tGrp)
 n:NrM S w0 (g+1+1+1) os es vo ve x
theorem NgM.below {S:Nat→Prop} {w0:World} {g:Nat} {gs:Array Value} {b:Bx} {os:List Ob} {es:List (Bx × Bool)} {vo ve:Value} {x y:World} (h:NgM S w0 g gs b os es vo ve x) (hb:Below x.heap.size x y):NgM S w0 g gs b os es vo ve y:=⟨one_below h.grp hb,one_below h.bx hb,one_below h.res hb,h.n.below hb⟩
theorem far_grown {B:Nat} {e:TypeId} {sz n:Nat} {v:Value} {xs:List Value} {X y:World} {i:Nat} {u:Value} {R k:Nat} {o:Obj} (ho:X.ownsRow B e sz v n xs) (hg:X.grownBy y v.ownBlock) (hk:k < B) (hR:k≠R) (h:X.heap[k]?=some o):(y.setCell ⟨R,i,none⟩ u).heap[k]?=some o:=
 (far0 hR).trans ((hg.block k (lt_of_heap h) (fun e=>by have:=(ho.lt k e.symm).1;omega)).trans h)
theorem NgM.pushO {S:Nat→Prop} {w0:World} {g:Nat} {gs:Array Value} {b:Bx} {os:List Ob} {es:List (Bx × Bool)} {vo ve vo':Value} {X y:World} {xs:List Value} {d:Bool} {bs:Bs} {s:Ps} {pl:Option Addr} {cl:Nat} {pp:Option Addr} {cp:Nat} {V:List Value}
  (h:NgM S w0 g gs b os es vo ve X) (hxs:X.ownsRow (g+1+1+1+1) tOb 11 vo os.length xs) (hp:PartsAt S X (obP os) xs) (hS:∀k,S k→k < g+1+1+1) (hR:w0.heap.size≤g)
  (hg:X.grownBy y vo.ownBlock) (hV:V= .bool d :: shVs bs (.slice pl bs.l.length cl) (.slice pp s.len cp)) (hown:y.ownsRow (g+1+1+1+1) tOb 11 vo' (os.length+1) (xs++V)) (hb:ShIn S X pl cl pp cp ⟨bs,s⟩):
  NgM S w0 g gs b (os++ [(d,⟨bs,s⟩)]) es vo' ve (y.setCell ⟨g+1+1+1,0,none⟩ vo'):=by
 subst hV
 exact ⟨far_grown hxs hg (by omega) (by omega) h.grp,far_grown hxs hg (by omega) (by omega) h.bx,far_grown hxs hg (by omega) (by omega) h.res,NrM.pushO (x:=X) h.n.r hxs hp h.n.e h.n.bel hS (by omega) hg hown hb⟩
theorem NgM.pushE {S:Nat→Prop} {w0:World} {g:Nat} {gs:Array Value} {b:Bx} {os:List Ob} {es:List (Bx × Bool)} {vo ve ve':Value} {X y:World} {c:Bx} {a:Bool}
  (h:NgM S w0 g gs b os es vo ve X) (hS:∀k,S k→k < g+1+1+1) (hR:w0.heap.size≤g)
  (hg:X.grownBy y ve.ownBlock) (hown:y.ownsRow (g+1+1+1+1) tExt 5 ve' (es.length+1) (exsV es++exVs c a)):
  NgM S w0 g gs b os (es++ [(c,a)]) vo ve' (y.setCell ⟨g+1+1+1,1,none⟩ ve'):=
 ⟨far_grown h.n.e hg (by omega) (by omega) h.grp,far_grown h.n.e hg (by omega) (by omega) h.bx,far_grown h.n.e hg (by omega) (by omega) h.res,h.n.pushE hS (by omega) hg hown⟩
theorem nearE_snoc (l:List Ex) (b:Bx) (x:Ex) (y:Bool) (h:(x.any || !apartV x.b b)=y):nearE (l++ [x]) b=if y=true then nearE l b++ [x] else nearE l b:=by
 unfold nearE
 rw [List.filter_append]
 cases y with
 | true=>simp [h]
 | false=>simp [h]
theorem nearE_le (l:List Ex) (b:Bx):(nearE l b).length≤l.length:=List.length_filter_le _ _
abbrev nObs (l:List Ex):List Ob:=l.map Ex.o
abbrev nExs (l:List Ex):List (Bx × Bool):=l.map fun e=>(e.b,e.any)
theorem gr_at {w:World} {k:Nat} {a b:Value} {t:TypeId} (h:w.heap[k]?=some (.cells #[a,b] t)):w.cell? ⟨k,0,none⟩=some a∧w.cell? ⟨k,1,none⟩=some b:=by
 constructor <;> simp [World.cell?,h]
theorem ex_at {w:World} {k:Nat} {a b c d e:Value} {t:TypeId} (h:w.heap[k]?=some (.cells #[a,b,c,d,e] t)):w.cell? ⟨k,0,none⟩=some a∧w.cell? ⟨k,1,none⟩=some b∧w.cell? ⟨k,2,none⟩=some c∧w.cell? ⟨k,3,none⟩=some d∧w.cell? ⟨k,4,none⟩=some e:=by
 refine ⟨?_,?_,?_,?_,?_⟩<;> simp [World.cell?,h]
set_option maxRecDepth 100000 in
set_option maxHeartbeats 12800000 in
theorem near_g (S:Nat→Prop) (g:List Ex) (p q:Option Addr) (n c d:Nat) (b:Bx) (hn:n=g.length) (w:World) (H:Hid (GrpIn S w p q g)):
  Calls Tryz.prog 86 #[.agg (grCs p n c q d),bxV b] w fun e w'=>∃p' c' q' d',e= .returned (.agg (grCs p' (nearE g b).length c' q' d'))∧GrpIn (fun k=>S k∨w.heap.size≤k) w' p' q' (nearE g b)∧Below w.heap.size w w':=by
 have hbig:n≤1000000000:=by rw [hn];have:=H.out.o.1;simpa using this
 have HN:=Lib.hid hn
 have HG:Hid (GrpIn (fun k=>S k∧k < w.heap.size) w p q g):=H.out.mono (fun k h1 h2=>⟨h2,h1⟩)
 have HS:Hid (∀k,(S k∧k < w.heap.size)→k < w.heap.size+1+1+1):=fun k h=>by omega
 obtain ⟨S0,hS0⟩:∃S0:Nat→Prop,(fun k=>S k∧k < w.heap.size)=S0:=⟨_,rfl⟩
 have HS0:Hid (∀k,S0 k→S k):=by rw [←hS0];exact fun k h=>h.1
 have HS1:Hid (∀k,S0 k→k < w.heap.size+1+1+1):=by rw [←hS0];exact HS.out
 have HS2:Hid (∀k,S0 k→k < w.heap.size):=by rw [←hS0];exact fun k h=>h.2
 rw [hS0] at HG
 obtain ⟨x0,y0,x1,y1⟩:=b
 clear hn hS0 H HS
 go_enter Tryz.func86,Tryz.ntmps86
 go_upto_region 2 with fail
 obtain ⟨W,hW⟩:∃W,(((w.alloc (.cells (grCs p n c q d) tGrp)).alloc (bxO ⟨x0,y0,x1,y1⟩)).alloc (.cells #[.slice none 0 0, .slice none 0 0] tGrp)).alloc (.cells #[.slice none 0 0, .slice none 0 0] tGrp)=W:=⟨_,rfl⟩
 have HM:Hid (NgM S0 w w.heap.size (grCs p n c q d) ⟨x0,y0,x1,y1⟩ [] [] (.slice none 0 0) (.slice none 0 0) W):=by
  obtain ⟨h1,h2,h3,h4,hb⟩:=four_at hW
  exact ⟨h1,h2,h3,h4,⟨[],⟨rfl, .inl ⟨rfl,rfl⟩⟩,trivial⟩,⟨rfl, .inl ⟨rfl,rfl⟩⟩,hb⟩
 rw [hW]
 clear hW
 obtain ⟨g0,g1⟩:=gr_at HM.out.grp
 go_wp2_with fail
 go_loopw [11] (fun i wr=>∃(j:Nat) (vo ve:Value) (wy:World),wy=wr∧j≤n∧i= .int .i64 j∧Hid (NgM S0 w w.heap.size (grCs p n c q d) ⟨x0,y0,x1,y1⟩ (nObs (nearE (g.take j) ⟨x0,y0,x1,y1⟩)) (nExs (nearE (g.take j) ⟨x0,y0,x1,y1⟩)) vo ve wy)) (fun i _=>n -(intOf i).toNat)
 case atStart=>exact ⟨0,_,_,_,rfl,Nat.zero_le _,rfl,HM.out⟩
 case round=>
 obtain ⟨j,vo,ve,wy,rfl,hj,rfl,HB⟩:=hrel
 clear g0 g1 HM
 obtain ⟨OS,hos⟩:∃O,nObs (nearE (g.take j) ⟨x0,y0,x1,y1⟩)=O:=⟨_,rfl⟩
 obtain ⟨ES,hes⟩:∃E,nExs (nearE (g.take j) ⟨x0,y0,x1,y1⟩)=E:=⟨_,rfl⟩
 rw [hos,hes] at HB
 have HOS:=Lib.hid hos.symm
 have HES:=Lib.hid hes.symm
 clear hos hes
 by_cases hlt:j < n
 ·have hlt2:j < g.length:=by rw [←HN.out];exact hlt
  have hlti:(j:Int)<(n:Int):=by omega
  obtain ⟨⟨⟨od,⟨ob,os⟩⟩,⟨ex0,ey0,ex1,ey1⟩,ea⟩,hq⟩:∃e,g[j]=e:=⟨_,rfl⟩
  obtain ⟨kb,ko,pl,cl,pp,cp,rfl,hkb,_,hsh,c0,c1,c2,c3,c4,c5,c6,c7,c8,c9,c10⟩:=HG.out.o.at (n:=j) (by rw [List.length_map];exact hlt2) (show (g.map Ex.o)[j]'(by rw [List.length_map];exact hlt2)=(od,⟨ob,os⟩) by rw [List.getElem_map,hq])
  obtain ⟨eb,eo,rfl,e0,e1,e2,e3,e4⟩:=HG.out.e.at (i:=j) (by rw [List.length_map];exact hlt2) (show (g.map fun e=>(e.b,e.any))[j]'(by rw [List.length_map];exact hlt2)=(⟨ex0,ey0,ex1,ey1⟩,ea) by rw [List.getElem_map,hq])
  have HSH:=Lib.hid hsh
  obtain ⟨nl,hnl⟩:∃n,ob.l.length=n:=⟨_,rfl⟩
  obtain ⟨mp,hmp⟩:∃n,os.len=n:=⟨_,rfl⟩
  have HNL:=Lib.hid hnl
  have HMP:=Lib.hid hmp
  rw [hnl] at c9
  rw [hmp] at c10
  clear hnl hmp
  have hbw:=HB.out.n.bel
  have HE:=Lib.hid (And.intro (cell_keep hbw e0) (And.intro (cell_keep hbw e1) (And.intro (cell_keep hbw e2) (And.intro (cell_keep hbw e3) (cell_keep hbw e4)))))
  have HO:=Lib.hid (And.intro c0 (And.intro c1 (And.intro c2 (And.intro c3 (And.intro c4 (And.intro c5 (And.intro c6 (And.intro c7 (And.intro c8 (And.intro c9 c10))))))))))
  clear c0 c1 c2 c3 c4 c5 c6 c7 c8 c9 c10 e0 e1 e2 e3 e4 hsh hbw
  obtain ⟨y,hy⟩:∃y,(ea || !apartV ⟨ex0,ey0,ex1,ey1⟩ ⟨x0,y0,x1,y1⟩)=y:=⟨_,rfl⟩
  have HSN:=Lib.hid (nearE_snoc (g.take j) ⟨x0,y0,x1,y1⟩ ⟨(od,⟨ob,os⟩),⟨ex0,ey0,ex1,ey1⟩,ea⟩ y hy)
  have HTK:Hid (g.take (j+1)=g.take j++ [⟨(od,⟨ob,os⟩),⟨ex0,ey0,ex1,ey1⟩,ea⟩]):=by show _=_;rw [List.take_succ_eq_append_getElem hlt2,hq]
  obtain ⟨fa,hfa⟩:∃f,apartV ⟨ex0,ey0,ex1,ey1⟩ ⟨x0,y0,x1,y1⟩=f:=⟨_,rfl⟩
  have HFA:=Lib.hid hfa
  rw [hfa] at hy
  have HY:=Lib.hid hy
  clear hq hy hfa
  obtain ⟨e0,e1,e2,e3,e4⟩:=HE.out
  go_upto_region 5 with fail
  have HB1:=Lib.hid (HB.out.below (bel_alloc wy (.cells #[.int .i64 ex0, .int .i64 ey0, .int .i64 ex1, .int .i64 ey1, .bool ea] tExt)))
  have HX1:Hid ((wy.alloc (.cells #[.int .i64 ex0, .int .i64 ey0, .int .i64 ex1, .int .i64 ey1, .bool ea] tExt)).heap[wy.heap.size]?=some (.cells #[.int .i64 ex0, .int .i64 ey0, .int .i64 ex1, .int .i64 ey1, .bool ea] tExt)):=alloc_new _ _
  generalize wy.alloc (.cells #[.int .i64 ex0, .int .i64 ey0, .int .i64 ex1, .int .i64 ey1, .bool ea] tExt)=W1 at HB1 HX1⊢
  obtain ⟨ex,hex⟩:∃ex,wy.heap.size=ex:=⟨_,rfl⟩
  rw [hex] at HX1⊢
  clear e0 e1 e2 e3 e4 hex HB HE
  obtain ⟨z0,z1,z2,z3,z4⟩:=ex_at HX1.out
  obtain ⟨b0,b1,b2,b3⟩:=bx_at HB1.out.bx
  cases ea with
  | true=>
   have HF:Hid (nearE (g.take (j+1)) ⟨x0,y0,x1,y1⟩=nearE (g.take j) ⟨x0,y0,x1,y1⟩++ [⟨(od,⟨ob,os⟩),⟨ex0,ey0,ex1,ey1⟩,true⟩]):=by show _=_;rw [HTK.out,HSN.out,←HY.out];rfl
   obtain ⟨xs,hown0,hp0⟩:=HB1.out.n.o
   obtain ⟨pw,capw,rfl⟩:=row_form hown0
   obtain ⟨pv,capv,rfl⟩:=row_form HB1.out.n.e
   obtain ⟨m2,hm2⟩:∃m,ES.length=m:=⟨_,rfl⟩
   have hmb2:m2≤1000000000:=by rw [←hm2,HES.out,List.length_map];have:=nearE_le (g.take j) ⟨x0,y0,x1,y1⟩;rw [List.length_take] at this;omega
   have HM2:=Lib.hid hm2
   obtain ⟨m,hm⟩:∃m,OS.length=m:=⟨_,rfl⟩
   have hmb:m≤1000000000:=by rw [←hm,HOS.out,List.length_map];have:=nearE_le (g.take j) ⟨x0,y0,x1,y1⟩;rw [List.length_take] at this;omega
   have HMm:=Lib.hid hm
   have HOW:Hid (W1.ownsRow (w.heap.size+1+1+1+1) tOb 11 (.slice pw OS.length capw) OS.length xs):=hown0
   have HPP:=Lib.hid hp0
   have hwle:=HB1.out.n.bel.size
   have hRlt:=lt_of_heap HB1.out.n.r
   have HXX:=Lib.hid (HB1.out.below ((bel_alloc W1 (.cells #[.bool od, .int .i64 ob.k, .int .i64 ob.a.1, .int .i64 ob.a.2, .int .i64 ob.b.1, .int .i64 ob.b.2, .int .i64 ob.c.1, .int .i64 ob.c.2, .int .i64 ob.r, .slice pl nl cl, .slice pp mp cp] tOb)).drew))
   rw [hm,hm2] at HB1 HXX
   rw [hm] at HOW
   have HXO:Hid (((W1.alloc (.cells #[.bool od, .int .i64 ob.k, .int .i64 ob.a.1, .int .i64 ob.a.2, .int .i64 ob.b.1, .int .i64 ob.b.2, .int .i64 ob.c.1, .int .i64 ob.c.2, .int .i64 ob.r, .slice pl nl cl, .slice pp mp cp] tOb)).drew).ownsRow (w.heap.size+1+1+1+1) tOb 11 (.slice pw m capw) m xs):=(HOW.out.alloc _).drew
   have hkey:∀(w4:World),((W1.alloc (.cells #[.bool od, .int .i64 ob.k, .int .i64 ob.a.1, .int .i64 ob.a.2, .int .i64 ob.b.1, .int .i64 ob.b.2, .int .i64 ob.c.1, .int .i64 ob.c.2, .int .i64 ob.r, .slice pl nl cl, .slice pp mp cp] tOb)).drew).grownBy w4 (Value.slice pw m capw).ownBlock→w4.cell? ⟨w.heap.size+1+1+1,0,none⟩=some (.slice pw m capw)∧w4.frozen? ⟨w.heap.size+1+1+1,0,none⟩=false:=by
    intro w4 hg4
    have h1:w4.heap[w.heap.size+1+1+1]?=some (.cells #[.slice pw m capw, .slice pv m2 capv] tGrp):=(hg4.block _ (lt_of_heap HXX.out.n.r) (fun e=>by have:=(HXO.out.lt _ e.symm).1;omega)).trans HXX.out.n.r
    exact ⟨(gr_at h1).1,cells_f0 h1 0⟩
   clear hown0 hp0 hm hm2
   have hX2lt:=lt_of_heap HX1.out
   obtain ⟨i0,hi,hz0,hz1,hz2⟩:=info_parts info_ob
   have HI:=Lib.hid (And.intro hi (And.intro hz0 (And.intro hz1 hz2)))
   clear hi hz0 hz1 hz2
   obtain ⟨r0,r1⟩:=gr_at HB1.out.n.r
   have fr:=cells_f0 HB1.out.n.r
   obtain ⟨g0,g1⟩:=gr_at HB1.out.grp
   obtain ⟨c0,c1,c2,c3,c4,c5,c6,c7,c8,c9,c10⟩:=HO.out
   have hbw:=HB1.out.n.bel
   have d0:=cell_keep hbw c0
   have d1:=cell_keep hbw c1
   have d2:=cell_keep hbw c2
   have d3:=cell_keep hbw c3
   have d4:=cell_keep hbw c4
   have d5:=cell_keep hbw c5
   have d6:=cell_keep hbw c6
   have d7:=cell_keep hbw c7
   have d8:=cell_keep hbw c8
   have d9:=cell_keep hbw c9
   have d10:=cell_keep hbw c10
   clear c0 c1 c2 c3 c4 c5 c6 c7 c8 c9 c10 hbw
   go_upto_region 6 with fail
   go_region_law (first |(refine step_append_lies _ (by rfl) _ _ _ (by rfl) (w.heap.size+1+1+1+1) tOb i0 zOb 11 120 Tryz.underlying47 HI.out.1 HI.out.2.1 HI.out.2.2.1 HI.out.2.2.2 rfl (by omega) (.slice pw m capw) m _ (by rfl) HXO.out ⟨W1.heap.size,0,none⟩ 1 1 [.bool od, .int .i64 ob.k, .int .i64 ob.a.1, .int .i64 ob.a.2, .int .i64 ob.b.1, .int .i64 ob.b.2, .int .i64 ob.c.1, .int .i64 ob.c.2, .int .i64 ob.r, .slice pl nl cl, .slice pp mp cp] (by rfl) (by rfl) (World.news_of_block (cs:= #[.bool od, .int .i64 ob.k, .int .i64 ob.a.1, .int .i64 ob.a.2, .int .i64 ob.b.1, .int .i64 ob.b.2, .int .i64 ob.c.1, .int .i64 ob.c.2, .int .i64 ob.r, .slice pl nl cl, .slice pp mp cp]) (t:=tOb) (fr:=(0,0)) (heap_alloc_new W1 _)) (by simp [Value.oneCell']) (by omega) (by unfold maxLen;omega) (by omega) (by simp;omega) (W1.heap.size+1) (by simp) ?_;intro gg cap2 w4 hown hgrow hat hltt;obtain ⟨q1,q2⟩:=hkey w4 hgrow)| fail)
   all_goals
    have HB3:=Lib.hid (NgM.pushO (d:=od) (bs:=ob) (s:=os) (pl:=pl) (cl:=cl) (pp:=pp) (cp:=cp) HXX.out (by rw [HMm.out];exact HXO.out) (HPP.out.below ((bel_alloc W1 (.cells #[.bool od, .int .i64 ob.k, .int .i64 ob.a.1, .int .i64 ob.a.2, .int .i64 ob.b.1, .int .i64 ob.b.2, .int .i64 ob.c.1, .int .i64 ob.c.2, .int .i64 ob.r, .slice pl nl cl, .slice pp mp cp] tOb)).drew)) HS1.out (Nat.le_refl _) hgrow (show [.bool od, .int .i64 ob.k, .int .i64 ob.a.1, .int .i64 ob.a.2, .int .i64 ob.b.1, .int .i64 ob.b.2, .int .i64 ob.c.1, .int .i64 ob.c.2, .int .i64 ob.r, .slice pl nl cl, .slice pp mp cp]= .bool od :: shVs ob (.slice pl ob.l.length cl) (.slice pp os.len cp) by rw [HNL.out,HMP.out]) (by rw [HMm.out];exact hown) (HSH.out.below HXX.out.n.bel))
    have HX3:Hid ((w4.setCell ⟨w.heap.size+1+1+1,0,none⟩ (.slice (some ⟨gg,0,none⟩) (m+1) cap2)).heap[ex]?=some (.cells #[.int .i64 ex0, .int .i64 ey0, .int .i64 ex1, .int .i64 ey1, .bool true] tExt)):=by
     have h1:((W1.alloc (.cells #[.bool od, .int .i64 ob.k, .int .i64 ob.a.1, .int .i64 ob.a.2, .int .i64 ob.b.1, .int .i64 ob.b.2, .int .i64 ob.c.1, .int .i64 ob.c.2, .int .i64 ob.r, .slice pl nl cl, .slice pp mp cp] tOb)).drew).heap[ex]?=some (.cells #[.int .i64 ex0, .int .i64 ey0, .int .i64 ex1, .int .i64 ey1, .bool true] tExt):=one_below HX1.out ((bel_alloc W1 (.cells #[.bool od, .int .i64 ob.k, .int .i64 ob.a.1, .int .i64 ob.a.2, .int .i64 ob.b.1, .int .i64 ob.b.2, .int .i64 ob.c.1, .int .i64 ob.c.2, .int .i64 ob.r, .slice pl nl cl, .slice pp mp cp] tOb)).drew)
     have h2:ex≠w.heap.size+1+1+1:=by
      intro e
      have h3:=HXX.out.n.r
      rw [←e,h1] at h3
      injection h3 with h3
      injection h3 with _ h3
      exact absurd h3 (by decide)
     exact (far0 h2).trans ((hgrow.block ex (lt_of_heap h1) (Ne.symm (own_ne HXO.out h1 (by decide)))).trans h1)
    clear hown hgrow hat hltt q1 q2 d0 d1 d2 d3 d4 d5 d6 d7 d8 d9 d10 g0 g1 r0 r1 fr hRlt hX2lt
    generalize w4.setCell ⟨w.heap.size+1+1+1,0,none⟩ (.slice (some ⟨gg,0,none⟩) (m+1) cap2)=W3 at HB3 HX3⊢
    obtain ⟨i1,hi,hz0,hz1,hz2⟩:=info_parts info_ex
    have HJ:=Lib.hid (And.intro hi (And.intro hz0 (And.intro hz1 hz2)))
    clear hi hz0 hz1 hz2
    obtain ⟨r0,r1⟩:=gr_at HB3.out.n.r
    have fr:=cells_f0 HB3.out.n.r
    obtain ⟨z0,z1,z2,z3,z4⟩:=ex_at HX3.out
    have HYY:=Lib.hid (HB3.out.below (bel_alloc W3 (.cells #[.int .i64 ex0, .int .i64 ey0, .int .i64 ex1, .int .i64 ey1, .bool true] tExt)))
    have hYE:(W3.alloc (.cells #[.int .i64 ex0, .int .i64 ey0, .int .i64 ex1, .int .i64 ey1, .bool true] tExt)).ownsRow (w.heap.size+1+1+1+1) tExt 5 (.slice pv m2 capv) m2 (exsV ES):=by have:=HYY.out.n.e;rw [HM2.out] at this;exact this
    have HYE:=Lib.hid hYE
    have hsz:=HB3.out.n.bel.size
    have hR3:=lt_of_heap HB3.out.n.r
    have hkey2:∀(w4:World),(W3.alloc (.cells #[.int .i64 ex0, .int .i64 ey0, .int .i64 ex1, .int .i64 ey1, .bool true] tExt)).grownBy w4 (Value.slice pv m2 capv).ownBlock→w4.cell? ⟨w.heap.size+1+1+1,1,none⟩=some (.slice pv m2 capv)∧w4.frozen? ⟨w.heap.size+1+1+1,1,none⟩=false:=by
     intro w4 hg4
     have h1:=(hg4.block _ (lt_of_heap HYY.out.n.r) (fun e=>by have:=(HYE.out.lt _ e.symm).1;omega)).trans HYY.out.n.r
     exact ⟨(gr_at h1).2,cells_f0 h1 1⟩
    clear hYE
    go_wp2_with (at_builtin;refine wpList_append_lies _ rfl _ _ _ rfl (w.heap.size+1+1+1+1) tExt i1 zEx 5 40 Tryz.underlying199 HJ.out.1 HJ.out.2.1 HJ.out.2.2.1 HJ.out.2.2.2 rfl (by omega) (.slice pv m2 capv) m2 _ (by rfl) HYE.out ⟨W3.heap.size,0,none⟩ 1 1 [.int .i64 ex0, .int .i64 ey0, .int .i64 ex1, .int .i64 ey1, .bool true] (by rfl) (by rfl) (World.news_of_block (cs:= #[.int .i64 ex0, .int .i64 ey0, .int .i64 ex1, .int .i64 ey1, .bool true]) (t:=tExt) (fr:=(0,0)) (heap_alloc_new W3 _)) (by simp [Value.oneCell']) (by omega) (by unfold maxLen;omega) (by omega) (by simp;omega) (W3.heap.size+1) (by simp) ?_;intro ge cape w5 hown hgrow hat hltt;obtain ⟨q1,q2⟩:=hkey2 w5 hgrow)
    have HB4:=Lib.hid (NgM.pushE (c:=⟨ex0,ey0,ex1,ey1⟩) (a:=true) HYY.out HS1.out (Nat.le_refl _) hgrow (by rw [HM2.out];exact hown))
    clear hown hgrow hat hltt q1 q2 r0 r1 fr z0 z1 z2 z3 z4
    have e1:nObs (nearE (g.take (j+1)) ⟨x0,y0,x1,y1⟩)=OS++ [(od,⟨ob,os⟩)]:=by rw [HF.out,nObs,List.map_append,HOS.out];rfl
    have e2:nExs (nearE (g.take (j+1)) ⟨x0,y0,x1,y1⟩)=ES++ [(⟨ex0,ey0,ex1,ey1⟩,true)]:=by rw [HF.out,nExs,List.map_append,HES.out];rfl
    rw [←e1,←e2] at HB4
    go_round <;> first | exact ⟨j+1,_,_,_,rfl,by omega,by go_num,HB4.out⟩|(simp [intOf] <;> omega)
  | false=>
   go_wp2_with fail
   with_reducible refine (bapart_c ⟨ex0,ey0,ex1,ey1⟩ ⟨x0,y0,x1,y1⟩ fa HFA _).mono ?_
   rintro e W2 ⟨rfl,hb⟩
   have HB2:=Lib.hid (HB1.out.below hb)
   have HX2:=Lib.hid (one_below HX1.out hb)
   clear b0 b1 b2 b3 z0 z1 z2 z3 z4 hb HX1 HB1
   cases fa with
   | true=>
    have HF:Hid (nearE (g.take (j+1)) ⟨x0,y0,x1,y1⟩=nearE (g.take j) ⟨x0,y0,x1,y1⟩):=by show _=_;rw [HTK.out,HSN.out,←HY.out];rfl
    go_wp2_with fail
    go_round <;> first | exact ⟨j+1,_,_,_,rfl,by omega,by go_num,by rw [HF.out,←HOS.out,←HES.out];exact HB2.out⟩|(simp [intOf] <;> omega)
   | false=>
    have HF:Hid (nearE (g.take (j+1)) ⟨x0,y0,x1,y1⟩=nearE (g.take j) ⟨x0,y0,x1,y1⟩++ [⟨(od,⟨ob,os⟩),⟨ex0,ey0,ex1,ey1⟩,false⟩]):=by show _=_;rw [HTK.out,HSN.out,←HY.out];rfl
    obtain ⟨xs,hown0,hp0⟩:=HB2.out.n.o
    obtain ⟨pw,capw,rfl⟩:=row_form hown0
    obtain ⟨pv,capv,rfl⟩:=row_form HB2.out.n.e
    obtain ⟨m2,hm2⟩:∃m,ES.length=m:=⟨_,rfl⟩
    have hmb2:m2≤1000000000:=by rw [←hm2,HES.out,List.length_map];have:=nearE_le (g.take j) ⟨x0,y0,x1,y1⟩;rw [List.length_take] at this;omega
    have HM2:=Lib.hid hm2
    obtain ⟨m,hm⟩:∃m,OS.length=m:=⟨_,rfl⟩
    have hmb:m≤1000000000:=by rw [←hm,HOS.out,List.length_map];have:=nearE_le (g.take j) ⟨x0,y0,x1,y1⟩;rw [List.length_take] at this;omega
    have HMm:=Lib.hid hm
    have HOW:Hid (W2.ownsRow (w.heap.size+1+1+1+1) tOb 11 (.slice pw OS.length capw) OS.length xs):=hown0
    have HPP:=Lib.hid hp0
    have hwle:=HB2.out.n.bel.size
    have hRlt:=lt_of_heap HB2.out.n.r
    have HXX:=Lib.hid (HB2.out.below ((bel_alloc W2 (.cells #[.bool od, .int .i64 ob.k, .int .i64 ob.a.1, .int .i64 ob.a.2, .int .i64 ob.b.1, .int .i64 ob.b.2, .int .i64 ob.c.1, .int .i64 ob.c.2, .int .i64 ob.r, .slice pl nl cl, .slice pp mp cp] tOb)).drew))
    rw [hm,hm2] at HB2 HXX
    rw [hm] at HOW
    have HXO:Hid (((W2.alloc (.cells #[.bool od, .int .i64 ob.k, .int .i64 ob.a.1, .int .i64 ob.a.2, .int .i64 ob.b.1, .int .i64 ob.b.2, .int .i64 ob.c.1, .int .i64 ob.c.2, .int .i64 ob.r, .slice pl nl cl, .slice pp mp cp] tOb)).drew).ownsRow (w.heap.size+1+1+1+1) tOb 11 (.slice pw m capw) m xs):=(HOW.out.alloc _).drew
    have hkey:∀(w4:World),((W2.alloc (.cells #[.bool od, .int .i64 ob.k, .int .i64 ob.a.1, .int .i64 ob.a.2, .int .i64 ob.b.1, .int .i64 ob.b.2, .int .i64 ob.c.1, .int .i64 ob.c.2, .int .i64 ob.r, .slice pl nl cl, .slice pp mp cp] tOb)).drew).grownBy w4 (Value.slice pw m capw).ownBlock→w4.cell? ⟨w.heap.size+1+1+1,0,none⟩=some (.slice pw m capw)∧w4.frozen? ⟨w.heap.size+1+1+1,0,none⟩=false:=by
     intro w4 hg4
     have h1:w4.heap[w.heap.size+1+1+1]?=some (.cells #[.slice pw m capw, .slice pv m2 capv] tGrp):=(hg4.block _ (lt_of_heap HXX.out.n.r) (fun e=>by have:=(HXO.out.lt _ e.symm).1;omega)).trans HXX.out.n.r
     exact ⟨(gr_at h1).1,cells_f0 h1 0⟩
    clear hown0 hp0 hm hm2
    have hX2lt:=lt_of_heap HX2.out
    obtain ⟨i0,hi,hz0,hz1,hz2⟩:=info_parts info_ob
    have HI:=Lib.hid (And.intro hi (And.intro hz0 (And.intro hz1 hz2)))
    clear hi hz0 hz1 hz2
    obtain ⟨r0,r1⟩:=gr_at HB2.out.n.r
    have fr:=cells_f0 HB2.out.n.r
    obtain ⟨g0,g1⟩:=gr_at HB2.out.grp
    obtain ⟨c0,c1,c2,c3,c4,c5,c6,c7,c8,c9,c10⟩:=HO.out
    have hbw:=HB2.out.n.bel
    have d0:=cell_keep hbw c0
    have d1:=cell_keep hbw c1
    have d2:=cell_keep hbw c2
    have d3:=cell_keep hbw c3
    have d4:=cell_keep hbw c4
    have d5:=cell_keep hbw c5
    have d6:=cell_keep hbw c6
    have d7:=cell_keep hbw c7
    have d8:=cell_keep hbw c8
    have d9:=cell_keep hbw c9
    have d10:=cell_keep hbw c10
    clear c0 c1 c2 c3 c4 c5 c6 c7 c8 c9 c10 hbw
    go_upto_region 6 with fail
    go_region_law (first |(refine step_append_lies _ (by rfl) _ _ _ (by rfl) (w.heap.size+1+1+1+1) tOb i0 zOb 11 120 Tryz.underlying47 HI.out.1 HI.out.2.1 HI.out.2.2.1 HI.out.2.2.2 rfl (by omega) (.slice pw m capw) m _ (by rfl) HXO.out ⟨W2.heap.size,0,none⟩ 1 1 [.bool od, .int .i64 ob.k, .int .i64 ob.a.1, .int .i64 ob.a.2, .int .i64 ob.b.1, .int .i64 ob.b.2, .int .i64 ob.c.1, .int .i64 ob.c.2, .int .i64 ob.r, .slice pl nl cl, .slice pp mp cp] (by rfl) (by rfl) (World.news_of_block (cs:= #[.bool od, .int .i64 ob.k, .int .i64 ob.a.1, .int .i64 ob.a.2, .int .i64 ob.b.1, .int .i64 ob.b.2, .int .i64 ob.c.1, .int .i64 ob.c.2, .int .i64 ob.r, .slice pl nl cl, .slice pp mp cp]) (t:=tOb) (fr:=(0,0)) (heap_alloc_new W2 _)) (by simp [Value.oneCell']) (by omega) (by unfold maxLen;omega) (by omega) (by simp;omega) (W2.heap.size+1) (by simp) ?_;intro gg cap2 w4 hown hgrow hat hltt;obtain ⟨q1,q2⟩:=hkey w4 hgrow)| fail)
    all_goals
     have HB3:=Lib.hid (NgM.pushO (d:=od) (bs:=ob) (s:=os) (pl:=pl) (cl:=cl) (pp:=pp) (cp:=cp) HXX.out (by rw [HMm.out];exact HXO.out) (HPP.out.below ((bel_alloc W2 (.cells #[.bool od, .int .i64 ob.k, .int .i64 ob.a.1, .int .i64 ob.a.2, .int .i64 ob.b.1, .int .i64 ob.b.2, .int .i64 ob.c.1, .int .i64 ob.c.2, .int .i64 ob.r, .slice pl nl cl, .slice pp mp cp] tOb)).drew)) HS1.out (Nat.le_refl _) hgrow (show [.bool od, .int .i64 ob.k, .int .i64 ob.a.1, .int .i64 ob.a.2, .int .i64 ob.b.1, .int .i64 ob.b.2, .int .i64 ob.c.1, .int .i64 ob.c.2, .int .i64 ob.r, .slice pl nl cl, .slice pp mp cp]= .bool od :: shVs ob (.slice pl ob.l.length cl) (.slice pp os.len cp) by rw [HNL.out,HMP.out]) (by rw [HMm.out];exact hown) (HSH.out.below HXX.out.n.bel))
     have HX3:Hid ((w4.setCell ⟨w.heap.size+1+1+1,0,none⟩ (.slice (some ⟨gg,0,none⟩) (m+1) cap2)).heap[ex]?=some (.cells #[.int .i64 ex0, .int .i64 ey0, .int .i64 ex1, .int .i64 ey1, .bool false] tExt)):=by
      have h1:((W2.alloc (.cells #[.bool od, .int .i64 ob.k, .int .i64 ob.a.1, .int .i64 ob.a.2, .int .i64 ob.b.1, .int .i64 ob.b.2, .int .i64 ob.c.1, .int .i64 ob.c.2, .int .i64 ob.r, .slice pl nl cl, .slice pp mp cp] tOb)).drew).heap[ex]?=some (.cells #[.int .i64 ex0, .int .i64 ey0, .int .i64 ex1, .int .i64 ey1, .bool false] tExt):=one_below HX2.out ((bel_alloc W2 (.cells #[.bool od, .int .i64 ob.k, .int .i64 ob.a.1, .int .i64 ob.a.2, .int .i64 ob.b.1, .int .i64 ob.b.2, .int .i64 ob.c.1, .int .i64 ob.c.2, .int .i64 ob.r, .slice pl nl cl, .slice pp mp cp] tOb)).drew)
      have h2:ex≠w.heap.size+1+1+1:=by
       intro e
       have h3:=HXX.out.n.r
       rw [←e,h1] at h3
       injection h3 with h3
       injection h3 with _ h3
       exact absurd h3 (by decide)
      exact (far0 h2).trans ((hgrow.block ex (lt_of_heap h1) (Ne.symm (own_ne HXO.out h1 (by decide)))).trans h1)
     clear hown hgrow hat hltt q1 q2 d0 d1 d2 d3 d4 d5 d6 d7 d8 d9 d10 g0 g1 r0 r1 fr hRlt hX2lt
     generalize w4.setCell ⟨w.heap.size+1+1+1,0,none⟩ (.slice (some ⟨gg,0,none⟩) (m+1) cap2)=W3 at HB3 HX3⊢
     obtain ⟨i1,hi,hz0,hz1,hz2⟩:=info_parts info_ex
     have HJ:=Lib.hid (And.intro hi (And.intro hz0 (And.intro hz1 hz2)))
     clear hi hz0 hz1 hz2
     obtain ⟨r0,r1⟩:=gr_at HB3.out.n.r
     have fr:=cells_f0 HB3.out.n.r
     obtain ⟨z0,z1,z2,z3,z4⟩:=ex_at HX3.out
     have HYY:=Lib.hid (HB3.out.below (bel_alloc W3 (.cells #[.int .i64 ex0, .int .i64 ey0, .int .i64 ex1, .int .i64 ey1, .bool false] tExt)))
     have hYE:(W3.alloc (.cells #[.int .i64 ex0, .int .i64 ey0, .int .i64 ex1, .int .i64 ey1, .bool false] tExt)).ownsRow (w.heap.size+1+1+1+1) tExt 5 (.slice pv m2 capv) m2 (exsV ES):=by have:=HYY.out.n.e;rw [HM2.out] at this;exact this
     have HYE:=Lib.hid hYE
     have hsz:=HB3.out.n.bel.size
     have hR3:=lt_of_heap HB3.out.n.r
     have hkey2:∀(w4:World),(W3.alloc (.cells #[.int .i64 ex0, .int .i64 ey0, .int .i64 ex1, .int .i64 ey1, .bool false] tExt)).grownBy w4 (Value.slice pv m2 capv).ownBlock→w4.cell? ⟨w.heap.size+1+1+1,1,none⟩=some (.slice pv m2 capv)∧w4.frozen? ⟨w.heap.size+1+1+1,1,none⟩=false:=by
      intro w4 hg4
      have h1:=(hg4.block _ (lt_of_heap HYY.out.n.r) (fun e=>by have:=(HYE.out.lt _ e.symm).1;omega)).trans HYY.out.n.r
      exact ⟨(gr_at h1).2,cells_f0 h1 1⟩
     clear hYE
     go_wp2_with (at_builtin;refine wpList_append_lies _ rfl _ _ _ rfl (w.heap.size+1+1+1+1) tExt i1 zEx 5 40 Tryz.underlying199 HJ.out.1 HJ.out.2.1 HJ.out.2.2.1 HJ.out.2.2.2 rfl (by omega) (.slice pv m2 capv) m2 _ (by rfl) HYE.out ⟨W3.heap.size,0,none⟩ 1 1 [.int .i64 ex0, .int .i64 ey0, .int .i64 ex1, .int .i64 ey1, .bool false] (by rfl) (by rfl) (World.news_of_block (cs:= #[.int .i64 ex0, .int .i64 ey0, .int .i64 ex1, .int .i64 ey1, .bool false]) (t:=tExt) (fr:=(0,0)) (heap_alloc_new W3 _)) (by simp [Value.oneCell']) (by omega) (by unfold maxLen;omega) (by omega) (by simp;omega) (W3.heap.size+1) (by simp) ?_;intro ge cape w5 hown hgrow hat hltt;obtain ⟨q1,q2⟩:=hkey2 w5 hgrow)
     have HB4:=Lib.hid (NgM.pushE (c:=⟨ex0,ey0,ex1,ey1⟩) (a:=false) HYY.out HS1.out (Nat.le_refl _) hgrow (by rw [HM2.out];exact hown))
     clear hown hgrow hat hltt q1 q2 r0 r1 fr z0 z1 z2 z3 z4
     have e1:nObs (nearE (g.take (j+1)) ⟨x0,y0,x1,y1⟩)=OS++ [(od,⟨ob,os⟩)]:=by rw [HF.out,nObs,List.map_append,HOS.out];rfl
     have e2:nExs (nearE (g.take (j+1)) ⟨x0,y0,x1,y1⟩)=ES++ [(⟨ex0,ey0,ex1,ey1⟩,false)]:=by rw [HF.out,nExs,List.map_append,HES.out];rfl
     rw [←e1,←e2] at HB4
     go_round <;> first | exact ⟨j+1,_,_,_,rfl,by omega,by go_num,HB4.out⟩|(simp [intOf] <;> omega)
 ·have hje:j=n:=by omega
  subst hje
  have HT:Hid (g.take j=g):=by show _=_;rw [HN.out];exact List.take_length
  rw [HT.out] at HOS HES
  have hfin:=HB.out.n
  rw [HOS.out,HES.out] at hfin
  obtain ⟨p',c',q',d',hvo,hve,hgr⟩:=hfin.done (R':=fun k=>S0 k∨w.heap.size+1+1+1+1≤k) (by have h1:=nearE_le g ⟨x0,y0,x1,y1⟩;have h2:=HN.out;show _≤1000000000;omega) (fun k h=> .inl h) (fun k h=> .inr h)
  have HGR:=Lib.hid hgr
  obtain ⟨L,hL⟩:∃L,(nearE g ⟨x0,y0,x1,y1⟩).length=L:=⟨_,rfl⟩
  have HLn:=Lib.hid hL
  rw [hL] at hvo hve
  subst hvo hve
  clear hfin hgr hL
  obtain ⟨r0,r1⟩:=gr_at HB.out.n.r
  obtain ⟨u0,u1⟩:=gr_at HB.out.res
  have fu:=cells_f0 HB.out.res
  go_wp2_with fail
  have hrr:=putW_all [.slice p' L c', .slice q' L d'] HB.out.res rfl
  have hb:=putW_below (m:=0) (b:=w.heap.size+1+1) (show w.heap.size≤w.heap.size+1+1 by omega) [.slice p' L c', .slice q' L d'] HB.out.n.bel
  refine bodyPost_ret (results_cell_row rfl _ _ (w.heap.size+1+1) _ _ _ _ rfl hrr Tryz.underlying201 rfl (by kernel_rfl)) rfl ⟨p',c',q',d',by rw [HLn.out],?_,hb⟩
  refine (HGR.out.keep (putW_keep (S:=fun k=>S0 k∨w.heap.size+1+1+1+1≤k) (b:=w.heap.size+1+1) (m:=0) (fun h=>?_) [.slice p' L c', .slice q' L d'])).mono (fun k _ h=>?_)
  ·rcases h with h | h
   ·have:=HS2.out _ h;omega
   ·omega
  ·rcases h with h | h
   ·exact .inl (HS0.out k h)
   ·exact .inr (by omega)
end Go.Proofs.YtfldplmgkeiimaaGreatDoor.VW
