/- Lemmas. -/
import Derived.Test.YtfldplmgkeiimaaGreatDoorQ9
import Derived.LaidEql
import Derived.WideKeyRuns
set_option linter.all false
set_option maxRecDepth 100000
set_option maxHeartbeats 12800000
namespace Go.Proofs.YtfldplmgkeiimaaGreatDoor
abbrev x4:=@List.take_succ_eq_append_getElem
abbrev x5:=@step_append_lies
abbrev E1:=@Proofs.Tryz.underlying47
abbrev jW:=@World.news_of_block
abbrev TD:=@Proofs.Tryz.underlying199
abbrev mh:=@List.map_append
abbrev KO:=@List.cons.injEq
abbrev HL:=@Proofs.Tryz.underlying190
abbrev zG:=@Proofs.Tryz.underlying3
abbrev ON:=@Proofs.Tryz.underlying292
abbrev OO:=@Sem.run_bind
abbrev C0:=@List.findIdx?_cons
abbrev ZP:=@List.findIdx?_eq_none_iff
abbrev OP:=@Proofs.Tryz.underlying294
abbrev OQ:=@MapKept.run_getObj_map
abbrev ZQ:=@List.mem_or_eq_of_mem_set
abbrev E2:=@List.mem_append
abbrev zH:=@Array.getElem?_setIfInBounds
abbrev OR:=@MapKept.run_setObj_map
abbrev zI:=@List.map_nil
abbrev C1:=@List.getElem?_map
abbrev jH:=@List.getElem?_eq_getElem
abbrev zJ:=@Array.getElem?_toList
namespace dE
open Go.RowKit el
abbrev C2:Value:=.agg #[ai false,I 0,I 0,I 0,I 0,I 0,I 0,I 0,I 0,ay 0,ay 0]
abbrev OS:Value:=.agg #[I 0,I 0,I 0,I 0,ai false]
theorem KP:(Tryz.prog.info? 77).map (fun i=>(i.zero,i.size,i.bytes))=some (some C2,11,120):=by kernel_rfl
theorem TE:(Tryz.prog.info? 248).map (fun i=>(i.zero,i.size,i.bytes))=some (some OS,5,40):=by kernel_rfl
variable{t:aui}
theorem info_parts{P:Program}{z:Option Value}{n b:Nat}(h:(P.info? t).map (fun i=>(i.zero,i.size,i.bytes))=some (z,n,b)):∃i,P.info? t=some i∧i.zero=z∧i.size=n∧i.bytes=b:=by
 cases hi:P.info? t with
 |none=>rw[hi] at h;cases h
 |some i=>
  rw[hi] at h;simp only[CX,mv,gA] at h;exact⟨i,rfl,h.1,h.2.1,h.2.2⟩
structure ss(S:Jp)(w0:bTo)(g:Nat)(gs:agv)(b:bR)(os:List ec)(es:List (bR×Bool))(fx fP:ada)(x:bTo):Prop where
 wM:bo x g gs jt
 aU:x.heap[g+1]?=some (cH b)
 res:bo x (g+1+1) (#[ay 0,ay 0]) jt
 n:tI S w0 (g+1+1+1) os es fx fP x
theorem ss.below{S:Jp}{w0:bTo}{g:Nat}{gs:agv}{b:bR}{os:List ec}{es:List (bR×Bool)}{fx fP:ada}{x y:bTo}(h:ss S w0 g gs b os es fx fP x)(af:av x x y):ss S w0 g gs b os es fx fP y:=⟨aO h.wM af,aO h.aU af,aO h.res af,h.n.below af⟩
variable{k:Nat}
theorem C3{B:Nat}{e:aui}{bn n:Nat}{v:ada}{xs:bTv}{X y:bTo}{i:Nat}{u:ada}{R:Nat}{o:Obj}(bl:X.ownsRow B e bn v n xs)(aX:X.grownBy y v.ownBlock)(ab:k<B)(hR:k≠R)(h:X.heap[k]?=some o):(y.setCell (ag R i) u).heap[k]?=some o:=
 (jg hR).trans ((aX.block k (lt_of_heap h) (fun e=>by have:=(bl.lt k e.symm).1;omega)).trans h)
theorem ss.Bf{S:Jp}{w0:bTo}{g:Nat}{gs:agv}{b:bR}{os:List ec}{es:List (bR×Bool)}{fx fP sr:ada}{X y:bTo}{xs:bTv}{d:Bool}{bs:dL}{s:bh}{pl:aya}{cl:Nat}{pp:aya}{cp:Nat}{V:bTv}
  (h:ss S w0 g gs b os es fx fP X) (lS:X.ownsRow (g+1+1+1+1) dQ 11 fx os.length xs) (hp:dS S X (qg os) xs) (hS:∀k,S k→k<g+1+1+1) (hR:w0.heap.size≤g)
  (aX:X.grownBy y fx.ownBlock) (nQ:V=ai d::l5 bs (ad pl bs.l.length cl) (ad pp s.len cp)) (cM:y.ownsRow (g+1+1+1+1) dQ 11 sr (os.length+1) (xs++V)) (af:dY S X pl cl pp cp ⟨bs,s⟩):
  ss S w0 g gs b (os++[(d,⟨bs,s⟩)]) es sr fP (y.setCell (ag (g+1+1+1) 0) sr):=by
 subst nQ;exact⟨C3 lS aX (by omega) (by omega) h.wM,C3 lS aX (by omega) (by omega) h.aU,C3 lS aX (by omega) (by omega) h.res,tI.Bf (x:=X) h.n.r lS hp h.n.e h.n.aY hS (by omega) aX cM af⟩
theorem ss.E0{S:Jp}{w0:bTo}{g:Nat}{gs:agv}{b:bR}{os:List ec}{es:List (bR×Bool)}{fx fP tJ:ada}{X y:bTo}{c:bR}{a:Bool}
  (h:ss S w0 g gs b os es fx fP X) (hS:∀k,S k→k<g+1+1+1) (hR:w0.heap.size≤g)
  (aX:X.grownBy y fP.ownBlock) (cM:y.ownsRow (g+1+1+1+1) jV 5 tJ (es.length+1) (oS es++CZ c a)):
  ss S w0 g gs b os (es++[(c,a)]) fx tJ (y.setCell (ag (g+1+1+1) 1) tJ):=
 ⟨C3 h.n.e aX (by omega) (by omega) h.wM,C3 h.n.e aX (by omega) (by omega) h.aU,C3 h.n.e aX (by omega) (by omega) h.res,h.n.E0 hS (by omega) aX cM⟩
theorem aky(l:List eJ)(b:bR)(x:eJ)(y:Bool)(h:(x.any || !uv x.b b)=y):fC (l++[x]) b=if y=true then fC l b++[x] else fC l b:=by
 unfold fC;rw[List.filter_append];cases y with
 |true=>simp[h]
 |false=>simp[h]
theorem KQ(l:List eJ)(b:bR):(fC l b).length≤l.length:=List.length_filter_le _ _
abbrev zK(l:List eJ):List ec:=l.map eJ.o
abbrev zL(l:List eJ):List (bR×Bool):=l.map fun e=>(e.b,e.any)
variable{w w0:bTo}
theorem oT{a b:ada}(h:bo w k (#[a,b]) t):aw w k 0 a∧aw w k 1 b:=by constructor<;>simp[World.cell?,h]
theorem TF{a b c d e:ada}(h:bo w k (#[a,b,c,d,e]) t):aw w k 0 a∧aw w k 1 b∧aw w k 2 c∧aw w k 3 d∧aw w k 4 e:=by refine⟨?_,?_,?_,?_,?_⟩<;>simp[World.cell?,h]
theorem KR(S:Jp)(g:List eJ)(p q:aya)(n c d:Nat)(b:bR)(hn:n=g.length)(w:bTo)(H:J (mD S w p q g)):
  Calls Tryz.prog 86 #[.agg (lR p n c q d),gJ b] w fun e w'=>∃iK c' jF fQ,e=bb (.agg (lR iK (fC g b).length c' jF fQ))∧mD (fun k=>S k∨w.heap.size≤k) w' iK jF (fC g b)∧av w w w':=by
 have mw:n≤1000000000:=by rw[hn];have:=H.out.o.1;simpa using this
 have a1:=U hn;have fv:J (mD (fun k=>S k∧k<w.heap.size) w p q g):=H.out.mono (fun k aa ah=>⟨ah,aa⟩);have cF:J (∀k,(S k∧k<w.heap.size)→k<w.heap.size+1+1+1):=fun k h=>by omega
 obtain⟨lT,py⟩:∃lT:Jp,(fun k=>S k∧k<w.heap.size)=lT:=⟨_,rfl⟩;have wN:J (∀k,lT k→S k):=by rw[←py];exact fun k h=>h.1
 have js:J (∀k,lT k→k<w.heap.size+1+1+1):=by rw[←py];exact cF.out
 have pz:J (∀k,lT k→k<w.heap.size):=by rw[←py];exact fun k h=>h.2
 rw[py] at fv;obtain⟨ao,ak,ar,aq⟩:=b;clear hn py H cF;go_enter Tryz.func86,Tryz.ntmps86;go_upto_region 2 with fail;obtain⟨W,a6⟩:=az ((((w.alloc (aD (lR p n c q d) jt)).alloc (cH ⟨ao,ak,ar,aq⟩)).alloc (aD (#[ay 0,ay 0]) jt)).alloc (aD (#[ay 0,ay 0]) jt));have bB:J (ss lT w w.heap.size (lR p n c q d) ⟨ao,ak,ar,aq⟩ [] [] (ay 0) (ay 0) W):=by obtain⟨aa,ah,ax,bg,af⟩:=zj a6;exact⟨aa,ah,ax,bg,⟨[],⟨rfl,.inl ⟨rfl,rfl⟩⟩,trivial⟩,⟨rfl,.inl ⟨rfl,rfl⟩⟩,af⟩
 rw[a6];clear a6;obtain⟨g0,g1⟩:=oT bB.out.wM;go_wp2_with fail
 go_loopw [11] (fun i wr=>∃(j:Nat) (fx fP:ada) (aG:bTo),aG=wr∧j≤n∧i=I j∧J (ss lT w w.heap.size (lR p n c q d) ⟨ao,ak,ar,aq⟩ (zK (fC (g.take j) ⟨ao,ak,ar,aq⟩)) (zL (fC (g.take j) ⟨ao,ak,ar,aq⟩)) fx fP aG)) (fun i _=>n -(intOf i).toNat)
 case atStart=>exact⟨0,_,_,_,rfl,eC _,rfl,bB.out⟩
 case round=>
 obtain⟨j,fx,fP,aG,rfl,cB,rfl,aH⟩:=hrel;clear g0 g1 bB;obtain⟨qN,uX⟩:=az (zK (fC (g.take j) ⟨ao,ak,ar,aq⟩));obtain⟨zM,E3⟩:=az (zL (fC (g.take j) ⟨ao,ak,ar,aq⟩));rw[uX,E3] at aH;have uY:=U uX.symm;have mi:=U E3.symm;clear uX E3;by_cases b0:j<n
 ·have fs:j<g.length:=(by rw[←a1.out];exact b0);have ib:(j:Int)<(n:Int):=(by omega);obtain⟨⟨⟨od,⟨an,os⟩⟩,⟨kt,ku,kv,kx⟩,tK⟩,aC⟩:=az (g[j]);obtain⟨hY,lK,pl,cl,pp,cp,rfl,ri,_,eF,aJ,aI,c2,c3,bF,c5,b1,b5,bS,bf,cy⟩:=fv.out.o.at (n:=j) (by rw[hk];exact fs) (show (g.map eJ.o)[j]'(by rw[hk];exact fs)=(od,⟨an,os⟩) by rw[J6,aC]);obtain⟨avS,avT,rfl,cJ,aN,aR,cA,hN⟩:=fv.out.e.at (i:=j) (by rw[hk];exact fs) (show (g.map fun e=>(e.b,e.any))[j]'(by rw[hk];exact fs)=(⟨kt,ku,kv,kx⟩,tK) by rw[J6,aC]);have pw:=U eF;obtain⟨nl,gp⟩:=az an.l.length;obtain⟨mp,Bk⟩:=az os.len;have rf:=U gp;have OT:=U Bk;rw[gp] at bf;rw[Bk] at cy;clear gp Bk;have eB:=aH.out.n.aY;have bm:=U (And.intro (bM eB cJ) (And.intro (bM eB aN) (And.intro (bM eB aR) (And.intro (bM eB cA) (bM eB hN)))));have b':=U (And.intro aJ (And.intro aI (And.intro c2 (And.intro c3 (And.intro bF (And.intro c5 (And.intro b1 (And.intro b5 (And.intro bS (And.intro bf cy))))))))));clear aJ aI c2 c3 bF c5 b1 b5 bS bf cy cJ aN aR cA hN eF eB;obtain⟨y,hy⟩:=az (tK || !uv ⟨kt,ku,kv,kx⟩ ⟨ao,ak,ar,aq⟩);have wJ:=U (aky (g.take j) ⟨ao,ak,ar,aq⟩ ⟨(od,⟨an,os⟩),⟨kt,ku,kv,kx⟩,tK⟩ y hy);have tL:J (g.take (j+1)=g.take j++[⟨(od,⟨an,os⟩),⟨kt,ku,kv,kx⟩,tK⟩]):=(by show _=_;rw[x4 fs,aC]);obtain⟨x6,se⟩:=az (uv ⟨kt,ku,kv,kx⟩ ⟨ao,ak,ar,aq⟩);have pA:=U se;rw[se] at hy;have cq:=U hy;clear aC hy se;obtain⟨cJ,aN,aR,cA,hN⟩:=bm.out;go_upto_region 5 with fail;have cm:=U (aH.out.below (ba aG (aD (#[I kt,I ku,I kv,I kx,ai tK]) jV)));have jE:J ((aG.alloc (aD (#[I kt,I ku,I kv,I kx,ai tK]) jV)).heap[aG.heap.size]?=some (.cells #[I kt,I ku,I kv,I kx,ai tK] jV)):=cw _ _;generalize aG.alloc (.cells #[I kt,I ku,I kv,I kx,ai tK] jV)=bQ at cm jE⊢;obtain⟨ex,hex⟩:=az aG.heap.size;rw[hex] at jE⊢;clear cJ aN aR cA hN hex aH bm;obtain⟨z0,z1,z2,z3,z4⟩:=TF jE.out;obtain⟨bX,b3,bc,ev⟩:=fD cm.out.aU;cases tK with
  |true=>
   have aE:J (fC (g.take (j+1)) ⟨ao,ak,ar,aq⟩=fC (g.take j) ⟨ao,ak,ar,aq⟩++[⟨(od,⟨an,os⟩),⟨kt,ku,kv,kx⟩,true⟩]):=(by show _=_;rw[tL.out,wJ.out,←cq.out];rfl);obtain⟨xs,j9,C4⟩:=cm.out.n.o;obtain⟨j',ka,rfl⟩:=ik j9;obtain⟨gW,m',rfl⟩:=ik cm.out.n.e;obtain⟨m2,iJ⟩:=az zM.length;have OU:m2≤1000000000:=(by rw[←iJ,mi.out,hk];have:=KQ (g.take j) ⟨ao,ak,ar,aq⟩;rw[mf] at this;omega);have dn:=U iJ;obtain⟨m,hm⟩:=az qN.length;have oU:m≤1000000000:=(by rw[←hm,uY.out,hk];have:=KQ (g.take j) ⟨ao,ak,ar,aq⟩;rw[mf] at this;omega);have x7:=U hm;have rC:J (bQ.ownsRow (w.heap.size+1+1+1+1) dQ 11 (ad j' qN.length ka) qN.length xs):=j9;have zn:=U C4;have ZR:=cm.out.n.aY.size;have E4:=lt_of_heap cm.out.n.r;have mF:=U (cm.out.below ((ba bQ (aD (#[ai od,I an.k,I an.a.1,I an.a.2,I an.b.1,I an.b.2,I an.c.1,I an.c.2,I an.r,ad pl nl cl,ad pp mp cp]) dQ)).drew));rw[hm,iJ] at cm mF;rw[hm] at rC;have hP:J (((bQ.alloc (aD (#[ai od,I an.k,I an.a.1,I an.a.2,I an.b.1,I an.b.2,I an.c.1,I an.c.2,I an.r,ad pl nl cl,ad pp mp cp]) dQ)).drew).ownsRow (w.heap.size+1+1+1+1) dQ 11 (ad j' m ka) m xs):=(rC.out.alloc _).drew;have ju:∀(cb:bTo),((bQ.alloc (aD (#[ai od,I an.k,I an.a.1,I an.a.2,I an.b.1,I an.b.2,I an.c.1,I an.c.2,I an.r,ad pl nl cl,ad pp mp cp]) dQ)).drew).grownBy cb (Value.slice j' m ka).ownBlock→aw cb (w.heap.size+1+1+1) 0 (ad j' m ka)∧cb.frozen? ⟨w.heap.size+1+1+1,0,none⟩=false:=(by intro cb pB;have aa:bo cb (w.heap.size+1+1+1) (#[ad j' m ka,ad gW m2 m']) jt:=(pB.block _ (lt_of_heap mF.out.n.r) (fun e=>by have:=(hP.out.lt _ e.symm).1;omega)).trans mF.out.n.r;exact⟨(oT aa).1,cP aa 0⟩);clear j9 C4 hm iJ;have TG:=lt_of_heap jE.out;obtain⟨i0,hi,cU,cW,dz⟩:=info_parts KP;have bY:=U (And.intro hi (And.intro cU (And.intro cW dz)));clear hi cU cW dz;obtain⟨jD,ie⟩:=oT cm.out.n.r;have fr:=cP cm.out.n.r;obtain⟨g0,g1⟩:=oT cm.out.wM;obtain⟨aJ,aI,c2,c3,bF,c5,b1,b5,bS,bf,cy⟩:=b'.out;have eB:=cm.out.n.aY;have d0:=bM eB aJ;have d1:=bM eB aI;have d2:=bM eB c2;have d3:=bM eB c3;have d4:=bM eB bF;have d5:=bM eB c5;have d6:=bM eB b1;have d7:=bM eB b5;have d8:=bM eB bS;have d9:=bM eB bf;have d10:=bM eB cy;clear aJ aI c2 c3 bF c5 b1 b5 bS bf cy eB;go_upto_region 6 with fail
   go_region_law (first|(refine x5 _ (by rfl) _ _ _ (by rfl) (w.heap.size+1+1+1+1) dQ i0 C2 11 120 E1 bY.out.1 bY.out.2.1 bY.out.2.2.1 bY.out.2.2.2 rfl (by omega) (ad j' m ka) m _ (by rfl) hP.out (ag bQ.heap.size 0) 1 1 [ai od,I an.k,I an.a.1,I an.a.2,I an.b.1,I an.b.2,I an.c.1,I an.c.2,I an.r,ad pl nl cl,ad pp mp cp] (by rfl) (by rfl) (jW (cs:= #[ai od,I an.k,I an.a.1,I an.a.2,I an.b.1,I an.b.2,I an.c.1,I an.c.2,I an.r,ad pl nl cl,ad pp mp cp]) (t:=dQ) (fr:=(0,0)) (gi bQ _)) (by simp[Value.oneCell']) (by omega) (by unfold maxLen;omega) (by omega) (by simp;omega) (bQ.heap.size+1) (by simp) ?_;intro gg il cb cM dW e0 h5;obtain⟨bN,ch⟩:=ju cb dW)|fail)
   all_goals
    have dx:=U (ss.Bf (d:=od) (bs:=an) (s:=os) (pl:=pl) (cl:=cl) (pp:=pp) (cp:=cp) mF.out (by rw[x7.out];exact hP.out) (zn.out.below ((ba bQ (aD (#[ai od,I an.k,I an.a.1,I an.a.2,I an.b.1,I an.b.2,I an.c.1,I an.c.2,I an.r,ad pl nl cl,ad pp mp cp]) dQ)).drew)) js.out (bD _) dW (show [ai od,I an.k,I an.a.1,I an.a.2,I an.b.1,I an.b.2,I an.c.1,I an.c.2,I an.r,ad pl nl cl,ad pp mp cp]=ai od::l5 an (ad pl an.l.length cl) (ad pp os.len cp) by rw[rf.out,OT.out]) (by rw[x7.out];exact cM) (pw.out.below mF.out.n.aY));have kK:J ((cb.setCell (ag (w.heap.size+1+1+1) 0) (bG gg 0 (m+1) il)).heap[ex]?=some (.cells #[I kt,I ku,I kv,I kx,ai true] jV)):=(by have aa:((bQ.alloc (aD (#[ai od,I an.k,I an.a.1,I an.a.2,I an.b.1,I an.b.2,I an.c.1,I an.c.2,I an.r,ad pl nl cl,ad pp mp cp]) dQ)).drew).heap[ex]?=some (.cells #[I kt,I ku,I kv,I kx,ai true] jV):=aO jE.out ((ba bQ (aD (#[ai od,I an.k,I an.a.1,I an.a.2,I an.b.1,I an.b.2,I an.c.1,I an.c.2,I an.r,ad pl nl cl,ad pp mp cp]) dQ)).drew);have ah:ex≠w.heap.size+1+1+1:=(by intro e;have ax:=mF.out.n.r;rw[←e,aa] at ax;injection ax with ax;injection ax with _ ax;exact absurd ax (by decide));exact (jg ah).trans ((dW.block ex (lt_of_heap aa) (fN (oR hP.out aa (by decide)))).trans aa));clear cM dW e0 h5 bN ch d0 d1 d2 d3 d4 d5 d6 d7 d8 d9 d10 g0 g1 jD ie fr E4 TG;generalize cb.setCell (ag (w.heap.size+1+1+1) 0) (ad (some (ag gg 0)) (m+1) il)=c6 at dx kK⊢;obtain⟨iN,hi,cU,cW,dz⟩:=info_parts TE;have dA:=U (And.intro hi (And.intro cU (And.intro cW dz)));clear hi cU cW dz;obtain⟨jD,ie⟩:=oT dx.out.n.r;have fr:=cP dx.out.n.r;obtain⟨z0,z1,z2,z3,z4⟩:=TF kK.out;have uZ:=U (dx.out.below (ba c6 (aD (#[I kt,I ku,I kv,I kx,ai true]) jV)));have KS:(c6.alloc (aD (#[I kt,I ku,I kv,I kx,ai true]) jV)).ownsRow (w.heap.size+1+1+1+1) jV 5 (ad gW m2 m') m2 (oS zM):=(by have:=uZ.out.n.e;rw[dn.out] at this;exact this);have KT:=U KS;have hh:=dx.out.n.aY.size;have zN:=lt_of_heap dx.out.n.r;have TH:∀(cb:bTo),(c6.alloc (aD (#[I kt,I ku,I kv,I kx,ai true]) jV)).grownBy cb (Value.slice gW m2 m').ownBlock→aw cb (w.heap.size+1+1+1) 1 (ad gW m2 m')∧cb.frozen? ⟨w.heap.size+1+1+1,1,none⟩=false:=(by intro cb pB;have aa:=(pB.block _ (lt_of_heap uZ.out.n.r) (fun e=>by have:=(KT.out.lt _ e.symm).1;omega)).trans uZ.out.n.r;exact⟨(oT aa).2,cP aa 1⟩);clear KS;go_wp2_with (at_builtin;refine zE _ rfl _ _ _ rfl (w.heap.size+1+1+1+1) jV iN OS 5 40 TD dA.out.1 dA.out.2.1 dA.out.2.2.1 dA.out.2.2.2 rfl (by omega) (ad gW m2 m') m2 _ (by rfl) KT.out (ag c6.heap.size 0) 1 1 [I kt,I ku,I kv,I kx,ai true] (by rfl) (by rfl) (jW (cs:= #[I kt,I ku,I kv,I kx,ai true]) (t:=jV) (fr:=(0,0)) (gi c6 _)) (by simp[Value.oneCell']) (by omega) (by unfold maxLen;omega) (by omega) (by simp;omega) (c6.heap.size+1) (by simp) ?_;intro ge KU bt cM dW e0 h5;obtain⟨bN,ch⟩:=TH bt dW);have fq:=U (ss.E0 (c:=⟨kt,ku,kv,kx⟩) (a:=true) uZ.out js.out (bD _) dW (by rw[dn.out];exact cM));clear cM dW e0 h5 bN ch jD ie fr z0 z1 z2 z3 z4;have aN:zK (fC (g.take (j+1)) ⟨ao,ak,ar,aq⟩)=qN++[(od,⟨an,os⟩)]:=(by rw[aE.out,zK,mh,uY.out];rfl);have aR:zL (fC (g.take (j+1)) ⟨ao,ak,ar,aq⟩)=zM++[(⟨kt,ku,kv,kx⟩,true)]:=(by rw[aE.out,zL,mh,mi.out];rfl);rw[←aN,←aR] at fq;go_round<;>first|exact⟨j+1,_,_,_,rfl,by omega,by go_num,fq.out⟩|(simp[intOf]<;>omega)
  |false=>
   go_wp2_with fail;go_fit (aiY ⟨kt,ku,kv,kx⟩ ⟨ao,ak,ar,aq⟩ x6 pA _);rintro e ct ⟨rfl,af⟩;have c1:=U (cm.out.below af);have l':=U (aO jE.out af);clear bX b3 bc ev z0 z1 z2 z3 z4 af jE cm;cases x6 with
   |true=>
    have aE:J (fC (g.take (j+1)) ⟨ao,ak,ar,aq⟩=fC (g.take j) ⟨ao,ak,ar,aq⟩):=(by show _=_;rw[tL.out,wJ.out,←cq.out];rfl);go_wp2_with fail;go_round<;>first|exact⟨j+1,_,_,_,rfl,by omega,by go_num,by rw[aE.out,←uY.out,←mi.out];exact c1.out⟩|(simp[intOf]<;>omega)
   |false=>
    have aE:J (fC (g.take (j+1)) ⟨ao,ak,ar,aq⟩=fC (g.take j) ⟨ao,ak,ar,aq⟩++[⟨(od,⟨an,os⟩),⟨kt,ku,kv,kx⟩,false⟩]):=(by show _=_;rw[tL.out,wJ.out,←cq.out];rfl);obtain⟨xs,j9,C4⟩:=c1.out.n.o;obtain⟨j',ka,rfl⟩:=ik j9;obtain⟨gW,m',rfl⟩:=ik c1.out.n.e;obtain⟨m2,iJ⟩:=az zM.length;have OU:m2≤1000000000:=(by rw[←iJ,mi.out,hk];have:=KQ (g.take j) ⟨ao,ak,ar,aq⟩;rw[mf] at this;omega);have dn:=U iJ;obtain⟨m,hm⟩:=az qN.length;have oU:m≤1000000000:=(by rw[←hm,uY.out,hk];have:=KQ (g.take j) ⟨ao,ak,ar,aq⟩;rw[mf] at this;omega);have x7:=U hm;have rC:J (ct.ownsRow (w.heap.size+1+1+1+1) dQ 11 (ad j' qN.length ka) qN.length xs):=j9;have zn:=U C4;have ZR:=c1.out.n.aY.size;have E4:=lt_of_heap c1.out.n.r;have mF:=U (c1.out.below ((ba ct (aD (#[ai od,I an.k,I an.a.1,I an.a.2,I an.b.1,I an.b.2,I an.c.1,I an.c.2,I an.r,ad pl nl cl,ad pp mp cp]) dQ)).drew));rw[hm,iJ] at c1 mF;rw[hm] at rC;have hP:J (((ct.alloc (aD (#[ai od,I an.k,I an.a.1,I an.a.2,I an.b.1,I an.b.2,I an.c.1,I an.c.2,I an.r,ad pl nl cl,ad pp mp cp]) dQ)).drew).ownsRow (w.heap.size+1+1+1+1) dQ 11 (ad j' m ka) m xs):=(rC.out.alloc _).drew;have ju:∀(cb:bTo),((ct.alloc (aD (#[ai od,I an.k,I an.a.1,I an.a.2,I an.b.1,I an.b.2,I an.c.1,I an.c.2,I an.r,ad pl nl cl,ad pp mp cp]) dQ)).drew).grownBy cb (Value.slice j' m ka).ownBlock→aw cb (w.heap.size+1+1+1) 0 (ad j' m ka)∧cb.frozen? ⟨w.heap.size+1+1+1,0,none⟩=false:=(by intro cb pB;have aa:bo cb (w.heap.size+1+1+1) (#[ad j' m ka,ad gW m2 m']) jt:=(pB.block _ (lt_of_heap mF.out.n.r) (fun e=>by have:=(hP.out.lt _ e.symm).1;omega)).trans mF.out.n.r;exact⟨(oT aa).1,cP aa 0⟩);clear j9 C4 hm iJ;have TG:=lt_of_heap l'.out;obtain⟨i0,hi,cU,cW,dz⟩:=info_parts KP;have bY:=U (And.intro hi (And.intro cU (And.intro cW dz)));clear hi cU cW dz;obtain⟨jD,ie⟩:=oT c1.out.n.r;have fr:=cP c1.out.n.r;obtain⟨g0,g1⟩:=oT c1.out.wM;obtain⟨aJ,aI,c2,c3,bF,c5,b1,b5,bS,bf,cy⟩:=b'.out;have eB:=c1.out.n.aY;have d0:=bM eB aJ;have d1:=bM eB aI;have d2:=bM eB c2;have d3:=bM eB c3;have d4:=bM eB bF;have d5:=bM eB c5;have d6:=bM eB b1;have d7:=bM eB b5;have d8:=bM eB bS;have d9:=bM eB bf;have d10:=bM eB cy;clear aJ aI c2 c3 bF c5 b1 b5 bS bf cy eB;go_upto_region 6 with fail
    go_region_law (first|(refine x5 _ (by rfl) _ _ _ (by rfl) (w.heap.size+1+1+1+1) dQ i0 C2 11 120 E1 bY.out.1 bY.out.2.1 bY.out.2.2.1 bY.out.2.2.2 rfl (by omega) (ad j' m ka) m _ (by rfl) hP.out (ag ct.heap.size 0) 1 1 [ai od,I an.k,I an.a.1,I an.a.2,I an.b.1,I an.b.2,I an.c.1,I an.c.2,I an.r,ad pl nl cl,ad pp mp cp] (by rfl) (by rfl) (jW (cs:= #[ai od,I an.k,I an.a.1,I an.a.2,I an.b.1,I an.b.2,I an.c.1,I an.c.2,I an.r,ad pl nl cl,ad pp mp cp]) (t:=dQ) (fr:=(0,0)) (gi ct _)) (by simp[Value.oneCell']) (by omega) (by unfold maxLen;omega) (by omega) (by simp;omega) (ct.heap.size+1) (by simp) ?_;intro gg il cb cM dW e0 h5;obtain⟨bN,ch⟩:=ju cb dW)|fail)
    all_goals
     have dx:=U (ss.Bf (d:=od) (bs:=an) (s:=os) (pl:=pl) (cl:=cl) (pp:=pp) (cp:=cp) mF.out (by rw[x7.out];exact hP.out) (zn.out.below ((ba ct (aD (#[ai od,I an.k,I an.a.1,I an.a.2,I an.b.1,I an.b.2,I an.c.1,I an.c.2,I an.r,ad pl nl cl,ad pp mp cp]) dQ)).drew)) js.out (bD _) dW (show [ai od,I an.k,I an.a.1,I an.a.2,I an.b.1,I an.b.2,I an.c.1,I an.c.2,I an.r,ad pl nl cl,ad pp mp cp]=ai od::l5 an (ad pl an.l.length cl) (ad pp os.len cp) by rw[rf.out,OT.out]) (by rw[x7.out];exact cM) (pw.out.below mF.out.n.aY));have kK:J ((cb.setCell (ag (w.heap.size+1+1+1) 0) (bG gg 0 (m+1) il)).heap[ex]?=some (.cells #[I kt,I ku,I kv,I kx,ai false] jV)):=(by have aa:((ct.alloc (aD (#[ai od,I an.k,I an.a.1,I an.a.2,I an.b.1,I an.b.2,I an.c.1,I an.c.2,I an.r,ad pl nl cl,ad pp mp cp]) dQ)).drew).heap[ex]?=some (.cells #[I kt,I ku,I kv,I kx,ai false] jV):=aO l'.out ((ba ct (aD (#[ai od,I an.k,I an.a.1,I an.a.2,I an.b.1,I an.b.2,I an.c.1,I an.c.2,I an.r,ad pl nl cl,ad pp mp cp]) dQ)).drew);have ah:ex≠w.heap.size+1+1+1:=(by intro e;have ax:=mF.out.n.r;rw[←e,aa] at ax;injection ax with ax;injection ax with _ ax;exact absurd ax (by decide));exact (jg ah).trans ((dW.block ex (lt_of_heap aa) (fN (oR hP.out aa (by decide)))).trans aa));clear cM dW e0 h5 bN ch d0 d1 d2 d3 d4 d5 d6 d7 d8 d9 d10 g0 g1 jD ie fr E4 TG;generalize cb.setCell (ag (w.heap.size+1+1+1) 0) (ad (some (ag gg 0)) (m+1) il)=c6 at dx kK⊢;obtain⟨iN,hi,cU,cW,dz⟩:=info_parts TE;have dA:=U (And.intro hi (And.intro cU (And.intro cW dz)));clear hi cU cW dz;obtain⟨jD,ie⟩:=oT dx.out.n.r;have fr:=cP dx.out.n.r;obtain⟨z0,z1,z2,z3,z4⟩:=TF kK.out;have uZ:=U (dx.out.below (ba c6 (aD (#[I kt,I ku,I kv,I kx,ai false]) jV)));have KS:(c6.alloc (aD (#[I kt,I ku,I kv,I kx,ai false]) jV)).ownsRow (w.heap.size+1+1+1+1) jV 5 (ad gW m2 m') m2 (oS zM):=(by have:=uZ.out.n.e;rw[dn.out] at this;exact this);have KT:=U KS;have hh:=dx.out.n.aY.size;have zN:=lt_of_heap dx.out.n.r;have TH:∀(cb:bTo),(c6.alloc (aD (#[I kt,I ku,I kv,I kx,ai false]) jV)).grownBy cb (Value.slice gW m2 m').ownBlock→aw cb (w.heap.size+1+1+1) 1 (ad gW m2 m')∧cb.frozen? ⟨w.heap.size+1+1+1,1,none⟩=false:=(by intro cb pB;have aa:=(pB.block _ (lt_of_heap uZ.out.n.r) (fun e=>by have:=(KT.out.lt _ e.symm).1;omega)).trans uZ.out.n.r;exact⟨(oT aa).2,cP aa 1⟩);clear KS;go_wp2_with (at_builtin;refine zE _ rfl _ _ _ rfl (w.heap.size+1+1+1+1) jV iN OS 5 40 TD dA.out.1 dA.out.2.1 dA.out.2.2.1 dA.out.2.2.2 rfl (by omega) (ad gW m2 m') m2 _ (by rfl) KT.out (ag c6.heap.size 0) 1 1 [I kt,I ku,I kv,I kx,ai false] (by rfl) (by rfl) (jW (cs:= #[I kt,I ku,I kv,I kx,ai false]) (t:=jV) (fr:=(0,0)) (gi c6 _)) (by simp[Value.oneCell']) (by omega) (by unfold maxLen;omega) (by omega) (by simp;omega) (c6.heap.size+1) (by simp) ?_;intro ge KU bt cM dW e0 h5;obtain⟨bN,ch⟩:=TH bt dW);have fq:=U (ss.E0 (c:=⟨kt,ku,kv,kx⟩) (a:=false) uZ.out js.out (bD _) dW (by rw[dn.out];exact cM));clear cM dW e0 h5 bN ch jD ie fr z0 z1 z2 z3 z4;have aN:zK (fC (g.take (j+1)) ⟨ao,ak,ar,aq⟩)=qN++[(od,⟨an,os⟩)]:=(by rw[aE.out,zK,mh,uY.out];rfl);have aR:zL (fC (g.take (j+1)) ⟨ao,ak,ar,aq⟩)=zM++[(⟨kt,ku,kv,kx⟩,false)]:=(by rw[aE.out,zL,mh,mi.out];rfl);rw[←aN,←aR] at fq;go_round<;>first|exact⟨j+1,_,_,_,rfl,by omega,by go_num,fq.out⟩|(simp[intOf]<;>omega)
 ·have iH:j=n:=(by omega);subst iH;have dF:J (g.take j=g):=(by show _=_;rw[a1.out];exact uo);rw[dF.out] at uY mi;have i6:=aH.out.n;rw[uY.out,mi.out] at i6;obtain⟨iK,c',jF,fQ,KV,KW,x8⟩:=i6.done (R':=fun k=>lT k∨w.heap.size+1+1+1+1≤k) (by have aa:=KQ g ⟨ao,ak,ar,aq⟩;have ah:=a1.out;show _≤1000000000;omega) (fun k h=>.inl h) (fun k h=>.inr h);have E5:=U x8;obtain⟨L,lU⟩:=az ((fC g ⟨ao,ak,ar,aq⟩).length);have E6:=U lU;rw[lU] at KV KW;subst KV KW;clear i6 x8 lU;obtain⟨jD,ie⟩:=oT aH.out.n.r;obtain⟨u0,u1⟩:=oT aH.out.res;have fu:=cP aH.out.res;go_wp2_with fail;have hO:=me [ad iK L c',ad jF L fQ] aH.out.res rfl;have af:=pt (m:=0) (b:=w.heap.size+1+1) (show w.heap.size≤w.heap.size+1+1 by omega) [ad iK L c',ad jF L fQ] aH.out.n.aY;refine dH (rq rfl _ _ (w.heap.size+1+1) _ _ _ _ rfl hO Tryz.underlying201 rfl (by kernel_rfl)) rfl ⟨iK,c',jF,fQ,by rw[E6.out],?_,af⟩;refine (E5.out.keep (xT (S:=fun k=>lT k∨w.heap.size+1+1+1+1≤k) (b:=w.heap.size+1+1) (m:=0) (fun h=>?_) [ad iK L c',ad jF L fQ])).mono (fun k _ h=>?_)
  ·rcases h with h|h
   ·have:=pz.out _ h;omega
   ·omega
  ·rcases h with h|h
   ·exact .inl (wN.out k h)
   ·exact .inr (by omega)
variable{S:Jp}
theorem hX.uniq{x9:Jp}{p:aya}{l u':List bp}(h:hX S w p l)(fy:hX x9 w p u')(aj:l.length=u'.length):l=u':=by apply List.ext_getElem aj;intro i aa ah;obtain⟨b,o,cs,e,_,aF,hc⟩:=h.2 (by omega);obtain⟨bd,uG,kM,lE,_,va,q8⟩:=fy.2 (by omega);rw[e] at lE;injection lE with lE;injection lE with aN aR;subst aN aR;rw[aF] at va;injection va with va;injection va with va _;subst va;obtain⟨a',a2⟩:=hc i aa;obtain⟨b3,bc⟩:=q8 i ah;rw[a'] at b3;rw[a2] at bc;injection b3 with b3;injection b3 with _ b3;injection bc with bc;injection bc with _ bc;exact Prod.ext b3 bc
theorem iF.uniq{S x9:Jp}{w:bTo}{p:aya}{l u':List (List bp)}(h:iF S w p l)(fy:iF x9 w p u')(aj:l.length=u'.length):l=u':=by apply List.ext_getElem aj;intro i aa ah;obtain⟨b,o,cs,e,_,aF,hc⟩:=h.2 (by omega);obtain⟨bd,uG,kM,lE,_,va,q8⟩:=fy.2 (by omega);rw[e] at lE;injection lE with lE;injection lE with aN aR;subst aN aR;rw[aF] at va;injection va with va;injection va with va _;subst va;obtain⟨q,c,a',_,a2⟩:=hc i aa;obtain⟨jF,c',b3,_,bc⟩:=q8 i ah;rw[a'] at b3;injection b3 with b3;injection b3 with aN aR _;subst aN;exact a2.uniq bc aR
theorem dS.uniq{S x9:Jp}{w:bTo}:∀{s s':bh} {xs:bTv},dS S w s xs→dS x9 w s' xs→s.len=s'.len→s=s'
 |.nil,.nil,_,_,_,_=>rfl
 |.nil,.cons _ _ _ _,_,_,_,aj=>by simp[bh.len] at aj
 |.cons _ _ _ _,.nil,_,_,_,aj=>by simp[bh.len] at aj
 |.cons a b s r,.cons h2 bd s' gm,xs,h,fy,aj=>by
  obtain⟨⟨pl,cl,pp,cp,aa,ah,ax,bg,b7,c0⟩,ea⟩:=h;obtain⟨⟨avU,avV,avW,avX,TI,avY,su,akz,avZ,akA⟩,akB⟩:=fy;rw[aa] at TI;obtain⟨k,⟨aA,aB⟩,⟨aU,aZ⟩,⟨cx,aP⟩,jD,l⟩:=b;obtain⟨tM,⟨av0,av1⟩,⟨av2,av3⟩,⟨ZS,av4⟩,av5,u'⟩:=bd;simp only[KO,Value.bool.injEq,Value.int.injEq,true_and,Value.slice.injEq,and_true] at TI;obtain⟨cJ,aN,aR,cA,hN,mC,kR,uV,lD,⟨j8,tG,_⟩,TJ,ZT,_⟩:=TI;subst cJ aN aR cA hN mC kR uV lD j8 TJ;have kb:l=u':=bg.uniq akz tG;subst kb
  have hs:s=s':=by
   rcases GV s.len with aQ|aQ
   ·cases s with
    |nil=>
     cases s' with
     |nil=>rfl
     |cons _ _ _ _=>simp[bh.len] at ZT
    |cons _ _ _ _=>simp[bh.len] at aQ
   ·obtain⟨bP,dt,TK,bN,_,E7,A2⟩:=c0 aQ;obtain⟨a8,cE,x',ch,_,pC,ob⟩:=akA (by omega);rw[bN] at ch;injection ch with ch;injection ch with f1 f2;subst f1 f2;rw[E7] at pC;injection pC with pC;injection pC with pC _;subst pC;exact dS.uniq A2 ob ZT
  subst hs;have hr:r=gm:=dS.uniq ea akB (by simp only[bh.len] at aj;omega);rw[hr]
theorem iG.uniq{S x9:Jp}{w:bTo}{p:aya}{s s':bh}(h:iG S w p s)(fy:iG x9 w p s')(aj:s.len=s'.len):s=s':=by
 rcases GV s.len with aQ|aQ
 ·cases s with
  |nil=>
   cases s' with
   |nil=>rfl
   |cons _ _ _ _=>simp[bh.len] at aj
  |cons _ _ _ _=>simp[bh.len] at aQ
 ·obtain⟨bP,dt,TK,bN,_,E7,A2⟩:=h.2 aQ;obtain⟨a8,cE,x',ch,_,pC,ob⟩:=fy.2 (by omega);rw[bN] at ch;injection ch with ch;injection ch with f1 f2;subst f1 f2;rw[E7] at pC;injection pC with pC;injection pC with pC _;subst pC;exact dS.uniq A2 ob aj
abbrev ya:TypeId:=292
abbrev OV:TypeId:=294
abbrev iP:=Nat×Nat×Nat
abbrev lV(k:iP):Value:=.agg #[dv k.1 k.2.1,I (k.2.2:Int)]
variable{ca:agv}
theorem akC(k j:iP)(w:bTo){akD:agv}{akE akF:aui}(ha:w.heap[k.1]?=some (.cells ca akE (0,0)))(af:w.heap[j.1]?=some (.cells akD akF (0,0))):(Op.equal ya (lV k) (lV j)).run Tryz.prog w=.ok (decide (k=j)) w:=by
 obtain⟨a,b,c⟩:=k;obtain⟨h2,bd,c'⟩:=j;simp only at ha af;have hs:Tryz.prog.stoodInHeld ya=false:=by kernel_rfl
 have Hb:(Tryz.prog.info? fb).map (fun i=>i.size)=some 11:=by kernel_rfl
 obtain⟨i,hi,hh⟩:∃i,Tryz.prog.info? fb=some i∧i.size=11:=by
  cases h:Tryz.prog.info? fb with
  |none=>rw[h] at Hb;cases Hb
  |some i=>rw[h] at Hb;exact⟨i,rfl,by simpa using Hb⟩
 have key:∀(D d:Nat) (r:Bool),D=d+1+1→(sameAddr (ag a b) (ag h2 bd)).run Tryz.prog w=.ok r w→(Op.equalIn D ya (lV (a,b,c)) (lV (h2,bd,c'))).run Tryz.prog w=.ok (r&&decide (c=c')) w:=by
  intro D d r bZ hr;subst bZ;have akG:(Op.equalIn (d+1) 190 (dv a b) (dv h2 bd)).run Tryz.prog w=.ok r w:=(by rw[Op.equalIn];simp[jT HL,sizeOf,typeInfo,hi,hh,hr]);have oV:(Op.equalIn (d+1) 3 (I (c:Int)) (I (c':Int))).run Tryz.prog w=.ok (decide (c=c')) w:=(by rw[Op.equalIn];simp[jT zG];rw[xO,tC,gH];omega);have KX:∀(x:Addr) (y:ada),(part 190 #[.pointer (some x),y] 0).run Tryz.prog w=.ok (.pointer (some x)) w:=(fun x y=>by simp[part,jT HL]);have bp:∀(x:ada) (y:Int),(part 3 #[x,I y] 1).run Tryz.prog w=.ok (I y) w:=(fun x y=>by simp[part,jT zG]);rw[Op.equalIn];simp only[jT ON,OO,EC];simp[hs];simp only[KX,bp,akG,oV,EC];cases r
  ·simp[Result.andThen]
  ·by_cases hc:c=c'<;>simp[hc,Result.andThen]
 by_cases hp:(⟨a,b,none⟩:Addr)=⟨h2,bd,none⟩
 ·have h:=key 10000 9998 true (by decide) (by rw[←hp];exact run_sameAddr_same (P:=Tryz.prog) w _);have aa:a=h2:=gb Addr.block hp;have ah:b=bd:=gb Addr.off hp;subst aa ah;simp only[Op.equal,Op.maxDepth];rw[h];simp
 ·have h:=key 10000 9998 false (by decide) (run_sameAddr_other (P:=Tryz.prog) w hp ha af);simp only[Op.equal,Op.maxDepth];rw[h];have hn:¬((a,b,c):iP)=(h2,bd,c'):=fun e=>hp (by rw[show a=h2 from gb (fun x:iP=>x.1) e,show b=bd from gb (fun x:iP=>x.2.1) e]);rw[eD hn];rfl
def sw(w:bTo)(M:Nat)(L:List (iP×Int)):Prop:=∃es c,w.heap[M]?=some (.map es c)∧es.toList.map (fun e=>(e.key,e.val))=L.map (fun x=>(lV x.1,Value.int .i64 x.2))
def E8(w:bTo)(L:List (iP×Int)):Prop:=∀x∈L,∃cs,w.heap[x.1.1]?=some (.cells cs fb (0,0))
def ky(L:List (iP×Int))(k:iP):Option Int:=(L.find? fun x=>decide (k=x.1)).map Prod.snd
theorem TL(w:bTo)(k:iP){ca:agv}(ha:w.heap[k.1]?=some (.cells ca fb (0,0))):∀(L:List (iP×Int)) (es:List MapEntry) (i:Nat),E8 w L→es.map (fun e=>(e.key,e.val))=L.map (fun x=>(lV x.1,Value.int .i64 x.2))→
  (Instr.findAsking ya (lV k) es i).run Tryz.prog w=.ok ((L.findIdx? fun x=>decide (k=x.1)).map fun j=>(i+j,Value.int .i64 ((ky L k).getD 0))) w
 |[],es,i,_,he=>by have:es=[]:=(by simpa using he);subst this;simp[Instr.findAsking]
 |x::L,es,i,af,he=>by
  cases es with
  |nil=>simp at he
  |cons e es=>
   simp only[r4,KO,gA] at he;obtain⟨⟨aa,ah⟩,ax⟩:=he;obtain⟨cs,h1⟩:=af x (by simp);have heq:=akC k x.1 w ha h1;rw[←aa] at heq;by_cases ab:k=x.1
   ·rw[eH ab] at heq;subst ab;simp[Instr.findAsking,heq,ky,ah,C0]
   ·rw[eD ab] at heq;have dc:=TL w k ha L es (i+1) (fun y hy=>af y (by simp[hy])) ax;simp[Instr.findAsking,heq,ab,dc,ky,C0,y',Eh 1];rfl
theorem TM(k:iP)(w:bTo):(Instr.checkKey false 10000 ya (lV k)).run Tryz.prog w=.ok () w∧(Instr.checkKey true 10000 ya (lV k)).run Tryz.prog w=.ok () w:=by
 have key:∀(D d:Nat) (em:Bool),D=d+1+1→(Instr.checkKey em D ya (lV k)).run Tryz.prog w=.ok () w:=by intro D d em bZ;subst bZ;have KX:∀(x:Addr) (y:ada),(part 190 #[.pointer (some x),y] 0).run Tryz.prog w=.ok (.pointer (some x)) w:=(fun x y=>by simp[part,jT HL]);have bp:∀(x:ada) (y:Int),(part 3 #[x,I y] 1).run Tryz.prog w=.ok (I y) w:=(fun x y=>by simp[part,jT zG]);have HM:∀x:Addr,(Instr.checkKey em (d+1) 190 (.pointer (some x))).run Tryz.prog w=.ok () w:=(fun x=>by simp[Instr.checkKey,jT HL]);have HN:∀x:Int,(Instr.checkKey em (d+1) 3 (I x)).run Tryz.prog w=.ok () w:=(fun x=>by simp[Instr.checkKey,jT zG]);rw[Instr.checkKey];simp only[jT ON,OO,EC];simp[KX,bp,HM,HN]
 exact⟨key 10000 9998 false (by decide),key 10000 9998 true (by decide)⟩
theorem OW(k:iP)(es:List MapEntry)(w:bTo):(Instr.findKey ya (lV k) es).run Tryz.prog w=(Instr.findAsking ya (lV k) es).run Tryz.prog w:=
 run_findKey_eq w (by rw[ON]) _ _
variable{L:List (iP×Int)}
theorem akH{M:Nat}(h:sw w M L)(af:E8 w L)(k:iP)(ha:w.heap[k.1]?=some (.cells ca fb (0,0))):
  (Instr.lookup OV (.map (some M)) (lV k) true).run Tryz.prog w=.ok (.tuple #[I ((ky L k).getD 0),ai (ky L k).isSome]) w:=by
 obtain⟨es,c,na,he⟩:=h;have hf:=TL w k ha L es.toList 0 af he;have C5:∀b,(Instr.checkKey b 10000 ya (lV k)).run Tryz.prog w=.ok () w:=fun b=>by cases b;exact (TM k w).1;exact (TM k w).2
 have bx:Tryz.prog.info? 3≠none:=by intro h;have:(Tryz.prog.info? 3).isSome=true:=(by kernel_rfl);rw[h] at this;cases this
 cases hi:L.findIdx? (fun x=>decide (k=x.1)) with
 |none=>
  have hn:ky L k=none:=(by unfold ky;rw[ZP] at hi;rw[List.find?_eq_none.2 (fun x hx=>by simpa using hi x hx)];rfl);rw[hi] at hf;simp[Instr.lookup,jT OP,OQ na,C5,OW,hf,hn,Result.andThen]
 |some j=>
  have hn:(ky L k).isSome=true:=(by unfold ky;rw[Option.isSome_map,List.find?_isSome];obtain⟨aa,ah,_⟩:=List.findIdx?_eq_some_iff_getElem.1 hi;exact⟨L[j],j4 _,ah⟩);rw[hi] at hf;simp[Instr.lookup,jT OP,OQ na,C5,OW,hf,hn,Result.andThen]
def oj(L:List (iP×Int))(k:iP)(v:Int):List (iP×Int):=match L.findIdx? (fun x=>decide (k=x.1)) with
 |some j=>L.set j (k,v)
 |none=>L++[(k,v)]
theorem HO(k j:iP)(v:Int):∀L:List (iP×Int),ky (oj L k v) j=if j=k then some v else ky L j
 |[]=>by by_cases h:j=k<;>simp[oj,ky,h]
 |x::L=>by
  have dc:=HO k j v L;by_cases hx:k=x.1
  ·subst hx;simp only[oj,C0,decide_true,List.set_cons_zero,uR];by_cases h:j=x.1
   ·simp[ky,h]
   ·simp[ky,h]
  ·have e:oj (x::L) k v=x::oj L k v:=(by unfold oj;rw[C0,eD hx];cases L.findIdx? (fun x=>decide (k=x.1))<;>simp);rw[e];by_cases h:j=x.1
   ·have ah:¬j=k:=fun e=>hx (e.symm.trans h);simp[ky,h,List.find?_cons,fN hx]
   ·have aN:ky (x::oj L k v) j=ky (oj L k v) j:=(by simp[ky,h]);have aR:ky (x::L) j=ky L j:=(by simp[ky,h]);rw[aN,aR,dc]
theorem ZU{k:iP}{v:Int}{x:iP×Int}(h:x∈oj L k v):x=(k,v)∨x∈L:=by
 unfold oj at h;split at h
 ·exact (ZQ h).symm
 ·rw[E2,J7] at h;exact h.symm
theorem akI(k:iP)(w:bTo):(Instr.keyThatStays (lV k) (lV k)).run Tryz.prog w=.ok (lV k) w:=by
 have key:∀D d:Nat,D=d+1→Instr.sameBits D (lV k) (lV k)=true:=by intro D d h;subst h;simp[Instr.sameBits]
 simp[Instr.keyThatStays,key 10000 9999 (by decide)]
theorem TN{M:Nat}(h:sw w M L)(af:E8 w L)(k:iP)(ha:w.heap[k.1]?=some (.cells ca fb (0,0)))(v:Int):
  ∃bE,(Instr.mapUpdate OV (.map (some M)) (lV k) (I v)).run Tryz.prog w=.ok () bE∧sw bE M (oj L k v)∧aL (fun b=>b≠M) w bE∧bE.heap.size=w.heap.size:=by
 obtain⟨es,c,na,he⟩:=h;have hf:=TL w k ha L es.toList 0 af he;have C5:=(TM k w).1;have Bl:∀qO c',aL (fun b=>b≠M) w {w with heap:=w.heap.setIfInBounds M (.map qO c')}:=fun qO c'=>⟨rfl,rfl,rfl,by simp,fun b af _=>by show (w.heap.setIfInBounds M _)[b]?=_;rw[zH,aK (fN af)]⟩;have b0:=lt_of_heap na;cases hi:L.findIdx? (fun x=>decide (k=x.1)) with
 |none=>
  rw[hi] at hf
  refine⟨{w with heap:=w.heap.setIfInBounds M (.map (es.push {key:=lV k,val:=I v,born:=c}) (c+1))},?_,⟨_,_,by
   show (w.heap.setIfInBounds M _)[M]?=_;rw[zH,aT rfl,aT b0],?_⟩,Bl _ _,by simp⟩
  ·simp[Instr.mapUpdate,jT OP,OQ na,C5,OW,hf,OR _ na,Result.andThen]
  ·unfold oj;rw[hi];simp only[Array.toList_push,mh,he,r4,zI]
 |some j=>
  rw[hi] at hf;obtain⟨aa,ah,_⟩:=List.findIdx?_eq_some_iff_getElem.1 hi;have rh:j<es.toList.length:=(by have:=gb List.length he;simp only[hk] at this;omega);have TO:(es[j]?).map (·.key)=some (lV k):=by have ax:=gb (fun l=>l[j]?) he;simp only[C1,jH rh,jH aa,CX,mv,gA] at ax;have bg:es[j]?=some es.toList[j]:=(by rw[←zJ,jH rh]);rw[bg,CX,ax.1];have:k=L[j].1:=(by simpa using ah);rw[this]
  refine⟨{w with heap:=w.heap.setIfInBounds M (.map (es.modify j fun e=>{e with key:=lV k,val:=I v}) c)},?_,⟨_,_,by
   show (w.heap.setIfInBounds M _)[M]?=_;rw[zH,aT rfl,aT b0],?_⟩,Bl _ _,by simp⟩
  ·simp[Instr.mapUpdate,jT OP,OQ na,C5,OW,hf,TO,akI,OR _ na,Result.andThen]
  ·unfold oj;rw[hi];apply Hl;intro n;have ax:=gb (fun l=>l[n]?) he;simp only[C1,Array.toList_modify,List.getElem?_modify,List.getElem?_set] at ax⊢;by_cases hn:j=n
   ·subst hn;rw[jH rh];simp[aa]
   ·simp only[hn,x0] at ax⊢;simpa using ax
structure Fr where
 k:Nat
 o:Nat
 c:Nat
 pre:bh
 rest:bh
def Fr.all(f:Fr):bh:=f.pre.append f.rest
def Fr.key(f:Fr):iP:=(f.k,f.o,f.all.len)
def E9(f:Fr):List Value:=[ad (some (ag f.k f.o)) f.all.len f.c,I (f.pre.len:Int),I (f.pre.count:Int)]
def qh:List Fr→List Value
 |[]=>[]
 |f::ts=>qh ts++E9 f
theorem C6:∀ts:List Fr,(qh ts).length=ts.length *3
 |[]=>rfl
 |f::ts=>by simp only[qh,gh,C6 ts,fK,E9,th];omega
def vb(root:bh):List Fr→Prop
 |[]=>True
 |[f]=>f.all=root
 |f::g::ts=>(∃a b r,g.rest=.cons a b f.all r)∧vb root (g::ts)
theorem bh.count_cons(a:Bool)(b:dL)(s r:bh):(bh.cons a b s r).count=s.count+r.count+1:=rfl
theorem vb.count{root:bh}:∀{f:Fr} {ts:List Fr},vb root (f::ts)→∀g∈f::ts,f.all.count≤g.all.count
 |f,[],_,g,aX=>by obtain rfl:g=f:=(by simpa using aX);exact bD _
 |f,h::ts,hc,g,aX=>by
  rcases List.mem_cons.1 aX with rfl|aX
  ·exact bD _
  ·obtain⟨⟨a,b,r,e⟩,ah⟩:=hc;have ax:=vb.count ah g aX;have bg:f.all.count<h.all.count:=(by unfold Fr.all at e⊢;rw[bh.count_append h.pre,e,bh.count_cons];show (f.pre.append f.rest).count<_;omega);omega
theorem vb.ZV{root:bh}:∀{f:Fr} {ts:List Fr},vb root (f::ts)→f.all.count≤root.count
 |f,[],h=>by rw[show f.all=root from h];exact bD _
 |f,g::ts,h=>by have aa:=vb.count h g (by simp);exact dX aa (vb.ZV h.2)
def rD:bh→Nat
 |.nil=>0
 |.cons _ _ s r=>rD s+rD r+3
def wO:bh→Nat
 |.nil=>0
 |.cons _ _ _ r=>rD r
def yb:List Fr→Nat
 |[]=>0
 |f::ts=>wO f.rest+2+yb ts
def i7(hd:Bool):List Fr→Nat
 |[]=>0
 |f::ts=>(if hd=true then wO f.rest+2 else rD f.rest+1)+yb ts
structure vc(S:Jp)(w0:bTo)(L:List (iP×Int))(ts:List Fr):Prop where
 op:∀k v,ky L k=some v→v= -1→∃f∈ts,f.key=k
 cn:∀k v,ky L k=some v→v≠-1→∃s,iG S w0 (some (ag k.1 k.2.1)) s∧s.len=k.2.2∧v=(s.count:Int)
 hq:E8 w0 L
theorem iG.block{o:Nat}{s:bh}(h:iG S w (some (ag k o)) s)(aj:0<s.len):∃cs,w.heap[k]?=some (.cells cs fb (0,0))∧S k:=by obtain⟨tM,uG,cs,e,hS,aF,_⟩:=h.2 aj;injection e with e;injection e with aN _;subst aN;exact⟨cs,aF,hS⟩
variable{f:Fr}{ts:List Fr}
theorem vc.found{root:bh}(h:vc S w0 L (f::ts))(KY:vb root (f::ts))(kp:∀g∈f::ts,iG S w0 (some (ag g.k g.o)) g.all){o:Nat}{sub:bh}(hs:iG S w0 (some (ag k o)) sub)(b0:sub.count<f.all.count){v:Int}(aS:ky L (k,o,sub.len)=some v):v=(sub.count:Int):=by
 by_cases aa:v= -1
 ·exfalso;obtain⟨g,aX,ab⟩:=h.op _ _ aS aa;have aN:g.k=k:=gb (fun x:iP=>x.1) ab;have aR:g.o=o:=gb (fun x:iP=>x.2.1) ab;have cA:g.all.len=sub.len:=gb (fun x:iP=>x.2.2) ab;have hp:=kp g aX;rw[aN,aR] at hp;have hN:g.all=sub:=hp.uniq hs cA;have:=KY.count g aX;rw[hN] at this;omega
 ·obtain⟨s,hp,aj,e⟩:=h.cn _ _ aS aa;rw[e,iG.uniq (s:=s) (s':=sub) hp hs aj]
theorem vc.push(h:vc S w0 L ts)(hp:iG S w0 (some (ag f.k f.o)) f.all)(aj:0<f.all.len):vc S w0 (oj L f.key (-1)) (f::ts) where
 op:=fun k v aS e=>by
  rw[HO] at aS;by_cases ab:k=f.key
  ·exact⟨f,by simp,ab.symm⟩
  ·rw[aK ab] at aS;obtain⟨g,aX,aR⟩:=h.op k v aS e;exact⟨g,by simp[aX],aR⟩
 cn:=fun k v aS e=>by
  rw[HO] at aS;by_cases ab:k=f.key
  ·rw[aT ab] at aS;injection aS with aS;exact absurd aS.symm e
  ·rw[aK ab] at aS;exact h.cn k v aS e
 hq:=fun x hx=>by
  rcases ZU hx with rfl|hx
  ·obtain⟨cs,aF,_⟩:=hp.block aj;exact⟨cs,aF⟩
  ·exact h.hq x hx
theorem vc.pop(h:vc S w0 L (f::ts))(hp:iG S w0 (some (ag f.k f.o)) f.all)(aj:0<f.all.len):vc S w0 (oj L f.key (f.all.count:Int)) ts where
 op:=fun k v aS e=>by
  rw[HO] at aS;by_cases ab:k=f.key
  ·rw[aT ab] at aS;injection aS with aS;omega
  ·rw[aK ab] at aS;obtain⟨g,aX,aR⟩:=h.op k v aS e;rcases List.mem_cons.1 aX with rfl|aX
   ·exact absurd aR.symm ab
   ·exact⟨g,aX,aR⟩
 cn:=fun k v aS e=>by
  rw[HO] at aS;by_cases ab:k=f.key
  ·rw[aT ab] at aS;injection aS with aS;subst ab;exact⟨f.all,hp,rfl,aS.symm⟩
  ·rw[aK ab] at aS;exact h.cn k v aS e
 hq:=fun x hx=>by
  rcases ZU hx with rfl|hx
  ·obtain⟨cs,aF,_⟩:=hp.block aj;exact⟨cs,aF⟩
  ·exact h.hq x hx
theorem vc.OX{f':Fr}(h:vc S w0 L (f::ts))(ab:f'.key=f.key):vc S w0 L (f'::ts) where
 op:=fun k v aS e=>by
  obtain⟨g,aX,aR⟩:=h.op k v aS e;rcases List.mem_cons.1 aX with rfl|aX
  ·exact⟨f',by simp,ab.trans aR⟩
  ·exact⟨g,by simp[aX],aR⟩
 cn:=h.cn
 hq:=h.hq
end dE
