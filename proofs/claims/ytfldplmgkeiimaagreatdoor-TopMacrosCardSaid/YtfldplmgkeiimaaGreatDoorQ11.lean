/- Lemmas. -/
import Derived.Test.YtfldplmgkeiimaaGreatDoorQ10
import Derived.LaidEql
import Derived.WideKeyRuns
set_option linter.all false
set_option maxRecDepth 100000
set_option maxHeartbeats 12800000
namespace Go.Proofs.YtfldplmgkeiimaaGreatDoor
abbrev Cr:=@step_append_lies
abbrev Ez:=@Proofs.Tryz.underlying47
abbrev SV:=@Proofs.Tryz.underlying199
abbrev nb:=@List.map_append
abbrev Hr:=@List.cons.injEq
abbrev Ku:=@and_true
abbrev Hs:=@Proofs.Tryz.underlying190
abbrev zo:=@Proofs.Tryz.underlying3
abbrev Om:=@Proofs.Tryz.underlying292
abbrev On:=@Sem.run_bind
abbrev Cs:=@List.findIdx?_cons
abbrev aad:=@List.findIdx?_eq_none_iff
abbrev Oo:=@Proofs.Tryz.underlying294
abbrev Oq:=@MapKept.run_getObj_map
abbrev zp:=@Array.getElem?_setIfInBounds
abbrev Ot:=@MapKept.run_setObj_map
abbrev AS:=@List.map_nil
abbrev Ct:=@List.getElem?_map
abbrev l8:=@List.getElem?_eq_getElem
abbrev xP:=@Array.getElem?_toList
namespace c4
open Go.RowKit dH
abbrev Cu:Value:=.agg #[U false,I 0,I 0,I 0,I 0,I 0,I 0,I 0,I 0,J 0,J 0]
abbrev Ou:Value:=.agg #[I 0,I 0,I 0,I 0,U false]
theorem Kv:(Tryz.prog.info? 77).map (fun i=>(i.zero,i.size,i.bytes))=some (some Cu,11,120):=by kernel_rfl
theorem SW:(Tryz.prog.info? 248).map (fun i=>(i.zero,i.size,i.bytes))=some (some Ou,5,40):=by kernel_rfl
variable{t:aai}
theorem info_parts{P:Program}{z:Option Value}{n b:Nat}(h:(P.info? t).map (fun i=>(i.zero,i.size,i.bytes))=some (z,n,b)):∃i,P.info? t=some i∧i.zero=z∧i.size=n∧i.bytes=b:=by
 cases hi:P.info? t with
 |none=>rw[hi] at h;cases h
 |some i=>
  rw[hi] at h;simp only[Cp,mi,fS] at h;exact⟨i,rfl,h.1,h.2.1,h.2.2⟩
structure r8(S:afp)(w0:aeo)(g:Nat)(gs:ajv)(b:bO)(os:List dx)(es:List (bO×Bool))(fg fz:ada)(x:aeo):Prop where
 wo:an x g gs je
 bb:x.heap[g+1]?=some (cU b)
 res:an x (g+1+1) (#[J 0,J 0]) je
 n:tp S w0 (g+1+1+1) os es fg fz x
theorem r8.below{S:afp}{w0:aeo}{g:Nat}{gs:ajv}{b:bO}{os:List dx}{es:List (bO×Bool)}{fg fz:ada}{x y:aeo}(h:r8 S w0 g gs b os es fg fz x)(ay:ao x x y):r8 S w0 g gs b os es fg fz y:=⟨aU h.wo ay,aU h.bb ay,aU h.res ay,h.n.below ay⟩
variable{k:Nat}
theorem Cv{B:Nat}{e:aai}{bG n:Nat}{v:ada}{xs:aev}{X y:aeo}{i:Nat}{u:ada}{R:Nat}{o:Obj}(bl:X.ownsRow B e bG v n xs)(ba:X.grownBy y v.ownBlock)(ax:k<B)(hR:k≠R)(h:X.heap[k]?=some o):(y.setCell (aj R i) u).heap[k]?=some o:=
 (mw hR).trans ((ba.block k (lt_of_heap h) (fun e=>by have:=(bl.lt k e.symm).1;omega)).trans h)
theorem r8.AO{S:afp}{w0:aeo}{g:Nat}{gs:ajv}{b:bO}{os:List dx}{es:List (bO×Bool)}{fg fz r7:ada}{X y:aeo}{xs:aev}{d:Bool}{bs:cJ}{s:bc}{pl:Ja}{cl:Nat}{pp:Ja}{cp:Nat}{V:aev}
  (h:r8 S w0 g gs b os es fg fz X) (lI:X.ownsRow (g+1+1+1+1) dD 11 fg os.length xs) (hp:ds S X (p' os) xs) (hS:∀k,S k→k<g+1+1+1) (hR:w0.heap.size≤g)
  (ba:X.grownBy y fg.ownBlock) (lg:V=U d::ke bs (ad pl bs.l.length cl) (ad pp s.len cp)) (cI:y.ownsRow (g+1+1+1+1) dD 11 r7 (os.length+1) (xs++V)) (ay:dv S X pl cl pp cp ⟨bs,s⟩):
  r8 S w0 g gs b (os++[(d,⟨bs,s⟩)]) es r7 fz (y.setCell (aj (g+1+1+1) 0) r7):=by
 subst lg;exact⟨Cv lI ba (by omega) (by omega) h.wo,Cv lI ba (by omega) (by omega) h.bb,Cv lI ba (by omega) (by omega) h.res,tp.AO (x:=X) h.n.r lI hp h.n.e h.n.aZ hS (by omega) ba cI ay⟩
theorem r8.Ex{S:afp}{w0:aeo}{g:Nat}{gs:ajv}{b:bO}{os:List dx}{es:List (bO×Bool)}{fg fz tq:ada}{X y:aeo}{c:bO}{a:Bool}
  (h:r8 S w0 g gs b os es fg fz X) (hS:∀k,S k→k<g+1+1+1) (hR:w0.heap.size≤g)
  (ba:X.grownBy y fz.ownBlock) (cI:y.ownsRow (g+1+1+1+1) jH 5 tq (es.length+1) (o0 es++Cq c a)):
  r8 S w0 g gs b os (es++[(c,a)]) fg tq (y.setCell (aj (g+1+1+1) 1) tq):=
 ⟨Cv h.n.e ba (by omega) (by omega) h.wo,Cv h.n.e ba (by omega) (by omega) h.bb,Cv h.n.e ba (by omega) (by omega) h.res,h.n.Ex hS (by omega) ba cI⟩
theorem alL(l:List eB)(b:bO)(x:eB)(y:Bool)(h:(x.any || !sQ x.b b)=y):fj (l++[x]) b=if y=true then fj l b++[x] else fj l b:=by
 unfold fj;rw[List.filter_append];cases y with
 |true=>simp[h]
 |false=>simp[h]
theorem Kw(l:List eB)(b:bO):(fj l b).length≤l.length:=List.length_filter_le _ _
abbrev zq(l:List eB):List dx:=l.map eB.o
abbrev zr(l:List eB):List (bO×Bool):=l.map fun e=>(e.b,e.any)
variable{w w0:aeo}
theorem o1{a b:ada}(h:an w k (#[a,b]) t):ak w k 0 a∧ak w k 1 b:=by constructor<;>simp[World.cell?,h]
theorem SX{a b c d e:ada}(h:an w k (#[a,b,c,d,e]) t):ak w k 0 a∧ak w k 1 b∧ak w k 2 c∧ak w k 3 d∧ak w k 4 e:=by refine⟨?_,?_,?_,?_,?_⟩<;>simp[World.cell?,h]
theorem Kx(S:afp)(g:List eB)(p q:Ja)(n c d:Nat)(b:bO)(hn:n=g.length)(w:aeo)(H:af (my S w p q g)):
  Calls Tryz.prog 86 #[.agg (lG p n c q d),h7 b] w fun e w'=>∃ig c' iH fA,e=ab (.agg (lG ig (fj g b).length c' iH fA))∧my (fun k=>S k∨w.heap.size≤k) w' ig iH (fj g b)∧ao w w w':=by
 have n9:n≤1000000000:=by rw[hn];have:=H.out.o.1;simpa using this
 have bf:=aq hn;have e0:af (my (fun k=>S k∧k<w.heap.size) w p q g):=H.out.mono (fun k av az=>⟨az,av⟩);have b7:af (∀k,(S k∧k<w.heap.size)→k<w.heap.size+1+1+1):=fun k h=>by omega
 obtain⟨oj,uQ⟩:∃oj:afp,(fun k=>S k∧k<w.heap.size)=oj:=⟨_,rfl⟩;have r9:af (∀k,oj k→S k):=by rw[←uQ];exact fun k h=>h.1
 have kk:af (∀k,oj k→k<w.heap.size+1+1+1):=by rw[←uQ];exact b7.out
 have mz:af (∀k,oj k→k<w.heap.size):=by rw[←uQ];exact fun k h=>h.2
 rw[uQ] at e0;obtain⟨aD,aC,aG,aE⟩:=b;clear hn uQ H b7;go_enter Tryz.func86,Tryz.ntmps86;go_upto_region 2 with fail;obtain⟨W,br⟩:=ar ((((w.alloc (ai (lG p n c q d) je)).alloc (cU ⟨aD,aC,aG,aE⟩)).alloc (ai (#[J 0,J 0]) je)).alloc (ai (#[J 0,J 0]) je));have bM:af (r8 oj w w.heap.size (lG p n c q d) ⟨aD,aC,aG,aE⟩ [] [] (J 0) (J 0) W):=by obtain⟨av,az,aF,bk,ay⟩:=AA br;exact⟨av,az,aF,bk,⟨[],⟨rfl,.inl ⟨rfl,rfl⟩⟩,trivial⟩,⟨rfl,.inl ⟨rfl,rfl⟩⟩,ay⟩
 rw[br];clear br;obtain⟨g0,g1⟩:=o1 bM.out.wo;go_wp2_with fail
 go_loopw [11] (fun i wr=>∃(j:Nat) (fg fz:ada) (aK:aeo),aK=wr∧j≤n∧i=I j∧af (r8 oj w w.heap.size (lG p n c q d) ⟨aD,aC,aG,aE⟩ (zq (fj (g.take j) ⟨aD,aC,aG,aE⟩)) (zr (fj (g.take j) ⟨aD,aC,aG,aE⟩)) fg fz aK)) (fun i _=>n -(intOf i).toNat)
 case atStart=>exact⟨0,_,_,_,rfl,eE _,rfl,bM.out⟩
 case round=>
 obtain⟨j,fg,fz,aK,rfl,cr,rfl,aO⟩:=hrel;clear g0 g1 bM;obtain⟨qF,uR⟩:=ar (zq (fj (g.take j) ⟨aD,aC,aG,aE⟩));obtain⟨zs,EA⟩:=ar (zr (fj (g.take j) ⟨aD,aC,aG,aE⟩));rw[uR,EA] at aO;have uS:=aq uR.symm;have l9:=aq EA.symm;clear uR EA;by_cases b1:j<n
 ·have fL:j<g.length:=(by rw[←bf.out];exact b1);have i':(j:Int)<(n:Int):=(by omega);obtain⟨⟨⟨od,⟨aB,os⟩⟩,⟨kl,km,kn,ko⟩,tr⟩,aH⟩:=ar (g[j]);obtain⟨hz,lv,pl,cl,pp,cp,rfl,q',_,ek,aN,aL,aI,c3,bJ,c5,b2,b',bX,bj,cu⟩:=e0.out.o.at (n:=j) (by rw[e6];exact fL) (show (g.map eB.o)[j]'(by rw[e6];exact fL)=(od,⟨aB,os⟩) by rw[Ha,aH]);obtain⟨awQ,awR,rfl,eD,a1,a6,ch,gw⟩:=e0.out.e.at (i:=j) (by rw[e6];exact fL) (show (g.map fun e=>(e.b,e.any))[j]'(by rw[e6];exact fL)=(⟨kl,km,kn,ko⟩,tr) by rw[Ha,aH]);have pF:=aq ek;obtain⟨nl,gF⟩:=ar aB.l.length;obtain⟨mp,AT⟩:=ar os.len;have q8:=aq gF;have Ov:=aq AT;rw[gF] at bj;rw[AT] at cu;clear gF AT;have el:=aO.out.n.aZ;have bm:=aq (And.intro (bP el eD) (And.intro (bP el a1) (And.intro (bP el a6) (And.intro (bP el ch) (bP el gw)))));have b5:=aq (And.intro aN (And.intro aL (And.intro aI (And.intro c3 (And.intro bJ (And.intro c5 (And.intro b2 (And.intro b' (And.intro bX (And.intro bj cu))))))))));clear aN aL aI c3 bJ c5 b2 b' bX bj cu eD a1 a6 ch gw ek el;obtain⟨y,hy⟩:=ar (tr || !sQ ⟨kl,km,kn,ko⟩ ⟨aD,aC,aG,aE⟩);have wk:=aq (alL (g.take j) ⟨aD,aC,aG,aE⟩ ⟨(od,⟨aB,os⟩),⟨kl,km,kn,ko⟩,tr⟩ y hy);have tt:af (g.take (j+1)=g.take j++[⟨(od,⟨aB,os⟩),⟨kl,km,kn,ko⟩,tr⟩]):=(by show _=_;rw[y5 fL,aH]);obtain⟨xQ,r1⟩:=ar (sQ ⟨kl,km,kn,ko⟩ ⟨aD,aC,aG,aE⟩);have pG:=aq r1;rw[r1] at hy;have cC:=aq hy;clear aH hy r1;obtain⟨eD,a1,a6,ch,gw⟩:=bm.out;go_upto_region 5 with fail;have c6:=aq (aO.out.below (a' aK (ai (#[I kl,I km,I kn,I ko,U tr]) jH)));have jn:af ((aK.alloc (ai (#[I kl,I km,I kn,I ko,U tr]) jH)).heap[aK.heap.size]?=some (.cells #[I kl,I km,I kn,I ko,U tr] jH)):=cd _ _;generalize aK.alloc (.cells #[I kl,I km,I kn,I ko,U tr] jH)=ck at c6 jn⊢;obtain⟨ex,hex⟩:=ar aK.heap.size;rw[hex] at jn⊢;clear eD a1 a6 ch gw hex aO bm;obtain⟨z0,z1,z2,z3,z4⟩:=SX jn.out;obtain⟨cy,cE,bo,fk⟩:=hb c6.out.bb;cases tr with
  |true=>
   have aP:af (fj (g.take (j+1)) ⟨aD,aC,aG,aE⟩=fj (g.take j) ⟨aD,aC,aG,aE⟩++[⟨(od,⟨aB,os⟩),⟨kl,km,kn,ko⟩,true⟩]):=(by show _=_;rw[tt.out,wk.out,←cC.out];rfl);obtain⟨xs,re,Cw⟩:=c6.out.n.o;obtain⟨jW,jX,rfl⟩:=jf re;obtain⟨e5,nc,rfl⟩:=jf c6.out.n.e;obtain⟨m2,jR⟩:=ar zs.length;have aae:m2≤1000000000:=(by rw[←jR,l9.out,e6];have:=Kw (g.take j) ⟨aD,aC,aG,aE⟩;rw[kj] at this;omega);have c0:=aq jR;obtain⟨m,hm⟩:=ar qF.length;have EB:m≤1000000000:=(by rw[←hm,uS.out,e6];have:=Kw (g.take j) ⟨aD,aC,aG,aE⟩;rw[kj] at this;omega);have xR:=aq hm;have tu:af (ck.ownsRow (w.heap.size+1+1+1+1) dD 11 (ad jW qF.length jX) qF.length xs):=re;have zg:=aq Cw;have aaf:=c6.out.n.aZ.size;have EC:=lt_of_heap c6.out.n.r;have mA:=aq (c6.out.below ((a' ck (ai (#[U od,I aB.k,I aB.a.1,I aB.a.2,I aB.b.1,I aB.b.2,I aB.c.1,I aB.c.2,I aB.r,ad pl nl cl,ad pp mp cp]) dD)).drew));rw[hm,jR] at c6 mA;rw[hm] at tu;have jg:af (((ck.alloc (ai (#[U od,I aB.k,I aB.a.1,I aB.a.2,I aB.b.1,I aB.b.2,I aB.c.1,I aB.c.2,I aB.r,ad pl nl cl,ad pp mp cp]) dD)).drew).ownsRow (w.heap.size+1+1+1+1) dD 11 (ad jW m jX) m xs):=(tu.out.alloc _).drew;have l7:∀(cA:aeo),((ck.alloc (ai (#[U od,I aB.k,I aB.a.1,I aB.a.2,I aB.b.1,I aB.b.2,I aB.c.1,I aB.c.2,I aB.r,ad pl nl cl,ad pp mp cp]) dD)).drew).grownBy cA (Value.slice jW m jX).ownBlock→ak cA (w.heap.size+1+1+1) 0 (ad jW m jX)∧cA.frozen? ⟨w.heap.size+1+1+1,0,none⟩=false:=(by intro cA uT;have av:an cA (w.heap.size+1+1+1) (#[ad jW m jX,ad e5 m2 nc]) je:=(uT.block _ (lt_of_heap mA.out.n.r) (fun e=>by have:=(jg.out.lt _ e.symm).1;omega)).trans mA.out.n.r;exact⟨(o1 av).1,cR av 0⟩);clear re Cw hm jR;have SY:=lt_of_heap jn.out;obtain⟨i0,hi,dE,dP,dq⟩:=info_parts Kv;have bZ:=aq (And.intro hi (And.intro dE (And.intro dP dq)));clear hi dE dP dq;obtain⟨gZ,fM⟩:=o1 c6.out.n.r;have fr:=cR c6.out.n.r;obtain⟨g0,g1⟩:=o1 c6.out.wo;obtain⟨aN,aL,aI,c3,bJ,c5,b2,b',bX,bj,cu⟩:=b5.out;have el:=c6.out.n.aZ;have d0:=bP el aN;have d1:=bP el aL;have d2:=bP el aI;have d3:=bP el c3;have d4:=bP el bJ;have d5:=bP el c5;have d6:=bP el b2;have d7:=bP el b';have d8:=bP el bX;have d9:=bP el bj;have d10:=bP el cu;clear aN aL aI c3 bJ c5 b2 b' bX bj cu el;go_upto_region 6 with fail
   go_region_law (first|(refine Cr _ (by rfl) _ _ _ (by rfl) (w.heap.size+1+1+1+1) dD i0 Cu 11 120 Ez bZ.out.1 bZ.out.2.1 bZ.out.2.2.1 bZ.out.2.2.2 rfl (by omega) (ad jW m jX) m _ (by rfl) jg.out (aj ck.heap.size 0) 1 1 [U od,I aB.k,I aB.a.1,I aB.a.2,I aB.b.1,I aB.b.2,I aB.c.1,I aB.c.2,I aB.r,ad pl nl cl,ad pp mp cp] (by rfl) (by rfl) (kc (cs:= #[U od,I aB.k,I aB.a.1,I aB.a.2,I aB.b.1,I aB.b.2,I aB.c.1,I aB.c.2,I aB.r,ad pl nl cl,ad pp mp cp]) (t:=dD) (fr:=(0,0)) (ga ck _)) (by simp[Value.oneCell']) (by omega) (by unfold maxLen;omega) (by omega) (by simp;omega) (ck.heap.size+1) (by simp) ?_;intro dh hg cA cI dO eJ hV;obtain⟨bW,cj⟩:=l7 cA dO)|fail)
   all_goals
    have dk:=aq (r8.AO (d:=od) (bs:=aB) (s:=os) (pl:=pl) (cl:=cl) (pp:=pp) (cp:=cp) mA.out (by rw[xR.out];exact jg.out) (zg.out.below ((a' ck (ai (#[U od,I aB.k,I aB.a.1,I aB.a.2,I aB.b.1,I aB.b.2,I aB.c.1,I aB.c.2,I aB.r,ad pl nl cl,ad pp mp cp]) dD)).drew)) kk.out (bx _) dO (show [U od,I aB.k,I aB.a.1,I aB.a.2,I aB.b.1,I aB.b.2,I aB.c.1,I aB.c.2,I aB.r,ad pl nl cl,ad pp mp cp]=U od::ke aB (ad pl aB.l.length cl) (ad pp os.len cp) by rw[q8.out,Ov.out]) (by rw[xR.out];exact cI) (pF.out.below mA.out.n.aZ));have ih:af ((cA.setCell (aj (w.heap.size+1+1+1) 0) (ag dh 0 (m+1) hg)).heap[ex]?=some (.cells #[I kl,I km,I kn,I ko,U true] jH)):=(by have av:((ck.alloc (ai (#[U od,I aB.k,I aB.a.1,I aB.a.2,I aB.b.1,I aB.b.2,I aB.c.1,I aB.c.2,I aB.r,ad pl nl cl,ad pp mp cp]) dD)).drew).heap[ex]?=some (.cells #[I kl,I km,I kn,I ko,U true] jH):=aU jn.out ((a' ck (ai (#[U od,I aB.k,I aB.a.1,I aB.a.2,I aB.b.1,I aB.b.2,I aB.c.1,I aB.c.2,I aB.r,ad pl nl cl,ad pp mp cp]) dD)).drew);have az:ex≠w.heap.size+1+1+1:=(by intro e;have aF:=mA.out.n.r;rw[←e,av] at aF;injection aF with aF;injection aF with _ aF;exact absurd aF (by decide));exact (mw az).trans ((dO.block ex (lt_of_heap av) (gJ (oZ jg.out av (by decide)))).trans av));clear cI dO eJ hV bW cj d0 d1 d2 d3 d4 d5 d6 d7 d8 d9 d10 g0 g1 gZ fM fr EC SY;generalize cA.setCell (aj (w.heap.size+1+1+1) 0) (ad (some (aj dh 0)) (m+1) hg)=dt at dk ih⊢;obtain⟨mx,hi,dE,dP,dq⟩:=info_parts SW;have df:=aq (And.intro hi (And.intro dE (And.intro dP dq)));clear hi dE dP dq;obtain⟨gZ,fM⟩:=o1 dk.out.n.r;have fr:=cR dk.out.n.r;obtain⟨z0,z1,z2,z3,z4⟩:=SX ih.out;have uU:=aq (dk.out.below (a' dt (ai (#[I kl,I km,I kn,I ko,U true]) jH)));have Ky:(dt.alloc (ai (#[I kl,I km,I kn,I ko,U true]) jH)).ownsRow (w.heap.size+1+1+1+1) jH 5 (ad e5 m2 nc) m2 (o0 zs):=(by have:=uU.out.n.e;rw[c0.out] at this;exact this);have Kz:=aq Ky;have gK:=dk.out.n.aZ.size;have zt:=lt_of_heap dk.out.n.r;have SZ:∀(cA:aeo),(dt.alloc (ai (#[I kl,I km,I kn,I ko,U true]) jH)).grownBy cA (Value.slice e5 m2 nc).ownBlock→ak cA (w.heap.size+1+1+1) 1 (ad e5 m2 nc)∧cA.frozen? ⟨w.heap.size+1+1+1,1,none⟩=false:=(by intro cA uT;have av:=(uT.block _ (lt_of_heap uU.out.n.r) (fun e=>by have:=(Kz.out.lt _ e.symm).1;omega)).trans uU.out.n.r;exact⟨(o1 av).2,cR av 1⟩);clear Ky;go_wp2_with (at_builtin;refine zm _ rfl _ _ _ rfl (w.heap.size+1+1+1+1) jH mx Ou 5 40 SV df.out.1 df.out.2.1 df.out.2.2.1 df.out.2.2.2 rfl (by omega) (ad e5 m2 nc) m2 _ (by rfl) Kz.out (aj dt.heap.size 0) 1 1 [I kl,I km,I kn,I ko,U true] (by rfl) (by rfl) (kc (cs:= #[I kl,I km,I kn,I ko,U true]) (t:=jH) (fr:=(0,0)) (ga dt _)) (by simp[Value.oneCell']) (by omega) (by unfold maxLen;omega) (by omega) (by simp;omega) (dt.heap.size+1) (by simp) ?_;intro ge KA bt cI dO eJ hV;obtain⟨bW,cj⟩:=SZ bt dO);have e4:=aq (r8.Ex (c:=⟨kl,km,kn,ko⟩) (a:=true) uU.out kk.out (bx _) dO (by rw[c0.out];exact cI));clear cI dO eJ hV bW cj gZ fM fr z0 z1 z2 z3 z4;have a1:zq (fj (g.take (j+1)) ⟨aD,aC,aG,aE⟩)=qF++[(od,⟨aB,os⟩)]:=(by rw[aP.out,zq,nb,uS.out];rfl);have a6:zr (fj (g.take (j+1)) ⟨aD,aC,aG,aE⟩)=zs++[(⟨kl,km,kn,ko⟩,true)]:=(by rw[aP.out,zr,nb,l9.out];rfl);rw[←a1,←a6] at e4;go_round<;>first|exact⟨j+1,_,_,_,rfl,by omega,by go_num,e4.out⟩|(simp[intOf]<;>omega)
  |false=>
   go_wp2_with fail;with_reducible refine (akO ⟨kl,km,kn,ko⟩ ⟨aD,aC,aG,aE⟩ xQ pG _).mono ?_
   rintro e cm ⟨rfl,ay⟩;have cP:=aq (c6.out.below ay);have lb:=aq (aU jn.out ay);clear cy cE bo fk z0 z1 z2 z3 z4 ay jn c6;cases xQ with
   |true=>
    have aP:af (fj (g.take (j+1)) ⟨aD,aC,aG,aE⟩=fj (g.take j) ⟨aD,aC,aG,aE⟩):=(by show _=_;rw[tt.out,wk.out,←cC.out];rfl);go_wp2_with fail;go_round<;>first|exact⟨j+1,_,_,_,rfl,by omega,by go_num,by rw[aP.out,←uS.out,←l9.out];exact cP.out⟩|(simp[intOf]<;>omega)
   |false=>
    have aP:af (fj (g.take (j+1)) ⟨aD,aC,aG,aE⟩=fj (g.take j) ⟨aD,aC,aG,aE⟩++[⟨(od,⟨aB,os⟩),⟨kl,km,kn,ko⟩,false⟩]):=(by show _=_;rw[tt.out,wk.out,←cC.out];rfl);obtain⟨xs,re,Cw⟩:=cP.out.n.o;obtain⟨jW,jX,rfl⟩:=jf re;obtain⟨e5,nc,rfl⟩:=jf cP.out.n.e;obtain⟨m2,jR⟩:=ar zs.length;have aae:m2≤1000000000:=(by rw[←jR,l9.out,e6];have:=Kw (g.take j) ⟨aD,aC,aG,aE⟩;rw[kj] at this;omega);have c0:=aq jR;obtain⟨m,hm⟩:=ar qF.length;have EB:m≤1000000000:=(by rw[←hm,uS.out,e6];have:=Kw (g.take j) ⟨aD,aC,aG,aE⟩;rw[kj] at this;omega);have xR:=aq hm;have tu:af (cm.ownsRow (w.heap.size+1+1+1+1) dD 11 (ad jW qF.length jX) qF.length xs):=re;have zg:=aq Cw;have aaf:=cP.out.n.aZ.size;have EC:=lt_of_heap cP.out.n.r;have mA:=aq (cP.out.below ((a' cm (ai (#[U od,I aB.k,I aB.a.1,I aB.a.2,I aB.b.1,I aB.b.2,I aB.c.1,I aB.c.2,I aB.r,ad pl nl cl,ad pp mp cp]) dD)).drew));rw[hm,jR] at cP mA;rw[hm] at tu;have jg:af (((cm.alloc (ai (#[U od,I aB.k,I aB.a.1,I aB.a.2,I aB.b.1,I aB.b.2,I aB.c.1,I aB.c.2,I aB.r,ad pl nl cl,ad pp mp cp]) dD)).drew).ownsRow (w.heap.size+1+1+1+1) dD 11 (ad jW m jX) m xs):=(tu.out.alloc _).drew;have l7:∀(cA:aeo),((cm.alloc (ai (#[U od,I aB.k,I aB.a.1,I aB.a.2,I aB.b.1,I aB.b.2,I aB.c.1,I aB.c.2,I aB.r,ad pl nl cl,ad pp mp cp]) dD)).drew).grownBy cA (Value.slice jW m jX).ownBlock→ak cA (w.heap.size+1+1+1) 0 (ad jW m jX)∧cA.frozen? ⟨w.heap.size+1+1+1,0,none⟩=false:=(by intro cA uT;have av:an cA (w.heap.size+1+1+1) (#[ad jW m jX,ad e5 m2 nc]) je:=(uT.block _ (lt_of_heap mA.out.n.r) (fun e=>by have:=(jg.out.lt _ e.symm).1;omega)).trans mA.out.n.r;exact⟨(o1 av).1,cR av 0⟩);clear re Cw hm jR;have SY:=lt_of_heap lb.out;obtain⟨i0,hi,dE,dP,dq⟩:=info_parts Kv;have bZ:=aq (And.intro hi (And.intro dE (And.intro dP dq)));clear hi dE dP dq;obtain⟨gZ,fM⟩:=o1 cP.out.n.r;have fr:=cR cP.out.n.r;obtain⟨g0,g1⟩:=o1 cP.out.wo;obtain⟨aN,aL,aI,c3,bJ,c5,b2,b',bX,bj,cu⟩:=b5.out;have el:=cP.out.n.aZ;have d0:=bP el aN;have d1:=bP el aL;have d2:=bP el aI;have d3:=bP el c3;have d4:=bP el bJ;have d5:=bP el c5;have d6:=bP el b2;have d7:=bP el b';have d8:=bP el bX;have d9:=bP el bj;have d10:=bP el cu;clear aN aL aI c3 bJ c5 b2 b' bX bj cu el;go_upto_region 6 with fail
    go_region_law (first|(refine Cr _ (by rfl) _ _ _ (by rfl) (w.heap.size+1+1+1+1) dD i0 Cu 11 120 Ez bZ.out.1 bZ.out.2.1 bZ.out.2.2.1 bZ.out.2.2.2 rfl (by omega) (ad jW m jX) m _ (by rfl) jg.out (aj cm.heap.size 0) 1 1 [U od,I aB.k,I aB.a.1,I aB.a.2,I aB.b.1,I aB.b.2,I aB.c.1,I aB.c.2,I aB.r,ad pl nl cl,ad pp mp cp] (by rfl) (by rfl) (kc (cs:= #[U od,I aB.k,I aB.a.1,I aB.a.2,I aB.b.1,I aB.b.2,I aB.c.1,I aB.c.2,I aB.r,ad pl nl cl,ad pp mp cp]) (t:=dD) (fr:=(0,0)) (ga cm _)) (by simp[Value.oneCell']) (by omega) (by unfold maxLen;omega) (by omega) (by simp;omega) (cm.heap.size+1) (by simp) ?_;intro dh hg cA cI dO eJ hV;obtain⟨bW,cj⟩:=l7 cA dO)|fail)
    all_goals
     have dk:=aq (r8.AO (d:=od) (bs:=aB) (s:=os) (pl:=pl) (cl:=cl) (pp:=pp) (cp:=cp) mA.out (by rw[xR.out];exact jg.out) (zg.out.below ((a' cm (ai (#[U od,I aB.k,I aB.a.1,I aB.a.2,I aB.b.1,I aB.b.2,I aB.c.1,I aB.c.2,I aB.r,ad pl nl cl,ad pp mp cp]) dD)).drew)) kk.out (bx _) dO (show [U od,I aB.k,I aB.a.1,I aB.a.2,I aB.b.1,I aB.b.2,I aB.c.1,I aB.c.2,I aB.r,ad pl nl cl,ad pp mp cp]=U od::ke aB (ad pl aB.l.length cl) (ad pp os.len cp) by rw[q8.out,Ov.out]) (by rw[xR.out];exact cI) (pF.out.below mA.out.n.aZ));have ih:af ((cA.setCell (aj (w.heap.size+1+1+1) 0) (ag dh 0 (m+1) hg)).heap[ex]?=some (.cells #[I kl,I km,I kn,I ko,U false] jH)):=(by have av:((cm.alloc (ai (#[U od,I aB.k,I aB.a.1,I aB.a.2,I aB.b.1,I aB.b.2,I aB.c.1,I aB.c.2,I aB.r,ad pl nl cl,ad pp mp cp]) dD)).drew).heap[ex]?=some (.cells #[I kl,I km,I kn,I ko,U false] jH):=aU lb.out ((a' cm (ai (#[U od,I aB.k,I aB.a.1,I aB.a.2,I aB.b.1,I aB.b.2,I aB.c.1,I aB.c.2,I aB.r,ad pl nl cl,ad pp mp cp]) dD)).drew);have az:ex≠w.heap.size+1+1+1:=(by intro e;have aF:=mA.out.n.r;rw[←e,av] at aF;injection aF with aF;injection aF with _ aF;exact absurd aF (by decide));exact (mw az).trans ((dO.block ex (lt_of_heap av) (gJ (oZ jg.out av (by decide)))).trans av));clear cI dO eJ hV bW cj d0 d1 d2 d3 d4 d5 d6 d7 d8 d9 d10 g0 g1 gZ fM fr EC SY;generalize cA.setCell (aj (w.heap.size+1+1+1) 0) (ad (some (aj dh 0)) (m+1) hg)=dt at dk ih⊢;obtain⟨mx,hi,dE,dP,dq⟩:=info_parts SW;have df:=aq (And.intro hi (And.intro dE (And.intro dP dq)));clear hi dE dP dq;obtain⟨gZ,fM⟩:=o1 dk.out.n.r;have fr:=cR dk.out.n.r;obtain⟨z0,z1,z2,z3,z4⟩:=SX ih.out;have uU:=aq (dk.out.below (a' dt (ai (#[I kl,I km,I kn,I ko,U false]) jH)));have Ky:(dt.alloc (ai (#[I kl,I km,I kn,I ko,U false]) jH)).ownsRow (w.heap.size+1+1+1+1) jH 5 (ad e5 m2 nc) m2 (o0 zs):=(by have:=uU.out.n.e;rw[c0.out] at this;exact this);have Kz:=aq Ky;have gK:=dk.out.n.aZ.size;have zt:=lt_of_heap dk.out.n.r;have SZ:∀(cA:aeo),(dt.alloc (ai (#[I kl,I km,I kn,I ko,U false]) jH)).grownBy cA (Value.slice e5 m2 nc).ownBlock→ak cA (w.heap.size+1+1+1) 1 (ad e5 m2 nc)∧cA.frozen? ⟨w.heap.size+1+1+1,1,none⟩=false:=(by intro cA uT;have av:=(uT.block _ (lt_of_heap uU.out.n.r) (fun e=>by have:=(Kz.out.lt _ e.symm).1;omega)).trans uU.out.n.r;exact⟨(o1 av).2,cR av 1⟩);clear Ky;go_wp2_with (at_builtin;refine zm _ rfl _ _ _ rfl (w.heap.size+1+1+1+1) jH mx Ou 5 40 SV df.out.1 df.out.2.1 df.out.2.2.1 df.out.2.2.2 rfl (by omega) (ad e5 m2 nc) m2 _ (by rfl) Kz.out (aj dt.heap.size 0) 1 1 [I kl,I km,I kn,I ko,U false] (by rfl) (by rfl) (kc (cs:= #[I kl,I km,I kn,I ko,U false]) (t:=jH) (fr:=(0,0)) (ga dt _)) (by simp[Value.oneCell']) (by omega) (by unfold maxLen;omega) (by omega) (by simp;omega) (dt.heap.size+1) (by simp) ?_;intro ge KA bt cI dO eJ hV;obtain⟨bW,cj⟩:=SZ bt dO);have e4:=aq (r8.Ex (c:=⟨kl,km,kn,ko⟩) (a:=false) uU.out kk.out (bx _) dO (by rw[c0.out];exact cI));clear cI dO eJ hV bW cj gZ fM fr z0 z1 z2 z3 z4;have a1:zq (fj (g.take (j+1)) ⟨aD,aC,aG,aE⟩)=qF++[(od,⟨aB,os⟩)]:=(by rw[aP.out,zq,nb,uS.out];rfl);have a6:zr (fj (g.take (j+1)) ⟨aD,aC,aG,aE⟩)=zs++[(⟨kl,km,kn,ko⟩,false)]:=(by rw[aP.out,zr,nb,l9.out];rfl);rw[←a1,←a6] at e4;go_round<;>first|exact⟨j+1,_,_,_,rfl,by omega,by go_num,e4.out⟩|(simp[intOf]<;>omega)
 ·have iR:j=n:=(by omega);subst iR;have c9:af (g.take j=g):=(by show _=_;rw[bf.out];exact vD);rw[c9.out] at uS l9;have jI:=aO.out.n;rw[uS.out,l9.out] at jI;obtain⟨ig,c',iH,fA,KB,KC,xS⟩:=jI.done (R':=fun k=>oj k∨w.heap.size+1+1+1+1≤k) (by have av:=Kw g ⟨aD,aC,aG,aE⟩;have az:=bf.out;show _≤1000000000;omega) (fun k h=>.inl h) (fun k h=>.inr h);have ED:=aq xS;obtain⟨L,lu⟩:=ar ((fj g ⟨aD,aC,aG,aE⟩).length);have EE:=aq lu;rw[lu] at KB KC;subst KB KC;clear jI xS lu;obtain⟨gZ,fM⟩:=o1 aO.out.n.r;obtain⟨u0,u1⟩:=o1 aO.out.res;have fu:=cR aO.out.res;go_wp2_with fail;have jV:=oU [ad ig L c',ad iH L fA] aO.out.res rfl;have ay:=tf (m:=0) (b:=w.heap.size+1+1) (show w.heap.size≤w.heap.size+1+1 by omega) [ad ig L c',ad iH L fA] aO.out.n.aZ;refine dC (pD rfl _ _ (w.heap.size+1+1) _ _ _ _ rfl jV Tryz.underlying201 rfl (by kernel_rfl)) rfl ⟨ig,c',iH,fA,by rw[EE.out],?_,ay⟩;refine (ED.out.keep (xK (S:=fun k=>oj k∨w.heap.size+1+1+1+1≤k) (b:=w.heap.size+1+1) (m:=0) (fun h=>?_) [ad ig L c',ad iH L fA])).mono (fun k _ h=>?_)
  ·rcases h with h|h
   ·have:=mz.out _ h;omega
   ·omega
  ·rcases h with h|h
   ·exact .inl (r9.out k h)
   ·exact .inr (by omega)
variable{S:afp}
theorem h6.uniq{xT:afp}{p:Ja}{l pv:List bK}(h:h6 S w p l)(e3:h6 xT w p pv)(aA:l.length=pv.length):l=pv:=by apply List.ext_getElem aA;intro i av az;obtain⟨b,o,cs,e,_,aJ,hc⟩:=h.2 (by omega);obtain⟨bg,uq,kz,lh,_,uV,qV⟩:=e3.2 (by omega);rw[e] at lh;injection lh with lh;injection lh with a1 a6;subst a1 a6;rw[aJ] at uV;injection uV with uV;injection uV with uV _;subst uV;obtain⟨bE,a2⟩:=hc i av;obtain⟨cE,bo⟩:=qV i az;rw[bE] at cE;rw[a2] at bo;injection cE with cE;injection cE with _ cE;injection bo with bo;injection bo with _ bo;exact Prod.ext cE bo
theorem iC.uniq{S xT:afp}{w:aeo}{p:Ja}{l pv:List (List bK)}(h:iC S w p l)(e3:iC xT w p pv)(aA:l.length=pv.length):l=pv:=by apply List.ext_getElem aA;intro i av az;obtain⟨b,o,cs,e,_,aJ,hc⟩:=h.2 (by omega);obtain⟨bg,uq,kz,lh,_,uV,qV⟩:=e3.2 (by omega);rw[e] at lh;injection lh with lh;injection lh with a1 a6;subst a1 a6;rw[aJ] at uV;injection uV with uV;injection uV with uV _;subst uV;obtain⟨q,c,bE,_,a2⟩:=hc i av;obtain⟨iH,c',cE,_,bo⟩:=qV i az;rw[bE] at cE;injection cE with cE;injection cE with a1 a6 _;subst a1;exact a2.uniq bo a6
theorem ds.uniq{S xT:afp}{w:aeo}:∀{s s':bc} {xs:aev},ds S w s xs→ds xT w s' xs→s.len=s'.len→s=s'
 |.nil,.nil,_,_,_,_=>rfl
 |.nil,.cons _ _ _ _,_,_,_,aA=>by simp[bc.len] at aA
 |.cons _ _ _ _,.nil,_,_,_,aA=>by simp[bc.len] at aA
 |.cons a b s r,.cons hq bg s' fP,xs,h,e3,aA=>by
  obtain⟨⟨pl,cl,pp,cp,av,az,aF,bk,b9,cW⟩,eN⟩:=h;obtain⟨⟨awS,awT,awU,awV,S0,awW,r',alM,awX,alN⟩,alO⟩:=e3;rw[av] at S0;obtain⟨k,⟨aW,aY⟩,⟨bb,bh⟩,⟨cx,bw⟩,gZ,l⟩:=b;obtain⟨tv,⟨awY,awZ⟩,⟨aw0,aw1⟩,⟨aag,aw2⟩,aw3,pv⟩:=bg;simp only[Hr,Value.bool.injEq,Value.int.injEq,true_and,Value.slice.injEq,Ku] at S0;obtain⟨eD,a1,a6,ch,gw,na,js,tk,lf,⟨jU,tl,_⟩,S1,aah,_⟩:=S0;subst eD a1 a6 ch gw na js tk lf jU S1;have mB:l=pv:=bk.uniq alM tl;subst mB
  have hs:s=s':=by
   rcases Gs s.len with aT|aT
   ·cases s with
    |nil=>
     cases s' with
     |nil=>rfl
     |cons _ _ _ _=>simp[bc.len] at aah
    |cons _ _ _ _=>simp[bc.len] at aT
   ·obtain⟨bU,dY,S2,bW,_,EF,Ht⟩:=cW aT;obtain⟨a7,cO,wq,cj,_,nL,p7⟩:=alN (by omega);rw[bW] at cj;injection cj with cj;injection cj with f1 f2;subst f1 f2;rw[EF] at nL;injection nL with nL;injection nL with nL _;subst nL;exact ds.uniq Ht p7 aah
  subst hs;have hr:r=fP:=ds.uniq eN alO (by simp only[bc.len] at aA;omega);rw[hr]
theorem hM.uniq{S xT:afp}{w:aeo}{p:Ja}{s s':bc}(h:hM S w p s)(e3:hM xT w p s')(aA:s.len=s'.len):s=s':=by
 rcases Gs s.len with aT|aT
 ·cases s with
  |nil=>
   cases s' with
   |nil=>rfl
   |cons _ _ _ _=>simp[bc.len] at aA
  |cons _ _ _ _=>simp[bc.len] at aT
 ·obtain⟨bU,dY,S2,bW,_,EF,Ht⟩:=h.2 aT;obtain⟨a7,cO,wq,cj,_,nL,p7⟩:=e3.2 (by omega);rw[bW] at cj;injection cj with cj;injection cj with f1 f2;subst f1 f2;rw[EF] at nL;injection nL with nL;injection nL with nL _;subst nL;exact ds.uniq Ht p7 aA
abbrev xU:TypeId:=292
abbrev Ow:TypeId:=294
abbrev iq:=Nat×Nat×Nat
abbrev lJ(k:iq):Value:=.agg #[ah k.1 k.2.1,I (k.2.2:Int)]
variable{ca:ajv}
theorem alP(k j:iq)(w:aeo){alQ:ajv}{alR alS:aai}(ha:w.heap[k.1]?=some (.cells ca alR (0,0)))(ay:w.heap[j.1]?=some (.cells alQ alS (0,0))):(Op.equal xU (lJ k) (lJ j)).run Tryz.prog w=.ok (decide (k=j)) w:=by
 obtain⟨a,b,c⟩:=k;obtain⟨hq,bg,c'⟩:=j;simp only at ha ay;have hs:Tryz.prog.stoodInHeld xU=false:=by kernel_rfl
 have He:(Tryz.prog.info? eQ).map (fun i=>i.size)=some 11:=by kernel_rfl
 obtain⟨i,hi,gK⟩:∃i,Tryz.prog.info? eQ=some i∧i.size=11:=by
  cases h:Tryz.prog.info? eQ with
  |none=>rw[h] at He;cases He
  |some i=>rw[h] at He;exact⟨i,rfl,by simpa using He⟩
 have key:∀(D d:Nat) (r:Bool),D=d+1+1→(sameAddr (aj a b) (aj hq bg)).run Tryz.prog w=.ok r w→(Op.equalIn D xU (lJ (a,b,c)) (lJ (hq,bg,c'))).run Tryz.prog w=.ok (r&&decide (c=c')) w:=by
  intro D d r cb hr;subst cb;have alT:(Op.equalIn (d+1) 190 (ah a b) (ah hq bg)).run Tryz.prog w=.ok r w:=(by rw[Op.equalIn];simp[jq Hs,sizeOf,typeInfo,hi,gK,hr]);have o2:(Op.equalIn (d+1) 3 (I (c:Int)) (I (c':Int))).run Tryz.prog w=.ok (decide (c=c')) w:=(by rw[Op.equalIn];simp[jq zo];rw[Cb,beq_iff_eq,iO];omega);have KD:∀(x:Addr) (y:ada),(part 190 #[.pointer (some x),y] 0).run Tryz.prog w=.ok (.pointer (some x)) w:=(fun x y=>by simp[part,jq Hs]);have bK:∀(x:ada) (y:Int),(part 3 #[x,I y] 1).run Tryz.prog w=.ok (I y) w:=(fun x y=>by simp[part,jq zo]);rw[Op.equalIn];simp only[jq Om,On,Hd];simp[hs];simp only[KD,bK,alT,o2,Hd];cases r
  ·simp[Result.andThen]
  ·by_cases hc:c=c'<;>simp[hc,Result.andThen]
 by_cases hp:(⟨a,b,none⟩:Addr)=⟨hq,bg,none⟩
 ·have h:=key 10000 9998 true (by decide) (by rw[←hp];exact run_sameAddr_same (P:=Tryz.prog) w _);have av:a=hq:=fK Addr.block hp;have az:b=bg:=fK Addr.off hp;subst av az;simp only[Op.equal,Op.maxDepth];rw[h];simp
 ·have h:=key 10000 9998 false (by decide) (run_sameAddr_other (P:=Tryz.prog) w hp ha ay);simp only[Op.equal,Op.maxDepth];rw[h];have hn:¬((a,b,c):iq)=(hq,bg,c'):=fun e=>hp (by rw[show a=hq from fK (fun x:iq=>x.1) e,show b=bg from fK (fun x:iq=>x.2.1) e]);rw[eT hn];rfl
def sa(w:aeo)(M:Nat)(L:List (iq×Int)):Prop:=∃es c,w.heap[M]?=some (.map es c)∧es.toList.map (fun e=>(e.key,e.val))=L.map (fun x=>(lJ x.1,Value.int .i64 x.2))
def EG(w:aeo)(L:List (iq×Int)):Prop:=∀x∈L,∃cs,w.heap[x.1.1]?=some (.cells cs eQ (0,0))
def kp(L:List (iq×Int))(k:iq):Option Int:=(L.find? fun x=>decide (k=x.1)).map Prod.snd
theorem S3(w:aeo)(k:iq){ca:ajv}(ha:w.heap[k.1]?=some (.cells ca eQ (0,0))):∀(L:List (iq×Int)) (es:List MapEntry) (i:Nat),EG w L→es.map (fun e=>(e.key,e.val))=L.map (fun x=>(lJ x.1,Value.int .i64 x.2))→
  (Instr.findAsking xU (lJ k) es i).run Tryz.prog w=.ok ((L.findIdx? fun x=>decide (k=x.1)).map fun j=>(i+j,Value.int .i64 ((kp L k).getD 0))) w
 |[],es,i,_,he=>by have:es=[]:=(by simpa using he);subst this;simp[Instr.findAsking]
 |x::L,es,i,ay,he=>by
  cases es with
  |nil=>simp at he
  |cons e es=>
   simp only[oH,Hr,fS] at he;obtain⟨⟨av,az⟩,aF⟩:=he;obtain⟨cs,gm⟩:=ay x (by simp);have heq:=alP k x.1 w ha gm;rw[←av] at heq;by_cases ax:k=x.1
   ·rw[e' ax] at heq;subst ax;simp[Instr.findAsking,heq,kp,az,Cs]
   ·rw[eT ax] at heq;have cT:=S3 w k ha L es (i+1) (fun y hy=>ay y (by simp[hy])) aF;simp[Instr.findAsking,heq,ax,cT,kp,Cs,xe,DL 1];rfl
theorem S4(k:iq)(w:aeo):(Instr.checkKey false 10000 xU (lJ k)).run Tryz.prog w=.ok () w∧(Instr.checkKey true 10000 xU (lJ k)).run Tryz.prog w=.ok () w:=by
 have key:∀(D d:Nat) (em:Bool),D=d+1+1→(Instr.checkKey em D xU (lJ k)).run Tryz.prog w=.ok () w:=by intro D d em cb;subst cb;have KD:∀(x:Addr) (y:ada),(part 190 #[.pointer (some x),y] 0).run Tryz.prog w=.ok (.pointer (some x)) w:=(fun x y=>by simp[part,jq Hs]);have bK:∀(x:ada) (y:Int),(part 3 #[x,I y] 1).run Tryz.prog w=.ok (I y) w:=(fun x y=>by simp[part,jq zo]);have Hu:∀x:Addr,(Instr.checkKey em (d+1) 190 (.pointer (some x))).run Tryz.prog w=.ok () w:=(fun x=>by simp[Instr.checkKey,jq Hs]);have Hv:∀x:Int,(Instr.checkKey em (d+1) 3 (I x)).run Tryz.prog w=.ok () w:=(fun x=>by simp[Instr.checkKey,jq zo]);rw[Instr.checkKey];simp only[jq Om,On,Hd];simp[KD,bK,Hu,Hv]
 exact⟨key 10000 9998 false (by decide),key 10000 9998 true (by decide)⟩
theorem Ox(k:iq)(es:List MapEntry)(w:aeo):(Instr.findKey xU (lJ k) es).run Tryz.prog w=(Instr.findAsking xU (lJ k) es).run Tryz.prog w:=
 run_findKey_eq w (by rw[Om]) _ _
variable{L:List (iq×Int)}
theorem alU{M:Nat}(h:sa w M L)(ay:EG w L)(k:iq)(ha:w.heap[k.1]?=some (.cells ca eQ (0,0))):
  (Instr.lookup Ow (.map (some M)) (lJ k) true).run Tryz.prog w=.ok (.tuple #[I ((kp L k).getD 0),U (kp L k).isSome]) w:=by
 obtain⟨es,c,nd,he⟩:=h;have hf:=S3 w k ha L es.toList 0 ay he;have Cx:∀b,(Instr.checkKey b 10000 xU (lJ k)).run Tryz.prog w=.ok () w:=fun b=>by cases b;exact (S4 k w).1;exact (S4 k w).2
 have bn:Tryz.prog.info? 3≠none:=by intro h;have:(Tryz.prog.info? 3).isSome=true:=(by kernel_rfl);rw[h] at this;cases this
 cases hi:L.findIdx? (fun x=>decide (k=x.1)) with
 |none=>
  have hn:kp L k=none:=(by unfold kp;rw[aad] at hi;rw[List.find?_eq_none.2 (fun x hx=>by simpa using hi x hx)];rfl);rw[hi] at hf;simp[Instr.lookup,jq Oo,Oq nd,Cx,Ox,hf,hn,Result.andThen]
 |some j=>
  have hn:(kp L k).isSome=true:=(by unfold kp;rw[Option.isSome_map,List.find?_isSome];obtain⟨av,az,_⟩:=List.findIdx?_eq_some_iff_getElem.1 hi;exact⟨L[j],mu _,az⟩);rw[hi] at hf;simp[Instr.lookup,jq Oo,Oq nd,Cx,Ox,hf,hn,Result.andThen]
def om(L:List (iq×Int))(k:iq)(v:Int):List (iq×Int):=match L.findIdx? (fun x=>decide (k=x.1)) with
 |some j=>L.set j (k,v)
 |none=>L++[(k,v)]
theorem Hw(k j:iq)(v:Int):∀L:List (iq×Int),kp (om L k v) j=if j=k then some v else kp L j
 |[]=>by by_cases h:j=k<;>simp[om,kp,h]
 |x::L=>by
  have cT:=Hw k j v L;by_cases hx:k=x.1
  ·subst hx;simp only[om,Cs,decide_true,List.set_cons_zero,sZ];by_cases h:j=x.1
   ·simp[kp,h]
   ·simp[kp,h]
  ·have e:om (x::L) k v=x::om L k v:=(by unfold om;rw[Cs,eT hx];cases L.findIdx? (fun x=>decide (k=x.1))<;>simp);rw[e];by_cases h:j=x.1
   ·have az:¬j=k:=fun e=>hx (e.symm.trans h);simp[kp,h,List.find?_cons,gJ hx]
   ·have a1:kp (x::om L k v) j=kp (om L k v) j:=(by simp[kp,h]);have a6:kp (x::L) j=kp L j:=(by simp[kp,h]);rw[a1,a6,cT]
theorem aaj{k:iq}{v:Int}{x:iq×Int}(h:x∈om L k v):x=(k,v)∨x∈L:=by
 unfold om at h;split at h
 ·exact (XK h).symm
 ·rw[List.mem_append,Rj] at h;exact h.symm
theorem alV(k:iq)(w:aeo):(Instr.keyThatStays (lJ k) (lJ k)).run Tryz.prog w=.ok (lJ k) w:=by
 have key:∀D d:Nat,D=d+1→Instr.sameBits D (lJ k) (lJ k)=true:=by intro D d h;subst h;simp[Instr.sameBits]
 simp[Instr.keyThatStays,key 10000 9999 (by decide)]
theorem S5{M:Nat}(h:sa w M L)(ay:EG w L)(k:iq)(ha:w.heap[k.1]?=some (.cells ca eQ (0,0)))(v:Int):
  ∃bV,(Instr.mapUpdate Ow (.map (some M)) (lJ k) (I v)).run Tryz.prog w=.ok () bV∧sa bV M (om L k v)∧aQ (fun b=>b≠M) w bV∧bV.heap.size=w.heap.size:=by
 obtain⟨es,c,nd,he⟩:=h;have hf:=S3 w k ha L es.toList 0 ay he;have Cx:=(S4 k w).1;have AU:∀qG c',aQ (fun b=>b≠M) w {w with heap:=w.heap.setIfInBounds M (.map qG c')}:=fun qG c'=>⟨rfl,rfl,rfl,by simp,fun b ay _=>by show (w.heap.setIfInBounds M _)[b]?=_;rw[zp,aR (gJ ay)]⟩;have b1:=lt_of_heap nd;cases hi:L.findIdx? (fun x=>decide (k=x.1)) with
 |none=>
  rw[hi] at hf
  refine ⟨{w with heap:=w.heap.setIfInBounds M (.map (es.push {key:=lJ k,val:= I v,born:=c}) (c+1))},?_,⟨_,_,by
   show (w.heap.setIfInBounds M _)[M]?=_;rw[zp,a8 rfl,a8 b1],?_⟩,AU _ _,by simp⟩
  ·simp[Instr.mapUpdate,jq Oo,Oq nd,Cx,Ox,hf,Ot _ nd,Result.andThen]
  ·unfold om;rw[hi];simp only[Array.toList_push,nb,he,oH,AS]
 |some j=>
  rw[hi] at hf;obtain⟨av,az,_⟩:=List.findIdx?_eq_some_iff_getElem.1 hi;have q9:j<es.toList.length:=(by have:=fK List.length he;simp only[e6] at this;omega);have Oy:(es[j]?).map (·.key)=some (lJ k):=by have aF:=fK (fun l=>l[j]?) he;simp only[Ct,l8 q9,l8 av,Cp,mi,fS] at aF;have bk:es[j]?=some es.toList[j]:=(by rw[←xP,l8 q9]);rw[bk,Cp,aF.1];have:k=L[j].1:=(by simpa using az);rw[this]
  refine ⟨{w with heap:=w.heap.setIfInBounds M (.map (es.modify j fun e=>{e with key:=lJ k,val:= I v}) c)},?_,⟨_,_,by
   show (w.heap.setIfInBounds M _)[M]?=_;rw[zp,a8 rfl,a8 b1],?_⟩,AU _ _,by simp⟩
  ·simp[Instr.mapUpdate,jq Oo,Oq nd,Cx,Ox,hf,Oy,alV,Ot _ nd,Result.andThen]
  ·unfold om;rw[hi];apply Hc;intro n;have aF:=fK (fun l=>l[n]?) he;simp only[Ct,Array.toList_modify,List.getElem?_modify,List.getElem?_set] at aF⊢;by_cases hn:j=n
   ·subst hn;rw[l8 q9];simp[av]
   ·simp only[hn,yZ] at aF⊢;simpa using aF
structure Fr where
 k:Nat
 o:Nat
 c:Nat
 pre:bc
 rest:bc
def Fr.all(f:Fr):bc:=f.pre.append f.rest
def Fr.key(f:Fr):iq:=(f.k,f.o,f.all.len)
def EH(f:Fr):List Value:=[ad (some (aj f.k f.o)) f.all.len f.c,I (f.pre.len:Int),I (f.pre.count:Int)]
def qa:List Fr→List Value
 |[]=>[]
 |f::ts=>qa ts++EH f
theorem Cy:∀ts:List Fr,(qa ts).length=ts.length *3
 |[]=>rfl
 |f::ts=>by simp only[qa,hl,Cy ts,eP,EH,rC];omega
def uW(root:bc):List Fr→Prop
 |[]=>True
 |[f]=>f.all=root
 |f::g::ts=>(∃a b r,g.rest=.cons a b f.all r)∧uW root (g::ts)
theorem bc.count_cons(a:Bool)(b:cJ)(s r:bc):(bc.cons a b s r).count=s.count+r.count+1:=rfl
theorem uW.count{root:bc}:∀{f:Fr} {ts:List Fr},uW root (f::ts)→∀g∈f::ts,f.all.count≤g.all.count
 |f,[],_,g,ba=>by obtain rfl:g=f:=(by simpa using ba);exact bx _
 |f,h::ts,hc,g,ba=>by
  rcases List.mem_cons.1 ba with rfl|ba
  ·exact bx _
  ·obtain⟨⟨a,b,r,e⟩,az⟩:=hc;have aF:=uW.count az g ba;have bk:f.all.count<h.all.count:=(by unfold Fr.all at e⊢;rw[bc.count_append h.pre,e,bc.count_cons];show (f.pre.append f.rest).count<_;omega);omega
theorem uW.aak{root:bc}:∀{f:Fr} {ts:List Fr},uW root (f::ts)→f.all.count≤root.count
 |f,[],h=>by rw[show f.all=root from h];exact bx _
 |f,g::ts,h=>by have av:=uW.count h g (by simp);exact dB av (uW.aak h.2)
def rf:bc→Nat
 |.nil=>0
 |.cons _ _ s r=>rf s+rf r+3
def wt:bc→Nat
 |.nil=>0
 |.cons _ _ _ r=>rf r
def xV:List Fr→Nat
 |[]=>0
 |f::ts=>wt f.rest+2+xV ts
def iI(hd:Bool):List Fr→Nat
 |[]=>0
 |f::ts=>(if hd=true then wt f.rest+2 else rf f.rest+1)+xV ts
structure uX(S:afp)(w0:aeo)(L:List (iq×Int))(ts:List Fr):Prop where
 op:∀k v,kp L k=some v→v= -1→∃f∈ts,f.key=k
 cn:∀k v,kp L k=some v→v≠-1→∃s,hM S w0 (some (aj k.1 k.2.1)) s∧s.len=k.2.2∧v=(s.count:Int)
 h':EG w0 L
theorem hM.block{o:Nat}{s:bc}(h:hM S w (some (aj k o)) s)(aA:0<s.len):∃cs,w.heap[k]?=some (.cells cs eQ (0,0))∧S k:=by obtain⟨tv,uq,cs,e,hS,aJ,_⟩:=h.2 aA;injection e with e;injection e with a1 _;subst a1;exact⟨cs,aJ,hS⟩
variable{f:Fr}{ts:List Fr}
theorem uX.found{root:bc}(h:uX S w0 L (f::ts))(KE:uW root (f::ts))(iF:∀g∈f::ts,hM S w0 (some (aj g.k g.o)) g.all){o:Nat}{sub:bc}(hs:hM S w0 (some (aj k o)) sub)(b1:sub.count<f.all.count){v:Int}(aS:kp L (k,o,sub.len)=some v):v=(sub.count:Int):=by
 by_cases av:v= -1
 ·exfalso;obtain⟨g,ba,ax⟩:=h.op _ _ aS av;have a1:g.k=k:=fK (fun x:iq=>x.1) ax;have a6:g.o=o:=fK (fun x:iq=>x.2.1) ax;have ch:g.all.len=sub.len:=fK (fun x:iq=>x.2.2) ax;have hp:=iF g ba;rw[a1,a6] at hp;have gw:g.all=sub:=hp.uniq hs ch;have:=KE.count g ba;rw[gw] at this;omega
 ·obtain⟨s,hp,aA,e⟩:=h.cn _ _ aS av;rw[e,hM.uniq (s:=s) (s':=sub) hp hs aA]
theorem uX.push(h:uX S w0 L ts)(hp:hM S w0 (some (aj f.k f.o)) f.all)(aA:0<f.all.len):uX S w0 (om L f.key (-1)) (f::ts) where
 op:=fun k v aS e=>by
  rw[Hw] at aS;by_cases ax:k=f.key
  ·exact⟨f,by simp,ax.symm⟩
  ·rw[aR ax] at aS;obtain⟨g,ba,a6⟩:=h.op k v aS e;exact⟨g,by simp[ba],a6⟩
 cn:=fun k v aS e=>by
  rw[Hw] at aS;by_cases ax:k=f.key
  ·rw[a8 ax] at aS;injection aS with aS;exact absurd aS.symm e
  ·rw[aR ax] at aS;exact h.cn k v aS e
 h':=fun x hx=>by
  rcases aaj hx with rfl|hx
  ·obtain⟨cs,aJ,_⟩:=hp.block aA;exact⟨cs,aJ⟩
  ·exact h.h' x hx
theorem uX.pop(h:uX S w0 L (f::ts))(hp:hM S w0 (some (aj f.k f.o)) f.all)(aA:0<f.all.len):uX S w0 (om L f.key (f.all.count:Int)) ts where
 op:=fun k v aS e=>by
  rw[Hw] at aS;by_cases ax:k=f.key
  ·rw[a8 ax] at aS;injection aS with aS;omega
  ·rw[aR ax] at aS;obtain⟨g,ba,a6⟩:=h.op k v aS e;rcases List.mem_cons.1 ba with rfl|ba
   ·exact absurd a6.symm ax
   ·exact⟨g,ba,a6⟩
 cn:=fun k v aS e=>by
  rw[Hw] at aS;by_cases ax:k=f.key
  ·rw[a8 ax] at aS;injection aS with aS;subst ax;exact⟨f.all,hp,rfl,aS.symm⟩
  ·rw[aR ax] at aS;exact h.cn k v aS e
 h':=fun x hx=>by
  rcases aaj hx with rfl|hx
  ·obtain⟨cs,aJ,_⟩:=hp.block aA;exact⟨cs,aJ⟩
  ·exact h.h' x hx
theorem uX.Oz{f':Fr}(h:uX S w0 L (f::ts))(ax:f'.key=f.key):uX S w0 L (f'::ts) where
 op:=fun k v aS e=>by
  obtain⟨g,ba,a6⟩:=h.op k v aS e;rcases List.mem_cons.1 ba with rfl|ba
  ·exact⟨f',by simp,ax.trans a6⟩
  ·exact⟨g,by simp[ba],a6⟩
 cn:=h.cn
 h':=h.h'
end c4
