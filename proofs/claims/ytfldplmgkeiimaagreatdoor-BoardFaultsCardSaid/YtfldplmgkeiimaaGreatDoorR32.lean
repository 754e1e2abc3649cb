/- Lemmas. -/
import Derived.Test.YtfldplmgkeiimaaGreatDoorR11
set_option linter.all false
set_option maxRecDepth 100000
set_option maxHeartbeats 12800000
namespace Go.Proofs.YtfldplmgkeiimaaGreatDoor
abbrev UL:=@Int.pow_nonneg
abbrev EH:=@Proofs.Tryz.func58
abbrev EI:=@Proofs.Tryz.ntmps58
namespace dd
open Go.RowKit ef
structure RcM(S:afp)(w0:aeo)(g:Nat)(os:List eu)(es:List (ck×Bool))(fc fw:ada)(x:aeo):Prop where
 res:an x g (#[J 0,J 0]) ja
 n:sH S w0 (g+1) os es fc fw x
theorem RcM.below{S:afp}{w0:aeo}{g:Nat}{os:List eu}{es:List (ck×Bool)}{fc fw:ada}{x y:aeo}(h:RcM S w0 g os es fc fw x)(ax:ao x x y):RcM S w0 g os es fc fw y:=⟨aU h.res ax,h.n.below ax⟩
theorem RcM.zR{S:afp}{w0:aeo}{g:Nat}{os:List eu}{es:List (ck×Bool)}{fc fw rC:ada}{X y:aeo}{xs:aev}{d:Bool}{bs:dm}{s:bk}{pl:Ja}{cl:Nat}{pp:Ja}{cp:Nat}{V:aev}
  (h:RcM S w0 g os es fc fw X) (lq:X.ownsRow (g+1+1) dq 11 fc os.length xs) (hp:ds S X (pB os) xs) (hS:∀k,S k→k<g+1) (hR:w0.heap.size≤g)
  (aF:X.grownBy y fc.ownBlock) (nk:V=U d::lF bs (ad pl bs.l.length cl) (ad pp s.len cp)) (c0:y.ownsRow (g+1+1) dq 11 rC (os.length+1) (xs++V)) (ax:dE S X pl cl pp cp ⟨bs,s⟩):
  RcM S w0 g (os++[(d,⟨bs,s⟩)]) es rC fw (y.setCell (aj (g+1) 0) rC):=by
 subst nk;exact⟨BG lq aF (by omega) (by omega) h.res,sH.zR (x:=X) h.n.r lq hp h.n.e h.n.aX hS (by omega) aF c0 ax⟩
theorem RcM.Dx{S:afp}{w0:aeo}{g:Nat}{os:List eu}{es:List (ck×Bool)}{fc fw sI:ada}{X y:aeo}{c:ck}{a:Bool}
  (h:RcM S w0 g os es fc fw X) (hS:∀k,S k→k<g+1) (hR:w0.heap.size≤g)
  (aF:X.grownBy y fw.ownBlock) (c0:y.ownsRow (g+1+1) jG 5 sI (es.length+1) (oq es++BD c a)):
  RcM S w0 g os (es++[(c,a)]) fc sI (y.setCell (aj (g+1) 1) sI):=
 ⟨BG h.n.e aF (by omega) (by omega) h.res,h.n.Dx hS (by omega) aF c0⟩
theorem apd(l:List eu)(x:eu)(o:Option ck)(h:Iv x.2=o):og (l++[x])=o.elim (og l) (fun b=>og l++[⟨x,b,Dc x.2⟩]):=by unfold og;rw[List.filterMap_append];cases o<;>simp[h]
theorem UM(l:List eu):(og l).length≤l.length:=List.length_filterMap_le _ _
abbrev acB(W:aeo)(row:Option Nat)(R r9 D:Nat)(fw:ada)(fz:ck)(aB:dm)(pl:Ja)(nl cl:Nat)(pp:Ja)(mp cp:Nat)(Z:aeo):Prop:=
 Z.cell? ⟨R,1,none⟩=some (fw)∧ak Z r9 0 (I fz.aD)∧ak Z r9 1 (I fz.aE)∧ak Z r9 2 (I fz.aL)∧ak Z r9 3 (I fz.aH)∧ak Z D 1 (I aB.k)∧ak Z D 2 (I aB.a.1)∧ak Z D 3 (I aB.a.2)∧ak Z D 4 (I aB.b.1)∧ak Z D 5 (I aB.b.2)∧ak Z D 6 (I aB.c.1)∧ak Z D 7 (I aB.c.2)∧ak Z D 8 (I aB.r)∧ak Z D 9 (ad pl nl cl)∧ak Z D 10 (ad pp mp cp)∧Z.frozen? ⟨R,1,none⟩=false∧aP (fun k=>some k≠row) W Z
theorem ape{W Z:aeo}{row:Option Nat}{R r9 D:Nat}{fc fw:ada}{fz:ck}{od:Bool}{aB:dm}{pl:Ja}{nl cl:Nat}{pp:Ja}{mp cp:Nat}(hr:an W R (#[fc,fw]) ja)(ax:W.heap[r9]?=some (cV fz))(hd:an W D (#[U od,I aB.k,I aB.a.1,I aB.a.2,I aB.b.1,I aB.b.2,I aB.c.1,I aB.c.2,I aB.r,ad pl nl cl,ad pp mp cp]) dq)(en:some R≠row)(fa:some r9≠row)(n3:some D≠row)(ay:aP (fun k=>some k≠row) W Z):
  acB W row R r9 D fw fz aB pl nl cl pp mp cp Z:=by
 have av:=ay.get en hr;have az:=ay.get fa ax;have aC:=ay.get n3 hd;exact⟨cell_of av rfl,cell_of az rfl,cell_of az rfl,cell_of az rfl,cell_of az rfl,cell_of aC rfl,cell_of aC rfl,cell_of aC rfl,cell_of aC rfl,cell_of aC rfl,cell_of aC rfl,cell_of aC rfl,cell_of aC rfl,cell_of aC rfl,cell_of aC rfl,cJ av 1,ay⟩
theorem apf(S:afp)(l:List eu)(aA:∀o∈l,sD o.2)(p:Ja)(n c:Nat)(hn:n=l.length)(w:aeo)(H:af (h8 S w p l)):
  Calls Tryz.prog 84 #[ad p n c] w fun e w'=>∃ik c' jD fx,e=ab (.agg (lp ik (og l).length c' jD fx))∧me (fun k=>S k∨w.heap.size≤k) w' ik jD (og l)∧ao w w w':=by
 have oa:n≤1000000000:=by rw[hn];exact H.out.1
 have bd:=aq hn;have dn:=aq aA;have e0:af (h8 (fun k=>S k∧k<w.heap.size) w p l):=H.out.mono (fun k av az=>⟨az,av⟩);obtain⟨nO,tW⟩:∃nO:afp,(fun k=>S k∧k<w.heap.size)=nO:=⟨_,rfl⟩;have vu:af (∀k,nO k→S k):=by rw[←tW];exact fun k h=>h.1
 have p1:af (∀k,nO k→k<w.heap.size):=by rw[←tW];exact fun k h=>h.2
 have ke:af (∀k,nO k→k<w.heap.size+1):=fun k h=>Nat.lt_succ_of_lt (p1.out k h);rw[tW] at e0;clear hn aA tW H;go_enter Tryz.func84,Tryz.ntmps84;go_upto_region 2 with fail;obtain⟨W,bo⟩:=ar ((w.alloc (ai (#[J 0,J 0]) ja)).alloc (ai (#[J 0,J 0]) ja));have bH:af (RcM nO w w.heap.size [] [] (J 0) (J 0) W):=by have av:an W w.heap.size (#[J 0,J 0]) ja:=(by rw[←bo];exact aU (bY _ _) (a6 _ _));have az:an W (w.heap.size+1) (#[J 0,J 0]) ja:=(by rw[←bo];exact vd _ _ _);exact⟨av,az,⟨[],⟨rfl,.inl ⟨rfl,rfl⟩⟩,trivial⟩,⟨rfl,.inl ⟨rfl,rfl⟩⟩,by rw[←bo];exact pz _ _ _⟩
 rw[bo];clear bo;go_wp2_with fail
 go_loopw [10] (fun i wr=>∃(j:Nat) (fc fw:ada) (aM:aeo),aM=wr∧j≤n∧i=I j∧af (RcM nO w w.heap.size (yJ (og (l.take j))) (yK (og (l.take j))) fc fw aM)) (fun i _=>n -(intOf i).toNat)
 case atStart=>exact⟨0,_,_,_,rfl,dO _,rfl,bH.out⟩
 case round=>
 obtain⟨j,fc,fw,aM,rfl,cd,rfl,aI⟩:=hrel;clear bH;obtain⟨p2,tX⟩:=ar (yJ (og (l.take j)));obtain⟨yL,Dz⟩:=ar (yK (og (l.take j)));rw[tX,Dz] at aI;have tY:=aq tX.symm;have lP:=aq Dz.symm;clear tX Dz;by_cases bR:j<n
 ·have fE:j<l.length:=(by rw[←bd.out];exact bR);have gU:(j:Int)<(n:Int):=(by omega);obtain⟨⟨od,⟨aB,os⟩⟩,aR⟩:=ar (l[j]);have Dt:=aq (dn.out (od,⟨aB,os⟩) (by rw[←aR];exact kT _));obtain⟨ht,lg,pl,cl,pp,cp,rfl,qt,_,el,aQ,aN,aJ,c3,bF,c5,bZ,b',bU,bg,cH⟩:=e0.out.at fE aR;have o3:=aq el;obtain⟨o,bm⟩:=ar (Iv ⟨aB,os⟩);obtain⟨r',UN⟩:=ar (Dc ⟨aB,os⟩);have apg:=aq bm;have aph:=aq UN;have vq:=aq (apd (l.take j) (od,⟨aB,os⟩) o bm);have sK:af (l.take (j+1)=l.take j++[(od,⟨aB,os⟩)]):=(by show _=_;rw[wy fE,aR]);obtain⟨nl,gj⟩:=ar aB.l.length;obtain⟨mp,zU⟩:=ar os.len;have qs:=aq gj;have Ny:=aq zU;have acC:af (∀Z,ao w w Z→Calls Tryz.prog 122 #[.agg #[I aB.k,I aB.a.1,I aB.a.2,I aB.b.1,I aB.b.2,I aB.c.1,I aB.c.2,I aB.r,ad pl nl cl,ad pp mp cp]] Z fun e w'=>e=ab (.tuple #[h5 (o.getD eh),U o.isSome])∧ao Z Z w'):=(by intro Z eY;rw[←gj,←zU];exact aio nO aB os Dt.out pl cl pp cp Z (aq (o3.out.below eY)) o apg);have api:af (∀Z,ao w w Z→Calls Tryz.prog 123 #[.agg #[I aB.k,I aB.a.1,I aB.a.2,I aB.b.1,I aB.b.2,I aB.c.1,I aB.c.2,I aB.r,ad pl nl cl,ad pp mp cp]] Z fun e w'=>e=ab (U r')∧ao Z Z w'):=(by intro Z eY;rw[←gj,←zU,←UN];exact ail aB os nO pl cl pp cp Z (aq (o3.out.below eY)));rw[gj] at bg;rw[zU] at cH;have dQ:=aI.out.n.aX;have d0:=bV dQ aQ;have d1:=bV dQ aN;have d2:=bV dQ aJ;have d3:=bV dQ c3;have d4:=bV dQ bF;have d5:=bV dQ c5;have d6:=bV dQ bZ;have d7:=bV dQ b';have d8:=bV dQ bU;have d9:=bV dQ bg;have d10:=bV dQ cH;clear aQ aN aJ c3 bF c5 bZ b' bU bg cH dQ el aR bm UN gj zU;go_upto_region 5 with fail;have cC:=aq (aI.out.below (a6 aM (ai (#[U od,I aB.k,I aB.a.1,I aB.a.2,I aB.b.1,I aB.b.2,I aB.c.1,I aB.c.2,I aB.r,ad pl nl cl,ad pp mp cp]) dq)));have jl:af ((aM.alloc (ai (#[U od,I aB.k,I aB.a.1,I aB.a.2,I aB.b.1,I aB.b.2,I aB.c.1,I aB.c.2,I aB.r,ad pl nl cl,ad pp mp cp]) dq)).heap[aM.heap.size]?=some (.cells #[U od,I aB.k,I aB.a.1,I aB.a.2,I aB.b.1,I aB.b.2,I aB.c.1,I aB.c.2,I aB.r,ad pl nl cl,ad pp mp cp] dq)):=bY _ _;generalize aM.alloc (.cells #[U od,I aB.k,I aB.a.1,I aB.a.2,I aB.b.1,I aB.b.2,I aB.c.1,I aB.c.2,I aB.r,ad pl nl cl,ad pp mp cp] dq)=b7 at cC jl⊢;obtain⟨D,b2⟩:=ar aM.heap.size;have acD:af (∀k,fc.ownBlock=some k→k<D):=(by obtain⟨axf,xE,_⟩:=aI.out.n.o;intro k ay;rw[←b2];exact (xE.lt k ay).2);rw[b2] at jl⊢;clear d0 d1 d2 d3 d4 d5 d6 d7 d8 d9 d10 b2 aI;obtain⟨d0,d1,d2,d3,d4,d5,d6,d7,d8,d9,d10⟩:=pZ jl.out;go_wp2_with fail;with_reducible refine (acC.out _ cC.out.n.aX).mono ?_
  rintro e b4 ⟨rfl,ax⟩;have c6:=aq (cC.out.below ax);have kp:=aq (aU jl.out ax);clear d0 d1 d2 d3 d4 d5 d6 d7 d8 d9 d10 ax jl cC acC;cases o with
  |none=>
   have aO:af (og (l.take (j+1))=og (l.take j)):=(by show _=_;rw[sK.out,vq.out];rfl);go_wp2_with fail;have dV:=aq (c6.out.below (a6 b4 (cV eh)));go_round<;>first|exact⟨j+1,_,_,_,rfl,by omega,by go_num,by rw[aO.out,←tY.out,←lP.out];exact dV.out⟩|(simp[intOf]<;>omega)
  |some fz=>
   have aO:af (og (l.take (j+1))=og (l.take j)++[⟨(od,⟨aB,os⟩),fz,r'⟩]):=(by show _=_;rw[sK.out,vq.out,←aph.out];rfl);go_upto_region 7 with fail;have dV:=aq (c6.out.below (a6 b4 (cV fz)));have ku:=aq (aU kp.out (a6 b4 (cV fz)));have re:af ((b4.alloc (cV fz)).heap[b4.heap.size]?=some (cV fz)):=bY _ _;change Code.wp _ _ _ _ (b4.alloc (cV fz));generalize b4.alloc (cV fz)=c9 at dV ku re⊢;obtain⟨r9,acE⟩:=ar b4.heap.size;rw[acE] at re⊢;clear acE c6 kp;obtain⟨xs,qJ,BH⟩:=dV.out.n.o;obtain⟨jY,jZ,rfl⟩:=jH qJ;obtain⟨jI,mJ,rfl⟩:=jH dV.out.n.e;obtain⟨m,hm⟩:=ar p2.length;obtain⟨m2,jB⟩:=ar yL.length;have DA:m≤1000000000:=(by rw[←hm,tY.out,gO];have:=UM (l.take j);rw[kU] at this;omega);have Yo:m2≤1000000000:=(by rw[←jB,lP.out,gO];have:=UM (l.take j);rw[kU] at this;omega);have w9:=aq hm;have cA:=aq jB;have sL:af (c9.ownsRow (w.heap.size+1+1) dq 11 (ad jY p2.length jZ) p2.length xs):=qJ;have yC:=aq BH;have Yp:=dV.out.n.aX.size;have DB:=lt_of_heap dV.out.n.r;have mf:=aq (dV.out.below (a6 c9 (ai (#[U od,I aB.k,I aB.a.1,I aB.a.2,I aB.b.1,I aB.b.2,I aB.c.1,I aB.c.2,I aB.r,ad pl nl cl,ad pp mp cp]) dq)));rw[hm,jB] at dV mf;rw[hm] at sL acD;have jb:af ((c9.alloc (ai (#[U od,I aB.k,I aB.a.1,I aB.a.2,I aB.b.1,I aB.b.2,I aB.c.1,I aB.c.2,I aB.r,ad pl nl cl,ad pp mp cp]) dq)).ownsRow (w.heap.size+1+1) dq 11 (ad jY m jZ) m xs):=sL.out.alloc _;have lO:∀(cW:aeo),(c9.alloc (ai (#[U od,I aB.k,I aB.a.1,I aB.a.2,I aB.b.1,I aB.b.2,I aB.c.1,I aB.c.2,I aB.r,ad pl nl cl,ad pp mp cp]) dq)).grownBy cW (Value.slice jY m jZ).ownBlock→ak cW (w.heap.size+1) 0 (ad jY m jZ)∧cW.frozen? ⟨w.heap.size+1,0,none⟩=false:=(by intro cW tZ;have av:=(tZ.block _ (lt_of_heap mf.out.n.r) (fun e=>by have:=(jb.out.lt _ e.symm).1;omega)).trans mf.out.n.r;exact⟨(ot av).1,cJ av 0⟩);clear qJ BH hm jB;obtain⟨i0,hi,dy,dJ,dv⟩:=info_parts Jd;have b8:=aq (And.intro hi (And.intro dy (And.intro dJ dv)));clear hi dy dJ dv;obtain⟨ju,iJ⟩:=ot dV.out.n.r;have fr:=cJ dV.out.n.r;obtain⟨d0,d1,d2,d3,d4,d5,d6,d7,d8,d9,d10⟩:=pZ ku.out;have rQ:=lt_of_heap ku.out;go_upto_region 8 with (at_builtin;refine yI _ rfl _ _ _ rfl (w.heap.size+1+1) dq i0 BF 11 120 Dv b8.out.1 b8.out.2.1 b8.out.2.2.1 b8.out.2.2.2 rfl (by omega) (ad jY m jZ) m _ (by rfl) jb.out (aj c9.heap.size 0) 1 1 [U od,I aB.k,I aB.a.1,I aB.a.2,I aB.b.1,I aB.b.2,I aB.c.1,I aB.c.2,I aB.r,ad pl nl cl,ad pp mp cp] (by rfl) (by rfl) (j8 (cs:= #[U od,I aB.k,I aB.a.1,I aB.a.2,I aB.b.1,I aB.b.2,I aB.c.1,I aB.c.2,I aB.r,ad pl nl cl,ad pp mp cp]) (t:=dq) (fr:=(0,0)) (fJ c9 _)) (by simp[Value.oneCell']) (by omega) (by unfold maxLen;omega) (by omega) (by simp;omega) (c9.heap.size+1) (by simp) ?_;intro ed jc cW c0 ep eX iR;obtain⟨b1,cw⟩:=lO cW ep);have gb:=aq (RcM.zR (d:=od) (bs:=aB) (s:=os) (pl:=pl) (cl:=cl) (pp:=pp) (cp:=cp) mf.out (by rw[w9.out];exact jb.out) (yC.out.below (a6 c9 (ai (#[U od,I aB.k,I aB.a.1,I aB.a.2,I aB.b.1,I aB.b.2,I aB.c.1,I aB.c.2,I aB.r,ad pl nl cl,ad pp mp cp]) dq))) ke.out (bx _) ep (show [U od,I aB.k,I aB.a.1,I aB.a.2,I aB.b.1,I aB.b.2,I aB.c.1,I aB.c.2,I aB.r,ad pl nl cl,ad pp mp cp]=U od::lF aB (ad pl aB.l.length cl) (ad pp os.len cp) by rw[qs.out,Ny.out]) (by rw[w9.out];exact c0) (o3.out.below mf.out.n.aX));have apj:D≠w.heap.size+1:=(by intro e;have aC:=ku.out;rw[e,dV.out.n.r] at aC;injection aC with aC;injection aC with _ aC;exact absurd aC (by decide));have apk:r9≠w.heap.size+1:=(by intro e;have aC:=re.out;rw[e,dV.out.n.r] at aC;injection aC with aC;injection aC with _ aC;exact absurd aC (by decide));have nL:af ((cW.setCell (aj (w.heap.size+1) 0) (ag ed 0 (m+1) jc)).heap[D]?=some (.cells #[U od,I aB.k,I aB.a.1,I aB.a.2,I aB.b.1,I aB.b.2,I aB.c.1,I aB.c.2,I aB.r,ad pl nl cl,ad pp mp cp] dq)):=(by have av:=aU ku.out (a6 c9 (ai (#[U od,I aB.k,I aB.a.1,I aB.a.2,I aB.b.1,I aB.b.2,I aB.c.1,I aB.c.2,I aB.r,ad pl nl cl,ad pp mp cp]) dq));exact (iK apj).trans ((ep.block D (lt_of_heap av) (fun e=>mA _ (acD.out D e.symm))).trans av));have qq:af ((cW.setCell (aj (w.heap.size+1) 0) (ag ed 0 (m+1) jc)).heap[r9]?=some (cV fz)):=(by have av:=aU re.out (a6 c9 (ai (#[U od,I aB.k,I aB.a.1,I aB.a.2,I aB.b.1,I aB.b.2,I aB.c.1,I aB.c.2,I aB.r,ad pl nl cl,ad pp mp cp]) dq));exact (iK apk).trans ((ep.block r9 (lt_of_heap av) (gu (m' jb.out av (by decide)))).trans av));clear c0 ep eX iR b1 cw d0 d1 d2 d3 d4 d5 d6 d7 d8 d9 d10 ju iJ fr DB rQ;generalize cW.setCell (aj (w.heap.size+1) 0) (ad (some (aj ed 0)) (m+1) jc)=gB at gb nL qq⊢;obtain⟨lN,hi,dy,dJ,dv⟩:=info_parts RU;have cG:=aq (And.intro hi (And.intro dy (And.intro dJ dv)));clear hi dy dJ dv;have iF:=gb.out.n.aX.size;have acF:some (w.heap.size+1)≠(Value.slice jI m2 mJ).ownBlock:=(fun e=>by have:=(gb.out.n.e.lt _ e.symm).1;omega);have acG:some D≠(Value.slice jI m2 mJ).ownBlock:=gu (m' gb.out.n.e nL.out (by decide));have acH:some r9≠(Value.slice jI m2 mJ).ownBlock:=gu (m' gb.out.n.e qq.out (by decide));have bC:af (∀Z,aP (fun k=>some k≠(Value.slice jI m2 mJ).ownBlock) gB Z→acB gB (Value.slice jI m2 mJ).ownBlock (w.heap.size+1) r9 D (ad jI m2 mJ) fz aB pl nl cl pp mp cp Z):=fun Z ay=>ape (od:=od) gb.out.n.r qq.out nL.out acF acH acG ay;have xT:af (aP (fun k=>some k≠(Value.slice jI m2 mJ).ownBlock) gB gB.drew):=aP.dW (Below.refl _ _).drew;have l1:=aq (bC.out _ (aP.refl _ _));have lY:=aq (bC.out _ xT.out);have apl:af (gB.ownsRow (w.heap.size+1+1) jG 5 (ad jI m2 mJ) m2 (oq yL)):=(by have:=gb.out.n.e;rw[cA.out] at this;exact this);clear acF acG acH;have axg:=lt_of_heap gb.out.n.r;have acI:=lt_of_heap nL.out;have RS:=lt_of_heap qq.out;have apm:af (∀cN,ao gB.drew gB.drew cN→w.heap.size+1<cN.heap.size∧D<cN.heap.size∧r9<cN.heap.size):=(fun cN h=>by have av:=h.size;have az:gB.drew.heap.size=gB.heap.size:=rfl;rw[az] at av;exact⟨by omega,by omega,by omega⟩);have Iz:af (∀cN,ao gB.drew gB.drew cN→∀k4,(cN.alloc (ai (#[I fz.aD,I fz.aE,I fz.aL,I fz.aH,U r']) jG)).grownBy k4 (Value.slice jI m2 mJ).ownBlock→ak k4 (w.heap.size+1) 1 (ad jI m2 mJ)∧k4.frozen? ⟨w.heap.size+1,1,none⟩=false):=(by intro cN c4 k4 ez;have ay:=bC.out k4 (((xT.out.trans (aP.dW c4)).trans (aP.alloc _ _ _)).trans (aP.grown ez (fun k ay h=>h ay.symm)));exact⟨ay.1,ay.2.2.2.2.2.2.2.2.2.2.2.2.2.2.2.1⟩);have B4:af (ao w w gB.drew):=gb.out.n.aX.drew;obtain⟨UO,ug,gL,Ah,UP,PA,Ea,apn,O0,apo,l10,apq,apr,aps,apt,Iq,_⟩:=l1.out
   go_region_law (first|(refine BC _ (by rfl) _ _ _ (by rfl) (w.heap.size+1+1) jG lN Nx 5 40 RP cG.out.1 cG.out.2.1 cG.out.2.2.1 cG.out.2.2.2 rfl (by omega) (ad jI m2 mJ) m2 _ (by rfl) ((gC (gC apl.out (Below.refl _ _).drew) dF).alloc _) (aj cN.heap.size 0) 1 1 [I fz.aD,I fz.aE,I fz.aL,I fz.aH,U r'] (by rfl) (by rfl) (j8 (cs:= #[I fz.aD,I fz.aE,I fz.aL,I fz.aH,U r']) (t:=jG) (fr:=(0,0)) (fJ cN _)) (by simp[Value.oneCell']) (by omega) (by unfold maxLen;omega) (by omega) (by simp;omega) (cN.heap.size+1) (by simp) ?_;intro ge Ji k4 c0 ep eX iR;obtain⟨b1,cw⟩:=Iz.out cN dF k4 ep)|(rw[bb (by rfl)];go_simp;go_at_call 123;with_reducible refine (api.out _ B4.out).mono ?_;rintro e cN ⟨rfl,dF⟩;obtain⟨bJ,bO,ba,p0,BE,DV,DW,DX,DY,xl,DZ,KQ,aco,acp,acq,mI,_⟩:=bC.out cN (xT.out.trans (aP.dW dF));obtain⟨gH,gI,gz⟩:=apm.out cN dF))
   all_goals
    have t':=aq (((gb.out.below (Below.refl _ _).drew).below dF).below (a6 cN (ai (#[I fz.aD,I fz.aE,I fz.aL,I fz.aH,U r']) jG)));have mb:=aq (RcM.Dx (c:=fz) (a:=r') t'.out ke.out (bx _) ep (by rw[cA.out];exact c0));have a7:yJ (og (l.take (j+1)))=p2++[(od,⟨aB,os⟩)]:=(by rw[aO.out,yJ,qI,tY.out];rfl);have bf:yK (og (l.take (j+1)))=yL++[(fz,r')]:=(by rw[aO.out,yK,qI,lP.out];rfl);rw[←a7,←bf] at mb;clear c0 ep eX iR b1 cw bJ bO ba p0 BE DV DW DX DY xl DZ KQ aco acp acq mI gH gI gz UO ug gL Ah UP PA Ea apn O0 apo l10 apq apr aps apt Iq;generalize k4.setCell (aj (w.heap.size+1) 1) (ad (some (aj ge 0)) (m2+1) Ji)=eT at mb⊢;go_wp2_with fail;go_round<;>first|exact⟨j+1,_,_,_,rfl,by omega,by go_num,mb.out⟩|(simp[intOf]<;>omega)
 ·have iH:j=n:=(by omega);subst iH;have dr:af (l.take j=l):=(by show _=_;rw[bd.out];exact uJ);rw[dr.out] at tY lP;have h9:=aI.out.n;rw[tY.out,lP.out] at h9;obtain⟨ik,c',jD,fx,Jj,Jk,xa⟩:=h9.done (R':=fun k=>nO k∨w.heap.size+1+1≤k) (by have av:=UM l;have az:=bd.out;show _≤1000000000;omega) (fun k h=>.inl h) (fun k h=>.inr h);have DC:=aq xa;obtain⟨L,jJ⟩:=ar ((og l).length);have DD:=aq jJ;rw[jJ] at Jj Jk;subst Jj Jk;clear h9 xa jJ;obtain⟨ju,iJ⟩:=ot aI.out.n.r;obtain⟨u0,u1⟩:=ot aI.out.res;have fu:=cJ aI.out.res;go_wp2_with fail;have jX:=oh [ad ik L c',ad jD L fx] aI.out.res rfl;have ax:=ss (m:=0) (b:=w.heap.size) (bx _) [ad ik L c',ad jD L fx] aI.out.n.aX;refine dU (tK rfl _ _ w.heap.size _ _ _ _ rfl jX Tryz.underlying201 rfl (by kernel_rfl)) rfl ⟨ik,c',jD,fx,by rw[DD.out],?_,ax⟩;refine (DC.out.keep (wY (S:=fun k=>nO k∨w.heap.size+1+1≤k) (b:=w.heap.size) (m:=0) (fun h=>?_) [ad ik L c',ad jD L fx])).mono (fun k _ h=>?_)
  ·rcases h with h|h
   ·have:=p1.out _ h;omega
   ·omega
  ·rcases h with h|h
   ·exact .inl (vu.out k h)
   ·exact .inr (by omega)
end dd
namespace ef
def tb(d:Nat)(g:List fL)(s:Option e3×Int)(q:ck):Option e3×Int:=match s with
 |(none,m)=>(none,m)
 |(some c,m)=>match py d (gV g q) q m with
  |(none,m)=>(none,m)
  |(some e,m)=>(some (c.1+e.1,c.2+e.2),m)
theorem apu(d:Nat)(g:List fL)(m:Int)(q:ck):tb d g (none,m) q=(none,m):=rfl
theorem UQ(d:Nat)(g:List fL)(m:Int):∀l:List ck,l.foldl (tb d g) (none,m)=(none,m)
 |[]=>rfl
 |q::l=>by rw[Fh,apu];exact UQ d g m l
variable{d:Nat}
theorem acJ{g:List fL}{c:e3}{m dj:Int}{q:ck}(h:py d (gV g q) q m=(none,dj)):tb d g (some c,m) q=(none,dj):=by simp only[tb,h]
theorem acK{g:List fL}{c e:e3}{m dj:Int}{q:ck}(h:py d (gV g q) q m=(some e,dj)):tb d g (some c,m) q=(some (c.1+e.1,c.2+e.2),dj):=by simp only[tb,h]
theorem K3(d:Nat)(g:List fL)(b:ck)(m:Int):py (d+1) g b m=if m≤0 then (none,m-1) else
 if tO (g.map fL.o) b=0 then (some (0,0),m-1)
 else if tO (g.map fL.o) b=2 then (some (4 ^(d+1),4 ^(d+1)),m-1)
 else (splitB b).foldl (tb d g) (some (0,0),m-1):=rfl
theorem K4(g:List fL)(b:ck)(m:Int):py 0 g b m=if m≤0 then (none,m-1) else
 (some (if tO (g.map fL.o) b=0 then (0,0) else if tO (g.map fL.o) b=2 then (1,1) else (0,1)),m-1):=rfl
theorem apv(was cls:Int)(add:Bool)(h:0≤was∧was≤2):0≤uV was cls add∧uV was cls add≤2:=by
 unfold uV
 repeat' split
 all_goals omega
theorem apw(l:List eu)(x:ck):0≤tO l x∧tO l x≤2:=by
 unfold tO
 have key:∀(l:List eu) (k:Int),0≤k∧k≤2→0≤l.foldl (fun k o=>uV k (zu x o.2) o.1) k∧l.foldl (fun k o=>uV k (zu x o.2) o.1) k≤2:=by
  intro l
  induction l with
  |nil=>intro k h;exact h
  |cons a l cO=>intro k h;rw[Fh];exact cO _ (apv _ _ _ h)
 exact key l 0 (by decide)
def pc(k:Int)(c:e3):Prop:=0≤c.1∧c.1≤c.2∧c.2≤k
theorem acL(d:Nat)(g:List fL)(P:Int)(hB:0≤P)(cO:∀q m c dj,py d (gV g q) q m=(some c,dj)→pc P c∧0≤dj∧dj<m):∀(l:List ck) (K:Int) (c:e3) (m:Int) (r:e3) (dj:Int),pc K c→0≤m→l.foldl (tb d g) (some c,m)=(some r,dj)→pc (K+l.length *P) r∧0≤dj∧dj≤m
 |[],K,c,m,r,dj,hc,hm,h=>by simp only[List.foldl_nil,gh,n7] at h;obtain⟨rfl,rfl⟩:=h;simp only[tj];exact⟨by unfold pc at hc⊢;omega,hm,rv _⟩
 |q::l,K,c,m,r,dj,hc,hm,h=>by
  rw[Fh] at h;cases he:py d (gV g q) q m with
  |mk o m1=>
   cases o with
   |none=>
    rw[acJ he,UQ] at h;simp at h
   |some e=>
    rw[acK he] at h;obtain⟨av,az,aC⟩:=cO q m e m1 he;have OG:pc (K+P) (c.1+e.1,c.2+e.2):=(by unfold pc at hc av⊢;simp only;omega);obtain⟨bt,cr,c4⟩:=acL d g P hB cO l (K+P) _ m1 r dj OG az h;refine⟨?_,cr,by omega⟩;have:K+((q::l).length:Int) *P=K+P+(l.length:Int) *P:=(by simp only[fY];grind);rw[this];exact bt
theorem PB:∀(d:Nat) (g:List fL) (b:ck) (m:Int) (c:e3) (dj:Int),py d g b m=(some c,dj)→pc (4^d) c∧0≤dj∧dj<m
 |0,g,b,m,c,dj,h=>by
  rw[K4] at h;split at h
  ·simp at h
  ·simp only[gh,n7] at h;obtain⟨rfl,rfl⟩:=h;refine⟨?_,by omega,by omega⟩;unfold pc
   repeat' split
   all_goals decide
 |d+1,g,b,m,c,dj,h=>by
  have hp:(0:Int)≤4^d:=UL (by decide);rw[K3] at h;split at h
  ·simp at h
  ·split at h
   ·simp only[gh,n7] at h;obtain⟨rfl,rfl⟩:=h;refine⟨?_,by omega,by omega⟩;have:(0:Int)≤4 ^(d+1):=UL (by decide);exact⟨rv _,rv _,this⟩
   ·split at h
    ·simp only[gh,n7] at h;obtain⟨rfl,rfl⟩:=h;refine⟨?_,by omega,by omega⟩;have:(0:Int)≤4 ^(d+1):=UL (by decide);exact⟨this,rv _,rv _⟩
    ·obtain⟨av,az,aC⟩:=acL d g (4^d) hp (fun q m c dj h=>PB d _ q m c dj h) (splitB b) 0 (0,0) (m-1) c dj (by unfold pc;decide) (by omega) h;refine⟨?_,az,by omega⟩;have e:(0:Int)+((splitB b).length:Int) *4^d=4 ^(d+1):=(by simp only[splitB,fY,tj];rw[Int.pow_succ];omega);rw[e] at av;exact av
theorem acM{lo hi:Int}(h:(hi-lo)%2 ^(d+1)=0∧0<hi-lo):((hi-lo)%2=0)∧0<(hi-lo)/ 2∧((hi-lo)/ 2)%2^d=0∧hi -(lo+(hi-lo)/ 2)=(hi-lo)/ 2:=by
 obtain⟨av,az⟩:=h;obtain⟨k,ay⟩:=Int.dvd_of_emod_eq_zero av;rw[Int.pow_succ] at ay;have e:hi-lo=2 *(2^d *k):=by rw[ay];grind
 have bf:(hi-lo)/ 2=2^d *k:=by rw[e];exact Int.mul_ediv_cancel_left _ (by decide)
 refine⟨by omega,by omega,?_,by omega⟩;rw[bf];exact Int.mul_emod_right _ _
end ef
namespace dd
open Go.RowKit ef
abbrev Cr(t:Int×Int):Obj:=.cells #[I t.1,I t.2] 107
abbrev Cs(t:Int×Int):Value:=.agg #[I t.1,I t.2]
theorem apx(c:Int)(w:aeo):Calls Tryz.prog 41 #[I c] w fun e w'=>e=ab (Cs (lK c))∧ao w w w':=by have hw:ae (65536 *max 0 (min c 255))=65536 *max 0 (min c 255):=cY _ (by omega);go_enter Tryz.func41,Tryz.ntmps41;go_wp2_with fail;exact dU (tK rfl _ _ w.heap.size _ _ _ _ rfl (bY _ _) Tryz.underlying107 rfl (by kernel_rfl)) rfl ⟨rfl,jz _ _⟩
theorem acN(t:Int×Int)(f:Bool)(hf:af (qv t=f))(w:aeo):Calls Tryz.prog 66 #[Cs t] w fun e w'=>e=ab (U f)∧ao w w w':=by
 obtain⟨a,b⟩:=t;go_enter Tryz.func66,Tryz.ntmps66;go_wp2_with fail
 all_goals
  go_ret;refine⟨dD (Bp ⟨fun h=>?_,fun h=>?_⟩ hf.out),jz _ _⟩<;>simp only[qv,jh,jR,wL] at h⊢<;>omega
theorem apy(v:Int×Int)(cells:Int)(f:Bool)(hf:af (FR v cells=f))(w:aeo):Calls Tryz.prog 65 #[Cs v,I cells] w fun e w'=>e=ab (U f)∧ao w w w':=by
 obtain⟨a,b⟩:=v;go_enter Tryz.func65,Tryz.ntmps65;go_wp2_with fail
 all_goals
  go_ret;refine⟨dD (Bp ⟨fun h=>?_,fun h=>?_⟩ hf.out),jz _ _⟩<;>simp only[FR,jh,jR,wL] at h⊢<;>omega
variable{a b d:Int}
theorem oN{w:aeo}{k:Nat}{t:aai}(h:an w k (#[I a,I b]) t):ak w k 0 (I a)∧ak w k 1 (I b):=by constructor<;>simp[World.cell?,h]
theorem acO(h:a=b):Ending.returned (.int .u8 a)=ab (.int .u8 b):=by rw[h]
theorem apz(t:Int×Int)(w:aeo):Calls Tryz.prog 44 #[Cs t] w fun e w'=>e=ab (.int .u8 (rn t))∧ao w w w':=by
 obtain⟨a,b⟩:=t;obtain⟨f,hf⟩:=ar (qv (a,b));have aO:=aq hf;clear hf;go_enter Tryz.func44,Tryz.ntmps44;go_wp2_with fail;have aI:af (ao w w (w.alloc (Cr (a,b)))):=jz _ _;have cy:af ((w.alloc (Cr (a,b))).heap[w.heap.size]?=some (Cr (a,b))):=bY _ _;generalize w.alloc (Cr (a,b))=W at aI cy⊢;with_reducible refine (acN (a,b) _ aO _).mono ?_
 rintro e V ⟨rfl,ax⟩;have b0:af (ao w w V):=aI.out.trans (ax.mono aI.out.size);obtain⟨aQ,aN⟩:=oN (aU cy.out ax);clear ax;simp only at aQ aN;cases f with
 |false=>
  go_wp2_with fail;go_ret;refine⟨acO ?_,b0.out⟩;unfold rn;rw[aO.out];rfl
 |true=>
  have av:=aO.out;simp only[qv,jh,jR] at av;have cc:ae (a+b)=a+b:=cY _ (by omega);have b9:ae (a+b+65536)=a+b+65536:=cY _ (by omega);have dP:(a+b+65536).tdiv 131072=(a+b+65536)/ 131072:=Int.tdiv_eq_ediv_of_nonneg (by omega);have cW:ae ((a+b+65536)/ 131072)=(a+b+65536)/ 131072:=cY _ (by omega);have bI:IntKind.u8.wrap ((a+b+65536)/ 131072)=(a+b+65536)/ 131072:=(by exact IntWalk.u8_in _ (by omega));go_wp2_with fail;go_ret;refine⟨acO ?_,b0.out⟩;unfold rn;rw[aO.out];first|rfl|(simp[dP,cW,bI];done)
abbrev acP(v:kH):Array Value:= #[I v.x,I v.y,I v.jy,I v.w,I v.h,I v.depth]
abbrev EJ(v:kH):Value:=.agg (acP v)
abbrev uA(v:kH):Obj:=.cells (acP v) 27
theorem AF{w:aeo}{k:Nat}{x y p:Int}(h:w.heap[k]?=some (uA ⟨x,y,p,a,b,d⟩)):ak w k 0 (I x)∧ak w k 1 (I y)∧ak w k 2 (I p)∧ak w k 3 (I a)∧ak w k 4 (I b)∧ak w k 5 (I d):=by refine⟨?_,?_,?_,?_,?_,?_⟩<;>simp[World.cell?,h]
theorem apA(aS:0≤d)(av:d≤6):1≤(2:Int)^ d.toNat∧(2:Int)^ d.toNat≤64:=by rcases (show d=0∨d=1∨d=2∨d=3∨d=4∨d=5∨d=6 by omega) with rfl|rfl|rfl|rfl|rfl|rfl|rfl<;>decide
theorem acQ{p:Int}(aS:1≤a)(av:a≤256)(az:1≤p)(aC:p≤536870912):1≤a *p∧a *p≤137438953472:=by
 have a7:0≤(a-1) *p:=jV (by omega) (by omega);have bf:0≤(256-a) *p:=jV (by omega) (by omega);have cM:(a-1) *p=a *p-p:=by grind
 have hO:(256-a) *p=256 *p-a *p:=by grind
 omega
theorem PC(v:kH)(f:Bool)(hf:af (rm v=f))(w:aeo):Calls Tryz.prog 58 #[EJ v] w fun e w'=>e=ab (U f)∧ao w w w':=by
 have h:=hf.out;clear hf;obtain⟨x,y,p,a,b,d⟩:=v;unfold rm at h;simp only at h;by_cases aN:d<0∨6<d
 case pos=>
  have aO:af (false=f):=(by show _=_;rw[←h,bb aN]);clear h;go_enter EH,EI;go_wp2_with fail
  all_goals
   go_ret;exact⟨dD aO.out,jz _ _⟩
 rw[aW aN] at h;have d0:0≤d:=by omega
 have d6:d≤6:=by omega
 have d64:d≤64:=by omega
 have en:¬d<0:=by omega
 have fa:¬d > 6:=by omega
 obtain⟨fS,b1⟩:=apA d0 d6;obtain⟨P,hB⟩:∃P:Int,2^d.toNat=P:=⟨_,rfl⟩;have axh:ae (2^d.toNat)=P:=by rw[hB];rw[hB] at fS b1;exact cY _ (by omega)
 rw[hB] at h fS b1;have axi:¬P=0:=by omega
 clear hB aN d6;by_cases aJ:p<1∨536870912<p
 case pos=>
  have aO:af (false=f):=(by show _=_;rw[←h,bb (by omega)]);clear h;rcases aJ with aJ|aJ
  ·go_enter EH,EI;go_upto_region 3 with fail
   go_quiet (fail)
   go_wp2_with fail;go_ret;exact⟨dD aO.out,kX (jz _ _) _⟩
  ·have n3:¬p<1:=(by omega);go_enter EH,EI;go_upto_region 3 with fail
   go_quiet (fail)
   go_wp2_with fail;go_ret;exact⟨dD aO.out,kX (jz _ _) _⟩
 have n3:¬p<1:=by omega
 have n4:¬p > 536870912:=by omega
 obtain⟨r,hr⟩:=ar (p%P);have mY:p.tmod P=r:=by rw[By (by omega)];exact hr
 rw[hr] at h;clear hr;by_cases c3:r=0
 case neg=>
  have aO:af (false=f):=(by show _=_;rw[←h,bb (by omega)]);clear h;go_enter EH,EI;go_upto_region 3 with fail
  go_quiet (fail)
  all_goals
   go_wp2_with fail;go_ret;exact⟨dD aO.out,kX (jz _ _) _⟩
 subst c3;rw[aW (by omega)] at h;by_cases bF:a<1∨256<a∨b<1∨256<b
 case pos=>
  have aO:af (false=f):=(by show _=_;rw[←h,bb bF]);clear h;go_enter EH,EI;go_upto_region 3 with fail
  go_quiet (fail)
  all_goals
   go_wp2_with fail
   all_goals
    go_ret;exact⟨dD aO.out,kX (jz _ _) _⟩
 rw[aW bF] at h;by_cases c5:x< -536870912∨536870912<x∨y< -536870912∨536870912<y
 case pos=>
  have aO:af (false=f):=(by show _=_;rw[←h,bb c5]);clear h;go_enter EH,EI;go_upto_region 3 with fail
  go_quiet (fail)
  all_goals
   go_wp2_with fail
   all_goals
    go_ret;exact⟨dD aO.out,kX (jz _ _) _⟩
 rw[aW c5] at h;have aO:=aq h;obtain⟨m1,m2⟩:=acQ (a:=a) (p:=p) (by omega) (by omega) (by omega) (by omega);obtain⟨m3,m4⟩:=acQ (a:=b) (p:=p) (by omega) (by omega) (by omega) (by omega);have cc:ae (a *p)=a *p:=cY _ (by omega);have b9:ae (b *p)=b *p:=cY _ (by omega);have dP:ae (x+a *p)=x+a *p:=cY _ (by omega);have cW:ae (y+b *p)=y+b *p:=cY _ (by omega);clear m1 m2 m3 m4 h;go_enter EH,EI;go_upto_region 3 with fail
 go_quiet (fail)
 go_wp2_with fail;with_reducible refine (XA ⟨x,y,x+a *p,y+b *p⟩ f aO _).mono ?_
 rintro e V ⟨rfl,ax⟩;go_wp2_with fail;go_ret;exact⟨rfl,(kX (jz _ _) _).trans (ax.mono (kX (jz _ _) _).size)⟩
theorem EK{v:kH}(h:rm v=true):(0≤v.depth∧v.depth≤6)∧(1≤v.jy∧v.jy≤536870912)∧(1≤v.w∧v.w≤256)∧(1≤v.h∧v.h≤256)∧(-536870912≤v.x∧v.x≤536870912)∧(-536870912≤v.y∧v.y≤536870912)∧okB ⟨v.x,v.y,v.x+v.w *v.jy,v.y+v.h *v.jy⟩=true:=by
 unfold rm at h;split at h
 ·cases h
 ·split at h
  ·cases h
  ·split at h
   ·cases h
   ·split at h
    ·cases h
    ·exact⟨by omega,by omega,by omega,by omega,by omega,by omega,h⟩
theorem acR(aS:0≤d):(2:Int)^(2 *d).toNat=4^d.toNat:=by rw[show (2 *d).toNat=2 *d.toNat by omega,Int.pow_mul];rfl
theorem apB(v:kH)(aY:rm v=true)(w:aeo):Calls Tryz.prog 42 #[EJ v] w fun e w'=>e=ab (I (zC v))∧ao w w w':=by
 obtain⟨⟨d0,d6⟩,_⟩:=EK aY;have b0:=aq aY;obtain⟨x,y,p,a,b,d⟩:=v;simp only at d0 d6;obtain⟨k,ay⟩:∃k:Int,4^d.toNat=k:=⟨_,rfl⟩;have yl:zC ⟨x,y,p,a,b,d⟩=k:=ay;have ax:1≤k∧k≤4096:=by rw[←ay];rcases (show d=0∨d=1∨d=2∨d=3∨d=4∨d=5∨d=6 by omega) with rfl|rfl|rfl|rfl|rfl|rfl|rfl<;>decide
 have w0:ae (2 *d)=2 *d:=cY _ (by omega);have cc:ae (2 ^(2 *d).toNat)=k:=by rw[acR d0,ay];exact cY _ (by omega)
 have m0:0≤2 *d:=by omega
 have m1:2 *d≤64:=by omega
 have cQ:=aq yl;clear ay yl aY ax;go_enter Tryz.func42,Tryz.ntmps42;go_wp2_with fail;have aI:af (ao w w (w.alloc (uA ⟨x,y,p,a,b,d⟩))):=jz _ _;have cy:af ((w.alloc (uA ⟨x,y,p,a,b,d⟩)).heap[w.heap.size]?=some (uA ⟨x,y,p,a,b,d⟩)):=bY _ _;generalize w.alloc (uA ⟨x,y,p,a,b,d⟩)=W at aI cy⊢;with_reducible refine (PC ⟨x,y,p,a,b,d⟩ true b0 _).mono ?_
 rintro e V ⟨rfl,ax⟩;obtain⟨a0,bA,a2,a3,a4,a5⟩:=AF (aU cy.out ax);have cR:af (ao w w V):=aI.out.trans (ax.mono aI.out.size);clear ax;go_wp2_with fail;go_ret;exact⟨pt cQ.out.symm,cR.out⟩
theorem UR(v:kH)(aY:rm v=true)(i j:Nat)(hi:(i:Int)<v.w)(cd:(j:Int)<v.h)(w:aeo):Calls Tryz.prog 85 #[EJ v,I i,I j] w fun e w'=>e=ab (.tuple #[h5 (o0 v i j),U true])∧ao w w w':=by
 obtain⟨⟨d0,d6⟩,⟨fO,fh⟩,⟨a0,bA⟩,⟨cu,cS⟩,⟨aD,aL⟩,⟨aE,aH⟩,eF⟩:=EK aY;have b0:=aq aY;obtain⟨x,y,p,a,b,d⟩:=v;simp only at d0 d6 fO fh a0 bA cu cS aD aL aE aH hi cd;have m1:0≤(i:Int) *p∧(i:Int) *p≤137438953472:=by have a7:0≤(i:Int) *p:=jV (by omega) (by omega);have bf:0≤(256 -(i:Int)) *p:=jV (by omega) (by omega);have hO:(256 -(i:Int)) *p=256 *p-i *p:=(by grind);omega
 have m2:0≤(b-1 -(j:Int)) *p∧(b-1 -(j:Int)) *p≤137438953472:=by have a7:0≤(b-1 -(j:Int)) *p:=jV (by omega) (by omega);have bf:0≤(256 -(b-1 -(j:Int))) *p:=jV (by omega) (by omega);have hO:(256 -(b-1 -(j:Int))) *p=256 *p -(b-1 -(j:Int)) *p:=(by grind);omega
 have cc:ae ((i:Int) *p)=i *p:=cY _ (by omega);have b9:ae (x+(i:Int) *p)=x+i *p:=cY _ (by omega);have dP:ae (b-1)=b-1:=cY _ (by omega);have cW:ae (b-1 -(j:Int))=b-1-j:=cY _ (by omega);have bI:ae ((b-1 -(j:Int)) *p)=(b-1-j) *p:=cY _ (by omega);have cN:ae (y+(b-1 -(j:Int)) *p)=y+(b-1-j) *p:=cY _ (by omega);have k4:ae (x+(i:Int) *p+p)=x+i *p+p:=cY _ (by omega);have K5:ae (y+(b-1 -(j:Int)) *p+p)=y+(b-1-j) *p+p:=cY _ (by omega);clear m1 m2 aY eF;go_enter Tryz.func85,Tryz.ntmps85;go_upto_region 1 with fail;obtain⟨W,bo⟩:=ar ((w.alloc (uA ⟨x,y,p,a,b,d⟩)).alloc (cV eh));have aI:af (ao w w W):=by show Below _ _ _;rw[←bo];exact pz _ _ _
 have cy:af (W.heap[w.heap.size]?=some (uA ⟨x,y,p,a,b,d⟩)):=by show _=_;rw[←bo];exact aU (bY _ _) (a6 _ _)
 have bC:af (W.heap[w.heap.size+1]?=some (cV eh)):=by show _=_;rw[←bo];exact vd _ _ _
 change Code.wp _ _ _ _ ((w.alloc (uA ⟨x,y,p,a,b,d⟩)).alloc (cV eh));rw[bo];clear bo;obtain⟨acS,acT,acU,acV,acW,acX⟩:=AF cy.out;go_wp2_with fail;with_reducible refine (PC ⟨x,y,p,a,b,d⟩ true b0 _).mono ?_
 rintro e V ⟨rfl,ax⟩;clear acS acT acU acV acW acX;obtain⟨acS,acT,acU,acV,acW,acX⟩:=AF (aU cy.out ax);have cR:af (ao w w V):=aI.out.trans (ax.mono aI.out.size);have gl:=aq (aU bC.out ax);clear ax;have hf:=cJ gl.out;obtain⟨aQ,aN,aJ,c3⟩:=gW (show V.heap[w.heap.size+1]?=some (cV ⟨0,0,0,0⟩) from gl.out);have en:¬(i:Int)<0:=by omega
 have fa:¬(j:Int)<0:=by omega
 have n3:¬(i:Int)≥a:=by omega
 have n4:¬(j:Int)≥b:=by omega
 go_wp2_with fail;have hr:=oh [I (x+i *p),I (y+(b-1-j) *p),I (x+i *p+p),I (y+(b-1-j) *p+p)] gl.out rfl;have ax:=ss (m:=0) (b:=w.heap.size+1) (mv _) [I (x+i *p),I (y+(b-1-j) *p),I (x+i *p+p),I (y+(b-1-j) *p+p)] cR.out;exact dU (o1 rfl _ _ (w.heap.size+1) _ _ _ _ rfl hr Dj rfl (by kernel_rfl)) rfl ⟨rfl,ax⟩
end dd
