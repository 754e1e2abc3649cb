/- Lemmas. -/
import Derived.Test.YtfldplmgkeiimaaGreatDoorQ12
import Derived.Lib.Strings
import Derived.Lib.AppendIntMem
set_option linter.all false
set_option maxRecDepth 100000
set_option maxHeartbeats 12800000
namespace Go.Proofs.YtfldplmgkeiimaaGreatDoor
abbrev Pu:=@wpList_make_own
abbrev Da:=@Lib.extract_data
namespace dE
open Go.RowKit el
def Plain(s:ey):Prop:=Full s∧s.p.count≤100000000
def tR(S:Jp)(w:bTo):List ey→bTv→Prop
 |[],_=>True
 |s::l,xs=>(∃(pl:aya) (cl:Nat) (pp:aya) (cp:Nat),xs.take 10=l5 s.b (ad pl s.b.l.length cl) (ad pp s.p.len cp)∧dY S w pl cl pp cp s)∧tR S w l (xs.drop 10)
def wV(S:Jp)(w:bTo)(p:aya)(l:List ey):Prop:=l.length≤nA∧(0<l.length→∃(k o:Nat) (cs:agv),p=some ⟨k,o,none⟩∧S k∧bo w k cs dh∧tR S w l (cs.toList.drop o))
theorem tR.keep{S:Jp}{w w':bTo}(ab:aL S w w'):∀{l:List ey} {xs:bTv},tR S w l xs→tR S w' l xs
 |[],_,_=>trivial
 |s::l,xs,h=>by obtain⟨⟨pl,cl,pp,cp,aa,ah⟩,ax⟩:=h;exact⟨⟨pl,cl,pp,cp,aa,ah.keep ab⟩,tR.keep ab ax⟩
theorem tR.mono{S R:Jp}{w:bTo}(ab:∀k,k<w.heap.size→S k→R k):∀{l:List ey} {xs:bTv},tR S w l xs→tR R w l xs
 |[],_,_=>trivial
 |s::l,xs,h=>by obtain⟨⟨pl,cl,pp,cp,aa,ah⟩,ax⟩:=h;exact⟨⟨pl,cl,pp,cp,aa,ah.mono ab⟩,tR.mono ab ax⟩
theorem wV.keep{S:Jp}{w w':bTo}{p:aya}{l:List ey}(h:wV S w p l)(ab:aL S w w'):wV S w' p l:=by refine⟨h.1,fun aj=>?_⟩;obtain⟨k,o,cs,e,hS,aF,hp⟩:=h.2 aj;exact⟨k,o,cs,e,hS,ab.get hS aF,tR.keep ab hp⟩
theorem wV.below{S:Jp}{w w':bTo}{p:aya}{l:List ey}(h:wV S w p l)(af:av w w w'):wV S w' p l:=h.keep (.dM af)
theorem wV.nil(S:Jp)(w:bTo)(p:aya):wV S w p []:=⟨eC _,fun h=>absurd h (nz _)⟩
theorem tR.get{S:Jp}{w:bTo}:∀{l:List ey} {xs:bTv} {n:Nat} {s:ey},tR S w l xs→l[n]?=some s→∃(pl:aya) (cl:Nat) (pp:aya) (cp:Nat),(xs.drop (n *10)).take 10=l5 s.b (ad pl s.b.l.length cl) (ad pp s.p.len cp)∧dY S w pl cl pp cp s
 |[],xs,n,s,h,hn=>by simp at hn
 |x::l,xs,0,s,h,hn=>by obtain rfl:x=s:=(by simpa using hn);obtain⟨⟨pl,cl,pp,cp,aa,ah⟩,_⟩:=h;exact⟨pl,cl,pp,cp,by simpa using aa,ah⟩
 |x::l,xs,n+1,s,h,hn=>by obtain⟨pl,cl,pp,cp,aa,ah⟩:=tR.get (n:=n) (s:=s) h.2 (by simpa using hn);exact⟨pl,cl,pp,cp,by rw[←aa,pd];congr 2;omega,ah⟩
theorem wV.at{S:Jp}{w:bTo}{p:aya}{l:List ey}{b:dL}{s:bh}{n:Nat}(h:wV S w p l)(hn:n<l.length)(he:l[n]=⟨b,s⟩):
  ∃(k o:Nat) (pl:aya) (cl:Nat) (pp:aya) (cp:Nat),p=some ⟨k,o,none⟩∧k<w.heap.size∧S k∧dY S w pl cl pp cp ⟨b,s⟩∧
   aw w k (o+n *10) (I b.k)∧aw w k (o+n *10+1) (I b.a.1)∧aw w k (o+n *10+2) (I b.a.2)∧aw w k (o+n *10+3) (I b.b.1)∧aw w k (o+n *10+4) (I b.b.2)∧aw w k (o+n *10+5) (I b.c.1)∧aw w k (o+n *10+6) (I b.c.2)∧aw w k (o+n *10+7) (I b.r)∧aw w k (o+n *10+8) (ad pl b.l.length cl)∧aw w k (o+n *10+9) (ad pp s.len cp):=by
 obtain⟨k,o,cs,rfl,hS,aF,hp⟩:=h.2 (by omega);obtain⟨pl,cl,pp,cp,aa,ah⟩:=hp.get (n:=n) (s:=⟨b,s⟩) (by rw[jH hn,he]);rw[pd] at aa;have hc:=HU aa;exact⟨k,o,pl,cl,pp,cp,rfl,lt_of_heap aF,hS,ah,cell_of aF (by simpa using hc 0 (by decide)),cell_of aF (hc 1 (by decide)),cell_of aF (hc 2 (by decide)),cell_of aF (hc 3 (by decide)),cell_of aF (hc 4 (by decide)),cell_of aF (hc 5 (by decide)),cell_of aF (hc 6 (by decide)),cell_of aF (hc 7 (by decide)),cell_of aF (hc 8 (by decide)),cell_of aF (hc 9 (by decide))⟩
def tS(w0:bTo)(sv:ada)(os:List ec)(x:bTo):Prop:=∃(R:Jp) (xs:bTv),x.ownsRow w0.heap.size dQ 11 sv os.length xs∧dS R x (qg os) xs∧(∀k,R k→w0.heap.size≤k∧k<x.heap.size)∧(∀k,sv.ownBlock=some k→¬R k)∧av w0 w0 x
theorem tS.below{w0:bTo}{sv:ada}{os:List ec}{x y:bTo}(h:tS w0 sv os x)(af:av x x y):tS w0 sv os y:=by obtain⟨R,xs,aa,ah,ax,bg,b7⟩:=h;exact⟨R,xs,fE aa af,ah.below af,fun k ab=>⟨(ax k ab).1,jl (ax k ab).2 af.size⟩,bg,b7.trans (af.mono b7.size)⟩
theorem tS.push{w0:bTo}{sv sv':ada}{os:List ec}{X Y Z:bTo}(h:tS w0 sv os X){g n' c':Nat}{d:Bool}{b:dL}{s:bh}{q qp:aya}{e f:Nat}{V:bTv}{xs:bTv}(pF:av X X Y)(Uk:av Y Y Z)(aC:dY (fun k=>X.heap.size≤k) Y q e qp f ⟨b,s⟩){W:bTo}
  (aX:Z.grownBy W sv.ownBlock) (nQ:V=ai d::l5 b (ad q b.l.length e) (ad qp s.len f)) (hx:∀eS,X.ownsRow w0.heap.size dQ 11 sv os.length eS→xs=eS) (cM:W.ownsRow w0.heap.size dQ 11 sv' (os.length+1) (xs++V)) (pG:sv'=ad (some (ag g 0)) n' c') (e0:sv.ownBlock=some g∨Y.heap.size≤g):tS w0 sv' (os++[(d,⟨b,s⟩)]) W:=by
 obtain⟨R,eS,aa,ah,ax,bg,b7⟩:=h;obtain rfl:=hx eS aa;subst nQ;have Ul:av X X Z:=pF.trans (Uk.mono pF.size)
 have aaL:∀k,sv.ownBlock=some k→¬(R k∨(X.heap.size≤k∧k<Y.heap.size)):=fun k ab h=>by
  rcases h with h|h
  ·exact bg k ab h
  ·have:=(aa.lt k ab).2;omega
 have aaM:aL (fun k=>R k∨(X.heap.size≤k∧k<Y.heap.size)) Z W:=aL.grown aX aaL;refine⟨fun k=>R k∨(X.heap.size≤k∧k<Y.heap.size),_,by rw[gh];exact cM,?_,fun k ab=>?_,fun k ab h=>?_,(b7.trans (Ul.mono b7.size)).grown aX (dX b7.size Ul.size) (fun k ab=>(aa.lt k ab).1)⟩
 ·rw[KH];refine dS.append (((ah.below Ul).mono (fun k _ ab=>.inl ab)).keep aaM) (by rw[aa.1,EW]) (.mk (by rfl) ?_ trivial);exact ((aC.mono (R:=fun k=>R k∨(X.heap.size≤k∧k<Y.heap.size)) (fun k ab h=>.inr ⟨h,ab⟩)).below Uk).keep aaM
 ·have k7:=pF.size;have mg:=Uk.size;have HQ:=aX.size;have awi:=b7.size;rcases ab with ab|ab
  ·have:=ax k ab;exact⟨this.1,by omega⟩
  ·exact⟨by omega,by omega⟩
 ·rw[pG] at ab;simp only[Value.ownBlock,mv] at ab;subst ab;rcases e0 with c0|c0
  ·exact aaL g c0 h
  ·rcases h with h|h
   ·have:=(ax g h).2;have:=pF.size;omega
   ·omega
theorem aaN{w:bTo}{B Fm:Nat}{e lE:aui}{bn n:Nat}{v:ada}{xs eS:bTv}(h:w.ownsRow B e bn v n xs)(g:w.ownsRow Fm lE bn v n eS):xs=eS:=by
 rcases h.2 with ⟨aS,aQ⟩|⟨k,cap,cur,aS,bJ,aF,_,_,_,bH⟩
 ·have aa:=h.1;have ah:=g.1;rw[aQ,Eg] at aa ah;rw[qz aa,qz ah]
 ·rcases g.2 with ⟨Lk,g0⟩|⟨a8,il,aaO,Lk,_,HV,_,_,_,gt⟩
  ·rw[aS] at Lk;cases Lk
  ·rw[aS] at Lk;injection Lk with aN _ _;injection aN with aN;injection aN with aN;subst aN;rw[aF] at HV;injection HV with HV;injection HV with HV _ _;subst HV;rw[←bH,←gt]
theorem iD.own{R:Jp}{w0 x:bTo}{sv:ada}{os:List ec}(h:tS w0 sv os x)(af:os.length≤nA)(hR:∀k,w0.heap.size≤k→R k):∃q d,sv=ad q os.length d∧iD R x q os:=by
 obtain⟨zU,xs,aa,ah,ax,bg,b7⟩:=h;obtain⟨q,d,rfl⟩:=ik aa;refine⟨q,d,rfl,af,fun aj=>?_⟩;rcases aa.2 with ⟨_,aQ⟩|⟨k,cap,cur,aS,bJ,aF,_,_,_,bH⟩
 ·omega
 ·injection aS with aN _ _;refine⟨k,0,cur,aN,hR k bJ,aF,?_⟩;refine (ah.mono (fun k _ hs=>hR k (ax k hs).1)).congr ?_;rw[EW,uW,←bH,Hm,OM]
theorem ali(S:Jp)(l:List ec)(aj:∀o∈l,Plain o.2)(p:aya)(n c:Nat)(hn:n=l.length)(hs:List ey)(aaP:∀s∈hs,Plain s)(aaQ:aya)(m zP:Nat)(hm:m=hs.length)(zV:n+m≤1000000000)(w:bTo)(H:J (iD S w p l))(ho:J (wV S w aaQ hs)):
  Calls Tryz.prog 50 #[ad p n c,ad aaQ m zP] w fun e w'=>∃q d,e=bb (ad q (n+m) d)∧iD (fun k=>w.heap.size≤k) w' q (l++hs.map fun s=>(false,s))∧av w w w':=by
 have awj:m≤1000000000:=by rw[hm];exact ho.out.1
 have bB:=U hm;have alj:=U aaP;have nb:J ((l++hs.map fun s=>(false,s)).length≤nA):=by show _≤1000000000;rw[gh,hk,←hm,←hn];exact zV
 clear hm aaP;have mw:n≤1000000000:=by rw[hn];exact H.out.1
 have a1:=U hn;have dR:=U aj;obtain⟨i0,hi,cU,cW,dz⟩:=info_parts KP;have bY:=U (And.intro hi (And.intro cU (And.intro cW dz)));have aaR:bT ((n:Int)+(m:Int))=((n+m:Nat):Int):=by rw[b4 _ (by omega)];omega
 clear hn aj hi cU cW dz;go_enter Tryz.func50,Tryz.ntmps50;go_upto_region 2 with (first|(refine Pu _ rfl _ _ _ rfl w.heap.size dQ i0 C2 11 E1 bY.out.1 bY.out.2.1 bY.out.2.2.1 .i64 .i64 ((n+m:Nat):Int) (n+m) (by rfl) (by rfl) rfl (by rw[bY.out.2.2.2];omega) (by unfold maxLen;omega) (bD _) ?_;intro ez cM Bs));have sB:J (tS w (bG w.heap.size 0 0 (n+m)) [] ez):=⟨fun _=>False,[],cM,trivial,fun k h=>h.elim,fun k _ h=>h,⟨Bs.os,Bs.tape,Bs.output,Bs.size,fun k ab=>Bs.block k ab (by simp)⟩⟩;clear cM Bs;go_wp2_with fail
 go_loopw [5,18] (fun Fo i wr=>∃(j:Nat) (sv:ada) (aG:bTo),aG=wr∧j≤n∧sv=Fo∧i=I j∧J (tS w sv (l.take j) aG)) (fun _ i _=>n -(intOf i).toNat)
 case atStart=>exact⟨0,_,_,rfl,eC _,rfl,rfl,sB.out⟩
 case round=>
 obtain⟨j,sv,aG,rfl,cB,rfl,rfl,cq⟩:=hrel;by_cases b0:j<n
 ·have fs:j<l.length:=(by rw[←a1.out];exact b0);have ib:(j:Int)<(n:Int):=(by omega);obtain⟨⟨od,⟨an,os⟩⟩,aC⟩:=az (l[j]);obtain⟨Ll,tT⟩:=dR.out (od,⟨an,os⟩) (by rw[←aC];exact j4 _);have eB:av w w aG:=(by obtain⟨_,_,_,_,_,_,h⟩:=cq.out;exact h);obtain⟨hY,lK,pl,cl,pp,cp,rfl,ri,_,eF,aJ,aI,c2,c3,bF,c5,b1,b5,bS,bf,cy⟩:=H.out.at fs aC;obtain⟨nc,zW⟩:=az os.len;have yh:=U zW;have tL:J (l.take (j+1)=l.take j++[(od,⟨an,os⟩)]):=(by show _=_;rw[x4 fs,aC]);have Fp:(l.take j).length=j:=(by rw[mf];omega);obtain⟨qN,uX⟩:=az (l.take j);rw[uX] at cq tL Fp;have Fq:=U Fp;obtain⟨nl,gp⟩:=az an.l.length;have rf:=U gp;have Um:J (∀Z,av w w Z→Calls Tryz.prog 53 #[.agg #[I an.k,I an.a.1,I an.a.2,I an.b.1,I an.b.2,I an.c.1,I an.c.2,I an.r,ad pl nl cl,ad pp nc cp]] Z fun e w'=>∃q d ee f,e=bb (.agg #[I an.k,I an.a.1,I an.a.2,I an.b.1,I an.b.2,I an.c.1,I an.c.2,I an.r,ad q nl d,ad ee nc f])∧dY (fun k=>Z.heap.size≤k) w' q d ee f ⟨an,os⟩∧av Z Z w'):=(by intro Z eU;rw[←gp,←zW];exact aai S an os Ll tT pl cl pp cp Z (U (eF.below eU)));rw[gp] at bf;rw[zW] at cy;have d0:=bM eB aJ;have d1:=bM eB aI;have d2:=bM eB c2;have d3:=bM eB c3;have d4:=bM eB bF;have d5:=bM eB c5;have d6:=bM eB b1;have d7:=bM eB b5;have d8:=bM eB bS;have d9:=bM eB bf;have d10:=bM eB cy;clear aJ aI c2 c3 bF c5 b1 b5 bS bf cy eF aC uX Fp gp zW ri Ll tT;go_upto_region 5 with fail;have HW:=U (cq.out.below (ba aG (aD (#[ai od,I an.k,I an.a.1,I an.a.2,I an.b.1,I an.b.2,I an.c.1,I an.c.2,I an.r,ad pl nl cl,ad pp nc cp]) dQ)));have Bt:J ((aG.alloc (aD (#[ai od,I an.k,I an.a.1,I an.a.2,I an.b.1,I an.b.2,I an.c.1,I an.c.2,I an.r,ad pl nl cl,ad pp nc cp]) dQ)).heap[aG.heap.size]?=some (.cells #[ai od,I an.k,I an.a.1,I an.a.2,I an.b.1,I an.b.2,I an.c.1,I an.c.2,I an.r,ad pl nl cl,ad pp nc cp] dQ)):=cw _ _;have dT:av w w (aG.alloc (aD (#[ai od,I an.k,I an.a.1,I an.a.2,I an.b.1,I an.b.2,I an.c.1,I an.c.2,I an.r,ad pl nl cl,ad pp nc cp]) dQ)):=eB.trans ((ba _ _).mono eB.size);generalize aG.alloc (.cells #[ai od,I an.k,I an.a.1,I an.a.2,I an.b.1,I an.b.2,I an.c.1,I an.c.2,I an.r,ad pl nl cl,ad pp nc cp] dQ)=gn at HW Bt dT⊢;obtain⟨D,bZ⟩:=az aG.heap.size;rw[bZ] at Bt⊢;clear bZ d0 d1 d2 d3 d4 d5 d6 d7 d8 d9 d10 eB cq;obtain⟨d0,d1,d2,d3,d4,d5,d6,d7,d8,d9,d10⟩:=qM Bt.out;have alk:J (bo gn.drew D (#[ai od,I an.k,I an.a.1,I an.a.2,I an.b.1,I an.b.2,I an.c.1,I an.c.2,I an.r,ad pl nl cl,ad pp nc cp]) dQ):=Bt.out;obtain⟨ak,aq,e1,y3,y4,oo,y6,sF,sG,C8,Pv⟩:=qM alk.out;have qj:=lt_of_heap Bt.out;have HX:J (av w w gn.drew):=dT.drew;have aaS:gn.drew.heap.size=gn.heap.size:=rfl;have alm:=dT.size;have ek:=U dT;obtain⟨xs,lS⟩:∃xs,gn.ownsRow w.heap.size dQ 11 sv qN.length xs:=(by obtain⟨_,xs,h,_⟩:=HW.out;exact⟨xs,h⟩);rw[Fq.out] at lS;obtain⟨ps,cs,rfl⟩:=ik lS;have Db:=U lS;clear lS dT
  go_region_law (first
   |(refine x5 _ (by rfl) _ _ _ (by rfl) w.heap.size dQ i0 C2 11 120 E1 bY.out.1 bY.out.2.1 bY.out.2.2.1 bY.out.2.2.2 rfl (by omega) (ad ps j cs) j _ (by rfl) ((fE (fE Db.out (Below.refl _ _).drew) eQ).alloc _) (ag cX.heap.size 0) 1 1 [ai od,I an.k,I an.a.1,I an.a.2,I an.b.1,I an.b.2,I an.c.1,I an.c.2,I an.r,ad fI nl kR,ad lv nc f6] (by rfl) (by rfl) (jW (cs:= #[ai od,I an.k,I an.a.1,I an.a.2,I an.b.1,I an.b.2,I an.c.1,I an.c.2,I an.r,ad fI nl kR,ad lv nc f6]) (t:=dQ) (fr:=(0,0)) (gi cX _)) (by simp[Value.oneCell']) (by omega) (by unfold maxLen;omega) (by omega) (by simp;omega) (cX.heap.size+1) (by simp) ?_;intro gg il j7 cM dW e0 h5)
   |(rw[aT (by rfl)];go_simp;go_at_call 53;go_fit (Um.out _ HX.out);rintro e cX ⟨fI,kR,lv,f6,rfl,Pw,eQ⟩;have Dc:=eQ.size;rw[aaS] at Dc;have b6:=bM eQ ak;have bP:=bM eQ aq;have a8:=bM eQ e1;have oi:=bM eQ y3;have zF:=bM eQ y4;have Fs:=bM eQ oo;have Ft:=bM eQ y6;have Fu:=bM eQ sF;have Fv:=bM eQ sG;have wT:=bM eQ C8;have Fw:=bM eQ Pv))
  all_goals
   have aaT:av gn.drew gn.drew cX:=eQ;have Bu:=U (tS.push (d:=od) (b:=an) (s:=os) (q:=fI) (qp:=lv) (e:=kR) (f:=f6) (g:=gg) (n':=j+1) (c':=il) (V:=[ai od,I an.k,I an.a.1,I an.a.2,I an.b.1,I an.b.2,I an.c.1,I an.c.2,I an.r,ad fI nl kR,ad lv nc f6]) (HW.out.below (Below.refl _ _).drew) aaT (ba cX (aD (#[ai od,I an.k,I an.a.1,I an.a.2,I an.b.1,I an.b.2,I an.c.1,I an.c.2,I an.r,ad fI nl kR,ad lv nc f6]) dQ)) Pw dW (by rw[rf.out,yh.out]) (fun eS h=>aaN (w:=gn.drew) (Db.out.drew) (by rw[Fq.out] at h;exact h)) (by rw[Fq.out];exact cM) rfl (e0.imp id (fun h=>by rw[h];exact l4 _)));rw[←tL.out] at Bu;clear cM dW e0 h5 aaT Dc b6 bP a8 oi zF Fs Ft Fu Fv wT Fw d0 d1 d2 d3 d4 d5 d6 d7 d8 d9 d10 ak aq e1 y3 y4 oo y6 sF sG C8 Pv qj alm aaS;go_wp2_with fail;go_round<;>first|exact⟨j+1,_,_,rfl,by omega,rfl,by go_num,Bu.out⟩|(simp[intOf]<;>omega)
 ·have iH:j=n:=(by omega);subst iH;have fh:l.take j=l:=(by rw[a1.out];exact uo);have i6:=cq.out;rw[fh] at i6;have TA:=U i6;clear fh i6 cq sB;go_wp2_with fail
  go_loopw [5,34] (fun Fo i wr=>∃(k:Nat) (zX:ada) (cO:bTo),cO=wr∧k≤m∧zX=Fo∧i=I k∧J (tS w zX (l++(hs.take k).map fun s=>(false,s)) cO)) (fun _ i _=>m -(intOf i).toNat)
  case atStart=>exact⟨0,_,_,rfl,eC _,rfl,rfl,(by show tS _ _ _ _;rw[Pf,zI,List.append_nil];exact TA.out)⟩
  case round=>
  obtain⟨k,zX,cO,rfl,ab,rfl,rfl,cq⟩:=hrel;by_cases fs:k<m
  ·have aaU:k<hs.length:=(by rw[←bB.out];exact fs);have ib:(k:Int)<(m:Int):=(by omega);obtain⟨⟨an,os⟩,aC⟩:=az (hs[k]);obtain⟨Ll,tT⟩:=alj.out ⟨an,os⟩ (by rw[←aC];exact j4 _);have eB:av w w cO:=(by obtain⟨_,_,_,_,_,_,h⟩:=cq.out;exact h);obtain⟨hY,lK,pl,cl,pp,cp,rfl,ri,_,eF,aJ,aI,c2,c3,bF,c5,b1,b5,bS,bf⟩:=ho.out.at aaU aC;obtain⟨nc,zW⟩:=az os.len;have yh:=U zW;have tL:J (l++(hs.take (k+1)).map (fun s=>(false,s))=(l++(hs.take k).map fun s=>(false,s))++[(false,⟨an,os⟩)]):=(by show _=_;rw[x4 aaU,aC,mh,List.append_assoc];rfl);have Fp:(l++(hs.take k).map fun s=>(false,s)).length=j+k:=(by rw[gh,hk,mf,EB (by omega),a1.out]);obtain⟨qN,uX⟩:=az (l++(hs.take k).map fun s=>(false,s));rw[uX] at cq tL Fp;have Fq:=U Fp;obtain⟨nl,gp⟩:=az an.l.length;have rf:=U gp;have Um:J (∀Z,av w w Z→Calls Tryz.prog 53 #[.agg #[I an.k,I an.a.1,I an.a.2,I an.b.1,I an.b.2,I an.c.1,I an.c.2,I an.r,ad pl nl cl,ad pp nc cp]] Z fun e w'=>∃q d ee f,e=bb (.agg #[I an.k,I an.a.1,I an.a.2,I an.b.1,I an.b.2,I an.c.1,I an.c.2,I an.r,ad q nl d,ad ee nc f])∧dY (fun k=>Z.heap.size≤k) w' q d ee f ⟨an,os⟩∧av Z Z w'):=(by intro Z eU;rw[←gp,←zW];exact aai S an os Ll tT pl cl pp cp Z (U (eF.below eU)));rw[gp] at bS;rw[zW] at bf;have d0:=bM eB aJ;have d1:=bM eB aI;have d2:=bM eB c2;have d3:=bM eB c3;have d4:=bM eB bF;have d5:=bM eB c5;have d6:=bM eB b1;have d7:=bM eB b5;have d8:=bM eB bS;have d9:=bM eB bf;have awk:bT ((k:Int)+1)=(k:Int)+1:=b4 _ (by omega);clear aJ aI c2 c3 bF c5 b1 b5 bS bf eF aC uX Fp gp zW ri Ll tT;have Un:J (av w w (cO.alloc (aD (#[I an.k,I an.a.1,I an.a.2,I an.b.1,I an.b.2,I an.c.1,I an.c.2,I an.r,ad pl nl cl,ad pp nc cp]) dh))):=eB.trans ((ba _ _).mono eB.size);have HW:=U (cq.out.below (ba cO (aD (#[I an.k,I an.a.1,I an.a.2,I an.b.1,I an.b.2,I an.c.1,I an.c.2,I an.r,ad pl nl cl,ad pp nc cp]) dh)));clear eB cq;go_wp2_with fail;go_fit (Um.out _ Un.out);rintro e cX ⟨fI,kR,lv,f6,rfl,Pw,eQ⟩;have im:J (av w w cX):=Un.out.trans (eQ.mono Un.out.size);have oI:=U Pw;have fp:=U eQ;obtain⟨xs,lS⟩:∃xs,(cO.alloc (aD (#[I an.k,I an.a.1,I an.a.2,I an.b.1,I an.b.2,I an.c.1,I an.c.2,I an.r,ad pl nl cl,ad pp nc cp]) dh)).ownsRow w.heap.size dQ 11 zX qN.length xs:=(by obtain⟨_,xs,h,_⟩:=HW.out;exact⟨xs,h⟩);rw[Fq.out] at lS;obtain⟨ps,cs,rfl⟩:=ik lS;have Db:=U lS;have hP:J ((cX.alloc (aD (#[ai false,I an.k,I an.a.1,I an.a.2,I an.b.1,I an.b.2,I an.c.1,I an.c.2,I an.r,ad fI nl kR,ad lv nc f6]) dQ)).ownsRow w.heap.size dQ 11 (ad ps (j+k) cs) (j+k) xs):=(fE lS eQ).alloc _;have Lm:=im.out.size;clear lS eQ Pw d0 d1 d2 d3 d4 d5 d6 d7 d8 d9;go_wp2_with (at_builtin;refine zE _ rfl _ _ _ rfl w.heap.size dQ i0 C2 11 120 E1 bY.out.1 bY.out.2.1 bY.out.2.2.1 bY.out.2.2.2 rfl (by omega) (ad ps (j+k) cs) (j+k) _ (by rfl) hP.out (ag cX.heap.size 0) 1 1 [ai false,I an.k,I an.a.1,I an.a.2,I an.b.1,I an.b.2,I an.c.1,I an.c.2,I an.r,ad fI nl kR,ad lv nc f6] (by rfl) (by rfl) (jW (cs:= #[ai false,I an.k,I an.a.1,I an.a.2,I an.b.1,I an.b.2,I an.c.1,I an.c.2,I an.r,ad fI nl kR,ad lv nc f6]) (t:=dQ) (fr:=(0,0)) (gi cX _)) (by simp[Value.oneCell']) (by omega) (by unfold maxLen;omega) (by omega) (by simp;omega) (cX.heap.size+1) (by simp) ?_;intro gg il j7 cM dW e0 h5)
   all_goals
    have Bu:=U (tS.push (d:=false) (b:=an) (s:=os) (q:=fI) (qp:=lv) (e:=kR) (f:=f6) (g:=gg) (n':=j+k+1) (c':=il) (V:=[ai false,I an.k,I an.a.1,I an.a.2,I an.b.1,I an.b.2,I an.c.1,I an.c.2,I an.r,ad fI nl kR,ad lv nc f6]) HW.out fp.out (ba cX (aD (#[ai false,I an.k,I an.a.1,I an.a.2,I an.b.1,I an.b.2,I an.c.1,I an.c.2,I an.r,ad fI nl kR,ad lv nc f6]) dQ)) oI.out dW (by rw[rf.out,yh.out]) (fun eS h=>aaN Db.out (by rw[Fq.out] at h;exact h)) (by rw[Fq.out];exact cM) rfl (e0.imp id (fun h=>by rw[h];exact l4 _)));rw[←tL.out] at Bu;clear cM dW e0 h5;go_round<;>first|exact⟨k+1,_,_,rfl,by omega,rfl,by go_num,Bu.out⟩|(simp[intOf]<;>omega)
  ·obtain rfl:k=m:=(by omega);have vk:hs.take k=hs:=(by rw[bB.out];exact uo);have i6:=cq.out;rw[vk] at i6;have hlen:(l++hs.map fun s=>(false,s)).length=j+k:=(by rw[gh,hk,←bB.out,←a1.out]);obtain⟨q,d,hj,sH⟩:=iD.own (R:=fun k=>w.heap.size≤k) i6 nb.out (fun k h=>h);have vl:=U sH;have iC:J (av w w cO):=(by obtain⟨_,_,_,_,_,_,h⟩:=cq.out;exact h);rw[hlen] at hj;subst hj;clear vk i6 sH hlen cq;go_wp2_with fail;go_ret;exact⟨_,_,rfl,vl.out,iC.out⟩
theorem aln(S:Jp)(l:List ec)(aj:∀o∈l,Plain o.2)(p:aya)(n c:Nat)(hn:n=l.length)(w:bTo)(H:J (iD S w p l)):
  Calls Tryz.prog 50 #[ad p n c,ay 0] w fun e w'=>∃q d,e=bb (ad q n d)∧iD (fun k=>w.heap.size≤k) w' q l∧av w w w':=by
 have af:n≤1000000000:=by rw[hn];exact H.out.1
 have h:=ali S l aj p n c hn [] (fun s hs=>by simp at hs) none 0 0 rfl (by omega) w H (U (wV.nil S w none));rw[zI,List.append_nil,Hk] at h;exact h
end dE
namespace pH
open Go.RowKit
def qQ(w:bTo):Prop:=Lib.TabIs Tryz.prog w "internal/strconv.uint64pow10" .u64 Lib.pow10Tab
theorem aaV:Tryz.prog.globalNamed "internal/strconv.uint64pow10" =some 5:=by kernel_rfl
variable{w:bTo}
theorem qQ.below{w':bTo}(h:qQ w)(af:av w w w'):qQ w':=by
 unfold qQ Lib.TabIs at h⊢;have b0:5<w.heap.size:=by unfold World.var? at h;simp only[aaV,Option.bind_some] at h;apply xv;intro hn;have:w.heap[5]?=none:=(by rw[Array.getElem?_eq_none_iff];omega);rw[this] at h;simp at h
 exact var?_below af aaV b0 h
theorem qQ.of_heap{w':bTo}(h:qQ w)(aF:w'.heap=w.heap):qQ w':=by unfold qQ Lib.TabIs World.var? at h⊢;rw[aF];exact h
theorem qQ.drewN{w:bTo}(h:qQ w)(n:Nat):qQ (w.drewN n):=h.of_heap rfl
theorem qQ.drew{w:bTo}(h:qQ w):qQ w.drew:=h.of_heap rfl
theorem qQ.alloc{w:bTo}(h:qQ w)(o:Obj):qQ (w.alloc o):=h.below ((Below.refl _ _).alloc (bD _) _)
theorem below_drewN{B:Nat}{a:bTo}(h:Below B a w)(n:Nat):Below B a (w.drewN n):=⟨h.os,h.tape,h.output,h.size,h.block⟩
theorem ml{a b:aia}(h:a.data.toList=b.data.toList):a=b:=by cases a;cases b;simp only[ByteArray.mk.injEq];exact Array.toList_inj.1 h
theorem alo{a b:aia}(h:a.data.toList=b.data.toList):Ending.returned (au a)=Ending.returned (au b):=by rw[ml h]
theorem cR(s:aia):s.data.toList.length=s.size:=by simp
theorem alp(a b:aia):(a++b).data.toList=a.data.toList++b.data.toList:=by simp
theorem nd(s:aia)(k:Nat):(s.extract k s.size).data.toList=s.data.toList.drop k:=by rw[Da];exact zS (by simp)
theorem kz(l:bk):∃S:aia,S.data.toList=l:=⟨⟨l.toArray⟩,rfl⟩
end pH
