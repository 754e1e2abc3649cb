/- Lemmas. -/
import Derived.Test.YtfldplmgkeiimaaGreatDoorR14
set_option linter.all false
set_option maxRecDepth 100000
set_option maxHeartbeats 12800000
namespace Go.Proofs.YtfldplmgkeiimaaGreatDoor
abbrev Oc:=@wpList_make_own
namespace dd
open Go.RowKit ef
def Plain(s:eg):Prop:=Full s∧s.p.count≤100000000
def sP(S:afp)(w:aeo):List eg→aev→Prop
 |[],_=>True
 |s::l,xs=>(∃(pl:Ja) (cl:Nat) (pp:Ja) (cp:Nat),xs.take 10=lF s.b (ad pl s.b.l.length cl) (ad pp s.p.len cp)∧dE S w pl cl pp cp s)∧sP S w l (xs.drop 10)
def vD(S:afp)(w:aeo)(p:Ja)(l:List eg):Prop:=l.length≤n9∧(0<l.length→∃(k o:Nat) (cs:ajv),p=some ⟨k,o,none⟩∧S k∧an w k cs dB∧sP S w l (cs.toList.drop o))
theorem sP.keep{S:afp}{w w':aeo}(ay:aP S w w'):∀{l:List eg} {xs:aev},sP S w l xs→sP S w' l xs
 |[],_,_=>trivial
 |s::l,xs,h=>by obtain⟨⟨pl,cl,pp,cp,av,az⟩,aC⟩:=h;exact⟨⟨pl,cl,pp,cp,av,az.keep ay⟩,sP.keep ay aC⟩
theorem sP.mono{S R:afp}{w:aeo}(ay:∀k,k<w.heap.size→S k→R k):∀{l:List eg} {xs:aev},sP S w l xs→sP R w l xs
 |[],_,_=>trivial
 |s::l,xs,h=>by obtain⟨⟨pl,cl,pp,cp,av,az⟩,aC⟩:=h;exact⟨⟨pl,cl,pp,cp,av,az.mono ay⟩,sP.mono ay aC⟩
theorem vD.keep{S:afp}{w w':aeo}{p:Ja}{l:List eg}(h:vD S w p l)(ay:aP S w w'):vD S w' p l:=by refine⟨h.1,fun aA=>?_⟩;obtain⟨k,o,cs,e,hS,aK,hp⟩:=h.2 aA;exact⟨k,o,cs,e,hS,ay.get hS aK,sP.keep ay hp⟩
theorem vD.below{S:afp}{w w':aeo}{p:Ja}{l:List eg}(h:vD S w p l)(ax:ao w w w'):vD S w' p l:=h.keep (.dW ax)
theorem vD.nil(S:afp)(w:aeo)(p:Ja):vD S w p []:=⟨dO _,fun h=>absurd h (mA _)⟩
theorem sP.get{S:afp}{w:aeo}:∀{l:List eg} {xs:aev} {n:Nat} {s:eg},sP S w l xs→l[n]?=some s→∃(pl:Ja) (cl:Nat) (pp:Ja) (cp:Nat),(xs.drop (n *10)).take 10=lF s.b (ad pl s.b.l.length cl) (ad pp s.p.len cp)∧dE S w pl cl pp cp s
 |[],xs,n,s,h,hn=>by simp at hn
 |x::l,xs,0,s,h,hn=>by obtain rfl:x=s:=(by simpa using hn);obtain⟨⟨pl,cl,pp,cp,av,az⟩,_⟩:=h;exact⟨pl,cl,pp,cp,by simpa using av,az⟩
 |x::l,xs,n+1,s,h,hn=>by obtain⟨pl,cl,pp,cp,av,az⟩:=sP.get (n:=n) (s:=s) h.2 (by simpa using hn);exact⟨pl,cl,pp,cp,by rw[←av,si];congr 2;omega,az⟩
theorem vD.at{S:afp}{w:aeo}{p:Ja}{l:List eg}{b:dm}{s:bk}{n:Nat}(h:vD S w p l)(hn:n<l.length)(he:l[n]=⟨b,s⟩):
  ∃(k o:Nat) (pl:Ja) (cl:Nat) (pp:Ja) (cp:Nat),p=some ⟨k,o,none⟩∧k<w.heap.size∧S k∧dE S w pl cl pp cp ⟨b,s⟩∧
   ak w k (o+n *10) (I b.k)∧ak w k (o+n *10+1) (I b.a.1)∧ak w k (o+n *10+2) (I b.a.2)∧ak w k (o+n *10+3) (I b.b.1)∧ak w k (o+n *10+4) (I b.b.2)∧ak w k (o+n *10+5) (I b.c.1)∧ak w k (o+n *10+6) (I b.c.2)∧ak w k (o+n *10+7) (I b.r)∧ak w k (o+n *10+8) (ad pl b.l.length cl)∧ak w k (o+n *10+9) (ad pp s.len cp):=by
 obtain⟨k,o,cs,rfl,hS,aK,hp⟩:=h.2 (by omega);obtain⟨pl,cl,pp,cp,av,az⟩:=hp.get (n:=n) (s:=⟨b,s⟩) (by rw[mx hn,he]);rw[si] at av;have hc:=Gj av;exact⟨k,o,pl,cl,pp,cp,rfl,lt_of_heap aK,hS,az,cell_of aK (by simpa using hc 0 (by decide)),cell_of aK (hc 1 (by decide)),cell_of aK (hc 2 (by decide)),cell_of aK (hc 3 (by decide)),cell_of aK (hc 4 (by decide)),cell_of aK (hc 5 (by decide)),cell_of aK (hc 6 (by decide)),cell_of aK (hc 7 (by decide)),cell_of aK (hc 8 (by decide)),cell_of aK (hc 9 (by decide))⟩
def sQ(w0:aeo)(sv:ada)(os:List eu)(x:aeo):Prop:=∃(R:afp) (xs:aev),x.ownsRow w0.heap.size dq 11 sv os.length xs∧ds R x (pB os) xs∧(∀k,R k→w0.heap.size≤k∧k<x.heap.size)∧(∀k,sv.ownBlock=some k→¬R k)∧ao w0 w0 x
theorem sQ.below{w0:aeo}{sv:ada}{os:List eu}{x y:aeo}(h:sQ w0 sv os x)(ax:ao x x y):sQ w0 sv os y:=by obtain⟨R,xs,av,az,aC,bt,cr⟩:=h;exact⟨R,xs,gC av ax,az.below ax,fun k ay=>⟨(aC k ay).1,km (aC k ay).2 ax.size⟩,bt,cr.trans (ax.mono cr.size)⟩
theorem sQ.push{w0:aeo}{sv sv':ada}{os:List eu}{X Y Z:aeo}(h:sQ w0 sv os X){g n' c':Nat}{d:Bool}{b:dm}{s:bk}{q qp:Ja}{e f:Nat}{V:aev}{xs:aev}(BO:ao X X Y)(SJ:ao Y Y Z)(aR:dE (fun k=>X.heap.size≤k) Y q e qp f ⟨b,s⟩){W:aeo}
  (aF:Z.grownBy W sv.ownBlock) (nk:V=U d::lF b (ad q b.l.length e) (ad qp s.len f)) (hx:∀fy,X.ownsRow w0.heap.size dq 11 sv os.length fy→xs=fy) (c0:W.ownsRow w0.heap.size dq 11 sv' (os.length+1) (xs++V)) (SK:sv'=ad (some (aj g 0)) n' c') (eX:sv.ownBlock=some g∨Y.heap.size≤g):sQ w0 sv' (os++[(d,⟨b,s⟩)]) W:=by
 obtain⟨R,fy,av,az,aC,bt,cr⟩:=h;obtain rfl:=hx fy av;subst nk;have SL:ao X X Z:=BO.trans (SJ.mono BO.size)
 have Zk:∀k,sv.ownBlock=some k→¬(R k∨(X.heap.size≤k∧k<Y.heap.size)):=fun k ay h=>by
  rcases h with h|h
  ·exact bt k ay h
  ·have:=(av.lt k ay).2;omega
 have Zl:aP (fun k=>R k∨(X.heap.size≤k∧k<Y.heap.size)) Z W:=aP.grown aF Zk;refine⟨fun k=>R k∨(X.heap.size≤k∧k<Y.heap.size),_,by rw[iv];exact c0,?_,fun k ay=>?_,fun k ay h=>?_,(cr.trans (SL.mono cr.size)).grown aF (dx cr.size SL.size) (fun k ay=>(av.lt k ay).1)⟩
 ·rw[I8];refine ds.append (((az.below SL).mono (fun k _ ay=>.inl ay)).keep Zl) (by rw[av.1,Ds]) (.mk (by rfl) ?_ trivial);exact ((aR.mono (R:=fun k=>R k∨(X.heap.size≤k∧k<Y.heap.size)) (fun k ay h=>.inr ⟨h,ay⟩)).below SJ).keep Zl
 ·have qL:=BO.size;have uf:=SJ.size;have Gf:=aF.size;have awl:=cr.size;rcases ay with ay|ay
  ·have:=aC k ay;exact⟨this.1,by omega⟩
  ·exact⟨by omega,by omega⟩
 ·rw[SK] at ay;simp only[Value.ownBlock,n7] at ay;subst ay;rcases eX with c4|c4
  ·exact Zk g c4 h
  ·rcases h with h|h
   ·have:=(aC g h).2;have:=BO.size;omega
   ·omega
theorem Zm{w:aeo}{B CO:Nat}{e k8:aai}{bD n:Nat}{v:ada}{xs fy:aev}(h:w.ownsRow B e bD v n xs)(g:w.ownsRow CO k8 bD v n fy):xs=fy:=by
 rcases h.2 with ⟨aY,aS⟩|⟨k,cap,cur,aY,bK,aK,_,_,_,bE⟩
 ·have av:=h.1;have az:=g.1;rw[aS,Fi] at av az;rw[mT av,mT az]
 ·rcases g.2 with ⟨JF,g0⟩|⟨ba,jc,Zn,JF,_,Gl,_,_,_,gt⟩
  ·rw[aY] at JF;cases JF
  ·rw[aY] at JF;injection JF with a7 _ _;injection a7 with a7;injection a7 with a7;subst a7;rw[aK] at Gl;injection Gl with Gl;injection Gl with Gl _ _;subst Gl;rw[←bE,←gt]
theorem h8.own{R:afp}{w0 x:aeo}{sv:ada}{os:List eu}(h:sQ w0 sv os x)(ax:os.length≤n9)(hR:∀k,w0.heap.size≤k→R k):∃q d,sv=ad q os.length d∧h8 R x q os:=by
 obtain⟨yS,xs,av,az,aC,bt,cr⟩:=h;obtain⟨q,d,rfl⟩:=jH av;refine⟨q,d,rfl,ax,fun aA=>?_⟩;rcases av.2 with ⟨_,aS⟩|⟨k,cap,cur,aY,bK,aK,_,_,_,bE⟩
 ·omega
 ·injection aY with a7 _ _;refine⟨k,0,cur,a7,hR k bK,aK,?_⟩;refine (az.mono (fun k _ hs=>hR k (aC k hs).1)).congr ?_;rw[Ds,tu,←bE,CU,Nv]
theorem ajs(S:afp)(l:List eu)(aA:∀o∈l,Plain o.2)(p:Ja)(n c:Nat)(hn:n=l.length)(hs:List eg)(Zo:∀s∈hs,Plain s)(Zp:Ja)(m yP:Nat)(hm:m=hs.length)(Od:n+m≤1000000000)(w:aeo)(H:af (h8 S w p l))(hz:af (vD S w Zp hs)):
  Calls Tryz.prog 50 #[ad p n c,ad Zp m yP] w fun e w'=>∃q d,e=ab (ad q (n+m) d)∧h8 (fun k=>w.heap.size≤k) w' q (l++hs.map fun s=>(false,s))∧ao w w w':=by
 have awm:m≤1000000000:=by rw[hm];exact hz.out.1
 have bH:=aq hm;have ajt:=aq Zo;have oz:af ((l++hs.map fun s=>(false,s)).length≤n9):=by show _≤1000000000;rw[iv,gO,←hm,←hn];exact Od
 clear hm Zo;have oa:n≤1000000000:=by rw[hn];exact H.out.1
 have bd:=aq hn;have dn:=aq aA;obtain⟨i0,hi,dy,dJ,dv⟩:=info_parts Jd;have b8:=aq (And.intro hi (And.intro dy (And.intro dJ dv)));have Zq:ae ((n:Int)+(m:Int))=((n+m:Nat):Int):=by rw[cY _ (by omega)];omega
 clear hn aA hi dy dJ dv;go_enter Tryz.func50,Tryz.ntmps50;go_upto_region 2 with (first|(refine Oc _ rfl _ _ _ rfl w.heap.size dq i0 BF 11 Dv b8.out.1 b8.out.2.1 b8.out.2.2.1 .i64 .i64 ((n+m:Nat):Int) (n+m) (by rfl) (by rfl) rfl (by rw[b8.out.2.2.2];omega) (by unfold maxLen;omega) (bx _) ?_;intro eK c0 z'));have pD:af (sQ w (ag w.heap.size 0 0 (n+m)) [] eK):=⟨fun _=>False,[],c0,trivial,fun k h=>h.elim,fun k _ h=>h,⟨z'.os,z'.tape,z'.output,z'.size,fun k ay=>z'.block k ay (by simp)⟩⟩;clear c0 z';go_wp2_with fail
 go_loopw [5,18] (fun Aa i wr=>∃(j:Nat) (sv:ada) (aM:aeo),aM=wr∧j≤n∧sv=Aa∧i=I j∧af (sQ w sv (l.take j) aM)) (fun _ i _=>n -(intOf i).toNat)
 case atStart=>exact⟨0,_,_,rfl,dO _,rfl,rfl,pD.out⟩
 case round=>
 obtain⟨j,sv,aM,rfl,cd,rfl,rfl,c1⟩:=hrel;by_cases bR:j<n
 ·have fE:j<l.length:=(by rw[←bd.out];exact bR);have gU:(j:Int)<(n:Int):=(by omega);obtain⟨⟨od,⟨aB,os⟩⟩,aR⟩:=ar (l[j]);obtain⟨zo,Ab⟩:=dn.out (od,⟨aB,os⟩) (by rw[←aR];exact kT _);have dQ:ao w w aM:=(by obtain⟨_,_,_,_,_,_,h⟩:=c1.out;exact h);obtain⟨ht,lg,pl,cl,pp,cp,rfl,qt,_,el,aQ,aN,aJ,c3,bF,c5,bZ,b',bU,bg,cH⟩:=H.out.at fE aR;obtain⟨mK,wD⟩:=ar os.len;have xm:=aq wD;have sK:af (l.take (j+1)=l.take j++[(od,⟨aB,os⟩)]):=(by show _=_;rw[wy fE,aR]);have DT:(l.take j).length=j:=(by rw[kU];omega);obtain⟨p2,tX⟩:=ar (l.take j);rw[tX] at c1 sK DT;have DU:=aq DT;obtain⟨nl,gj⟩:=ar aB.l.length;have qs:=aq gj;have SM:af (∀Z,ao w w Z→Calls Tryz.prog 53 #[.agg #[I aB.k,I aB.a.1,I aB.a.2,I aB.b.1,I aB.b.2,I aB.c.1,I aB.c.2,I aB.r,ad pl nl cl,ad pp mK cp]] Z fun e w'=>∃q d dI f,e=ab (.agg #[I aB.k,I aB.a.1,I aB.a.2,I aB.b.1,I aB.b.2,I aB.c.1,I aB.c.2,I aB.r,ad q nl d,ad dI mK f])∧dE (fun k=>Z.heap.size≤k) w' q d dI f ⟨aB,os⟩∧ao Z Z w'):=(by intro Z eY;rw[←gj,←wD];exact YT S aB os zo Ab pl cl pp cp Z (aq (el.below eY)));rw[gj] at bg;rw[wD] at cH;have d0:=bV dQ aQ;have d1:=bV dQ aN;have d2:=bV dQ aJ;have d3:=bV dQ c3;have d4:=bV dQ bF;have d5:=bV dQ c5;have d6:=bV dQ bZ;have d7:=bV dQ b';have d8:=bV dQ bU;have d9:=bV dQ bg;have d10:=bV dQ cH;clear aQ aN aJ c3 bF c5 bZ b' bU bg cH el aR tX DT gj wD qt zo Ab;go_upto_region 5 with fail;have Gm:=aq (c1.out.below (a6 aM (ai (#[U od,I aB.k,I aB.a.1,I aB.a.2,I aB.b.1,I aB.b.2,I aB.c.1,I aB.c.2,I aB.r,ad pl nl cl,ad pp mK cp]) dq)));have Ac:af ((aM.alloc (ai (#[U od,I aB.k,I aB.a.1,I aB.a.2,I aB.b.1,I aB.b.2,I aB.c.1,I aB.c.2,I aB.r,ad pl nl cl,ad pp mK cp]) dq)).heap[aM.heap.size]?=some (.cells #[U od,I aB.k,I aB.a.1,I aB.a.2,I aB.b.1,I aB.b.2,I aB.c.1,I aB.c.2,I aB.r,ad pl nl cl,ad pp mK cp] dq)):=bY _ _;have dY:ao w w (aM.alloc (ai (#[U od,I aB.k,I aB.a.1,I aB.a.2,I aB.b.1,I aB.b.2,I aB.c.1,I aB.c.2,I aB.r,ad pl nl cl,ad pp mK cp]) dq)):=dQ.trans ((a6 _ _).mono dQ.size);generalize aM.alloc (.cells #[U od,I aB.k,I aB.a.1,I aB.a.2,I aB.b.1,I aB.b.2,I aB.c.1,I aB.c.2,I aB.r,ad pl nl cl,ad pp mK cp] dq)=gB at Gm Ac dY⊢;obtain⟨D,b2⟩:=ar aM.heap.size;rw[b2] at Ac⊢;clear b2 d0 d1 d2 d3 d4 d5 d6 d7 d8 d9 d10 dQ c1;obtain⟨d0,d1,d2,d3,d4,d5,d6,d7,d8,d9,d10⟩:=pZ Ac.out;have aju:af (an gB.drew D (#[U od,I aB.k,I aB.a.1,I aB.a.2,I aB.b.1,I aB.b.2,I aB.c.1,I aB.c.2,I aB.r,ad pl nl cl,ad pp mK cp]) dq):=Ac.out;obtain⟨aE,aH,gQ,y3,y4,nR,y6,rO,rP,BL,Oe⟩:=pZ aju.out;have rQ:=lt_of_heap Ac.out;have Gn:af (ao w w gB.drew):=dY.drew;have Zr:gB.drew.heap.size=gB.heap.size:=rfl;have ajw:=dY.size;have eH:=aq dY;obtain⟨xs,lq⟩:∃xs,gB.ownsRow w.heap.size dq 11 sv p2.length xs:=(by obtain⟨_,xs,h,_⟩:=Gm.out;exact⟨xs,h⟩);rw[DU.out] at lq;obtain⟨ps,cs,rfl⟩:=jH lq;have uU:=aq lq;clear lq dY
  go_region_law (first
   |(refine BC _ (by rfl) _ _ _ (by rfl) w.heap.size dq i0 BF 11 120 Dv b8.out.1 b8.out.2.1 b8.out.2.2.1 b8.out.2.2.2 rfl (by omega) (ad ps j cs) j _ (by rfl) ((gC (gC uU.out (Below.refl _ _).drew) dF).alloc _) (aj cN.heap.size 0) 1 1 [U od,I aB.k,I aB.a.1,I aB.a.2,I aB.b.1,I aB.b.2,I aB.c.1,I aB.c.2,I aB.r,ad gn nl jW,ad k5 mK f6] (by rfl) (by rfl) (j8 (cs:= #[U od,I aB.k,I aB.a.1,I aB.a.2,I aB.b.1,I aB.b.2,I aB.c.1,I aB.c.2,I aB.r,ad gn nl jW,ad k5 mK f6]) (t:=dq) (fr:=(0,0)) (fJ cN _)) (by simp[Value.oneCell']) (by omega) (by unfold maxLen;omega) (by omega) (by simp;omega) (cN.heap.size+1) (by simp) ?_;intro ed jc k4 c0 ep eX iR)
   |(rw[bb (by rfl)];go_simp;go_at_call 53;with_reducible refine (SM.out _ Gn.out).mono ?_;rintro e cN ⟨gn,jW,k5,f6,rfl,Of,dF⟩;have BP:=dF.size;rw[Zr] at BP;have bJ:=bV dF aE;have bO:=bV dF aH;have ba:=bV dF gQ;have p0:=bV dF y3;have BE:=bV dF y4;have DV:=bV dF nR;have DW:=bV dF y6;have DX:=bV dF rO;have DY:=bV dF rP;have xl:=bV dF BL;have DZ:=bV dF Oe))
  all_goals
   have Zs:ao gB.drew gB.drew cN:=dF;have Ad:=aq (sQ.push (d:=od) (b:=aB) (s:=os) (q:=gn) (qp:=k5) (e:=jW) (f:=f6) (g:=ed) (n':=j+1) (c':=jc) (V:=[U od,I aB.k,I aB.a.1,I aB.a.2,I aB.b.1,I aB.b.2,I aB.c.1,I aB.c.2,I aB.r,ad gn nl jW,ad k5 mK f6]) (Gm.out.below (Below.refl _ _).drew) Zs (a6 cN (ai (#[U od,I aB.k,I aB.a.1,I aB.a.2,I aB.b.1,I aB.b.2,I aB.c.1,I aB.c.2,I aB.r,ad gn nl jW,ad k5 mK f6]) dq)) Of ep (by rw[qs.out,xm.out]) (fun fy h=>Zm (w:=gB.drew) (uU.out.drew) (by rw[DU.out] at h;exact h)) (by rw[DU.out];exact c0) rfl (eX.imp id (fun h=>by rw[h];exact mv _)));rw[←sK.out] at Ad;clear c0 ep eX iR Zs BP bJ bO ba p0 BE DV DW DX DY xl DZ d0 d1 d2 d3 d4 d5 d6 d7 d8 d9 d10 aE aH gQ y3 y4 nR y6 rO rP BL Oe rQ ajw Zr;go_wp2_with fail;go_round<;>first|exact⟨j+1,_,_,rfl,by omega,rfl,by go_num,Ad.out⟩|(simp[intOf]<;>omega)
 ·have iH:j=n:=(by omega);subst iH;have fC:l.take j=l:=(by rw[bd.out];exact uJ);have h9:=c1.out;rw[fC] at h9;have RR:=aq h9;clear fC h9 c1 pD;go_wp2_with fail
  go_loopw [5,34] (fun Aa i wr=>∃(k:Nat) (Ae:ada) (cE:aeo),cE=wr∧k≤m∧Ae=Aa∧i=I k∧af (sQ w Ae (l++(hs.take k).map fun s=>(false,s)) cE)) (fun _ i _=>m -(intOf i).toNat)
  case atStart=>exact⟨0,_,_,rfl,dO _,rfl,rfl,(by show sQ _ _ _ _;rw[H8,yO,List.append_nil];exact RR.out)⟩
  case round=>
  obtain⟨k,Ae,cE,rfl,ay,rfl,rfl,c1⟩:=hrel;by_cases fE:k<m
  ·have Zt:k<hs.length:=(by rw[←bH.out];exact fE);have gU:(k:Int)<(m:Int):=(by omega);obtain⟨⟨aB,os⟩,aR⟩:=ar (hs[k]);obtain⟨zo,Ab⟩:=ajt.out ⟨aB,os⟩ (by rw[←aR];exact kT _);have dQ:ao w w cE:=(by obtain⟨_,_,_,_,_,_,h⟩:=c1.out;exact h);obtain⟨ht,lg,pl,cl,pp,cp,rfl,qt,_,el,aQ,aN,aJ,c3,bF,c5,bZ,b',bU,bg⟩:=hz.out.at Zt aR;obtain⟨mK,wD⟩:=ar os.len;have xm:=aq wD;have sK:af (l++(hs.take (k+1)).map (fun s=>(false,s))=(l++(hs.take k).map fun s=>(false,s))++[(false,⟨aB,os⟩)]):=(by show _=_;rw[wy Zt,aR,qI,List.append_assoc];rfl);have DT:(l++(hs.take k).map fun s=>(false,s)).length=j+k:=(by rw[iv,gO,kU,A7 (by omega),bd.out]);obtain⟨p2,tX⟩:=ar (l++(hs.take k).map fun s=>(false,s));rw[tX] at c1 sK DT;have DU:=aq DT;obtain⟨nl,gj⟩:=ar aB.l.length;have qs:=aq gj;have SM:af (∀Z,ao w w Z→Calls Tryz.prog 53 #[.agg #[I aB.k,I aB.a.1,I aB.a.2,I aB.b.1,I aB.b.2,I aB.c.1,I aB.c.2,I aB.r,ad pl nl cl,ad pp mK cp]] Z fun e w'=>∃q d dI f,e=ab (.agg #[I aB.k,I aB.a.1,I aB.a.2,I aB.b.1,I aB.b.2,I aB.c.1,I aB.c.2,I aB.r,ad q nl d,ad dI mK f])∧dE (fun k=>Z.heap.size≤k) w' q d dI f ⟨aB,os⟩∧ao Z Z w'):=(by intro Z eY;rw[←gj,←wD];exact YT S aB os zo Ab pl cl pp cp Z (aq (el.below eY)));rw[gj] at bU;rw[wD] at bg;have d0:=bV dQ aQ;have d1:=bV dQ aN;have d2:=bV dQ aJ;have d3:=bV dQ c3;have d4:=bV dQ bF;have d5:=bV dQ c5;have d6:=bV dQ bZ;have d7:=bV dQ b';have d8:=bV dQ bU;have d9:=bV dQ bg;have awn:ae ((k:Int)+1)=(k:Int)+1:=cY _ (by omega);clear aQ aN aJ c3 bF c5 bZ b' bU bg el aR tX DT gj wD qt zo Ab;have SN:af (ao w w (cE.alloc (ai (#[I aB.k,I aB.a.1,I aB.a.2,I aB.b.1,I aB.b.2,I aB.c.1,I aB.c.2,I aB.r,ad pl nl cl,ad pp mK cp]) dB))):=dQ.trans ((a6 _ _).mono dQ.size);have Gm:=aq (c1.out.below (a6 cE (ai (#[I aB.k,I aB.a.1,I aB.a.2,I aB.b.1,I aB.b.2,I aB.c.1,I aB.c.2,I aB.r,ad pl nl cl,ad pp mK cp]) dB)));clear dQ c1;go_wp2_with fail;with_reducible refine (SM.out _ SN.out).mono ?_
   rintro e cN ⟨gn,jW,k5,f6,rfl,Of,dF⟩;have mb:af (ao w w cN):=SN.out.trans (dF.mono SN.out.size);have oi:=aq Of;have e7:=aq dF;obtain⟨xs,lq⟩:∃xs,(cE.alloc (ai (#[I aB.k,I aB.a.1,I aB.a.2,I aB.b.1,I aB.b.2,I aB.c.1,I aB.c.2,I aB.r,ad pl nl cl,ad pp mK cp]) dB)).ownsRow w.heap.size dq 11 Ae p2.length xs:=(by obtain⟨_,xs,h,_⟩:=Gm.out;exact⟨xs,h⟩);rw[DU.out] at lq;obtain⟨ps,cs,rfl⟩:=jH lq;have uU:=aq lq;have jb:af ((cN.alloc (ai (#[U false,I aB.k,I aB.a.1,I aB.a.2,I aB.b.1,I aB.b.2,I aB.c.1,I aB.c.2,I aB.r,ad gn nl jW,ad k5 mK f6]) dq)).ownsRow w.heap.size dq 11 (ad ps (j+k) cs) (j+k) xs):=(gC lq dF).alloc _;have JG:=mb.out.size;clear lq dF Of d0 d1 d2 d3 d4 d5 d6 d7 d8 d9;go_wp2_with (at_builtin;refine yI _ rfl _ _ _ rfl w.heap.size dq i0 BF 11 120 Dv b8.out.1 b8.out.2.1 b8.out.2.2.1 b8.out.2.2.2 rfl (by omega) (ad ps (j+k) cs) (j+k) _ (by rfl) jb.out (aj cN.heap.size 0) 1 1 [U false,I aB.k,I aB.a.1,I aB.a.2,I aB.b.1,I aB.b.2,I aB.c.1,I aB.c.2,I aB.r,ad gn nl jW,ad k5 mK f6] (by rfl) (by rfl) (j8 (cs:= #[U false,I aB.k,I aB.a.1,I aB.a.2,I aB.b.1,I aB.b.2,I aB.c.1,I aB.c.2,I aB.r,ad gn nl jW,ad k5 mK f6]) (t:=dq) (fr:=(0,0)) (fJ cN _)) (by simp[Value.oneCell']) (by omega) (by unfold maxLen;omega) (by omega) (by simp;omega) (cN.heap.size+1) (by simp) ?_;intro ed jc k4 c0 ep eX iR)
   all_goals
    have Ad:=aq (sQ.push (d:=false) (b:=aB) (s:=os) (q:=gn) (qp:=k5) (e:=jW) (f:=f6) (g:=ed) (n':=j+k+1) (c':=jc) (V:=[U false,I aB.k,I aB.a.1,I aB.a.2,I aB.b.1,I aB.b.2,I aB.c.1,I aB.c.2,I aB.r,ad gn nl jW,ad k5 mK f6]) Gm.out e7.out (a6 cN (ai (#[U false,I aB.k,I aB.a.1,I aB.a.2,I aB.b.1,I aB.b.2,I aB.c.1,I aB.c.2,I aB.r,ad gn nl jW,ad k5 mK f6]) dq)) oi.out ep (by rw[qs.out,xm.out]) (fun fy h=>Zm uU.out (by rw[DU.out] at h;exact h)) (by rw[DU.out];exact c0) rfl (eX.imp id (fun h=>by rw[h];exact mv _)));rw[←sK.out] at Ad;clear c0 ep eX iR;go_round<;>first|exact⟨k+1,_,_,rfl,by omega,rfl,by go_num,Ad.out⟩|(simp[intOf]<;>omega)
  ·obtain rfl:k=m:=(by omega);have Gp:hs.take k=hs:=(by rw[bH.out];exact uJ);have h9:=c1.out;rw[Gp] at h9;have hlen:(l++hs.map fun s=>(false,s)).length=j+k:=(by rw[iv,gO,←bH.out,←bd.out]);obtain⟨q,d,k6,vE⟩:=h8.own (R:=fun k=>w.heap.size≤k) h9 oz.out (fun k h=>h);have xn:=aq vE;have hU:af (ao w w cE):=(by obtain⟨_,_,_,_,_,_,h⟩:=c1.out;exact h);rw[hlen] at k6;subst k6;clear Gp h9 vE hlen c1;go_wp2_with fail;go_ret;exact⟨_,_,rfl,xn.out,hU.out⟩
theorem ajx(S:afp)(l:List eu)(aA:∀o∈l,Plain o.2)(p:Ja)(n c:Nat)(hn:n=l.length)(w:aeo)(H:af (h8 S w p l)):
  Calls Tryz.prog 50 #[ad p n c,J 0] w fun e w'=>∃q d,e=ab (ad q n d)∧h8 (fun k=>w.heap.size≤k) w' q l∧ao w w w':=by
 have ax:n≤1000000000:=by rw[hn];exact H.out.1
 have h:=ajs S l aA p n c hn [] (fun s hs=>by simp at hs) none 0 0 rfl (by omega) w H (aq (vD.nil S w none));rw[yO,List.append_nil,IE] at h;exact h
end dd
