/- Lemmas. -/
import Derived.Test.YtkaiaijcieaofaaGreatDoorQ6
import Derived.Lib.Bytealg
import Derived.Lib.Strings
import Derived.Lib.AppendIntMem
set_option linter.all false
set_option maxRecDepth 100000
set_option maxHeartbeats 12800000
namespace Go.Proofs.YtkaiaijcieaofaaGreatDoor
abbrev G':=@Nat.zero_mul
abbrev wu:=@List.drop_zero
abbrev Oy:=@Proofs.Tryz.underlying28
abbrev sr:=@step_append_lies
abbrev AE:=@Lib.extract_data
namespace c1
open Go.RowKit ef
def Plain(s:dq):Prop:=s.p.count≤100000000
def j0(S:afp)(w:aeo):List dq→aev→Prop
 |[],_=>True
 |s::l,xs=>(∃(pl:Ja) (cl:Nat) (pp:Ja) (cp:Nat),xs.take 10=js s.b (ad pl s.b.l.length cl) (ad pp s.p.len cp)∧dw S w pl cl pp cp s)∧j0 S w l (xs.drop 10)
def iA(S:afp)(w:aeo)(p:Ja)(l:List dq):Prop:=l.length≤jr∧(0<l.length→∃(k o:Nat) (cs:ajv),p=some ⟨k,o,none⟩∧S k∧al w k cs cQ∧j0 S w l (cs.toList.drop o))
theorem j0.keep{S:afp}{w w':aeo}(aw:aK S w w'):∀{l:List dq} {xs:aev},j0 S w l xs→j0 S w' l xs
 |[],_,_=>trivial
 |s::l,xs,h=>by obtain⟨⟨pl,cl,pp,cp,au,ax⟩,aA⟩:=h;exact⟨⟨pl,cl,pp,cp,au,ax.keep aw⟩,j0.keep aw aA⟩
theorem j0.mono{S R:afp}{w:aeo}(aw:∀k,k<w.heap.size→S k→R k):∀{l:List dq} {xs:aev},j0 S w l xs→j0 R w l xs
 |[],_,_=>trivial
 |s::l,xs,h=>by obtain⟨⟨pl,cl,pp,cp,au,ax⟩,aA⟩:=h;exact⟨⟨pl,cl,pp,cp,au,ax.mono aw⟩,j0.mono aw aA⟩
theorem iA.keep{S:afp}{w w':aeo}{p:Ja}{l:List dq}(h:iA S w p l)(aw:aK S w w'):iA S w' p l:=by refine⟨h.1,fun az=>?_⟩;obtain⟨k,o,cs,e,hS,aE,hp⟩:=h.2 az;exact⟨k,o,cs,e,hS,aw.get hS aE,j0.keep aw hp⟩
theorem iA.below{S:afp}{w w':aeo}{p:Ja}{l:List dq}(h:iA S w p l)(ay:an w w w'):iA S w' p l:=h.keep (.c4 ay)
theorem iA.nil(S:afp)(w:aeo)(p:Ja):iA S w p []:=⟨cO _,fun h=>absurd h (mi _)⟩
theorem j0.get{S:afp}{w:aeo}:∀{l:List dq} {xs:aev} {n:Nat} {s:dq},j0 S w l xs→l[n]?=some s→∃(pl:Ja) (cl:Nat) (pp:Ja) (cp:Nat),(xs.drop (n *10)).take 10=js s.b (ad pl s.b.l.length cl) (ad pp s.p.len cp)∧dw S w pl cl pp cp s
 |[],xs,n,s,h,hn=>by simp at hn
 |x::l,xs,0,s,h,hn=>by obtain rfl:x=s:=(by simpa using hn);obtain⟨⟨pl,cl,pp,cp,au,ax⟩,_⟩:=h;exact⟨pl,cl,pp,cp,by simpa using au,ax⟩
 |x::l,xs,n+1,s,h,hn=>by obtain⟨pl,cl,pp,cp,au,ax⟩:=j0.get (n:=n) (s:=s) h.2 (by simpa using hn);exact⟨pl,cl,pp,cp,by rw[←au,pw];congr 2;omega,ax⟩
theorem iA.at{S:afp}{w:aeo}{p:Ja}{l:List dq}{b:dK}{s:bf}{n:Nat}(h:iA S w p l)(hn:n<l.length)(he:l[n]=⟨b,s⟩):
  ∃(k o:Nat) (pl:Ja) (cl:Nat) (pp:Ja) (cp:Nat),p=some ⟨k,o,none⟩∧k<w.heap.size∧S k∧dw S w pl cl pp cp ⟨b,s⟩∧
   ak w k (o+n *10) (I b.k)∧ak w k (o+n *10+1) (I b.a.1)∧ak w k (o+n *10+2) (I b.a.2)∧ak w k (o+n *10+3) (I b.b.1)∧ak w k (o+n *10+4) (I b.b.2)∧ak w k (o+n *10+5) (I b.c.1)∧ak w k (o+n *10+6) (I b.c.2)∧ak w k (o+n *10+7) (I b.r)∧ak w k (o+n *10+8) (ad pl b.l.length cl)∧ak w k (o+n *10+9) (ad pp s.len cp):=by
 obtain⟨k,o,cs,rfl,hS,aE,hp⟩:=h.2 (by omega);obtain⟨pl,cl,pp,cp,au,ax⟩:=hp.get (n:=n) (s:=⟨b,s⟩) (by rw[iW hn,he]);rw[pw] at au;have aB:=G5 au;exact⟨k,o,pl,cl,pp,cp,rfl,lt_of_heap aE,hS,ax,cell_of aE (by simpa using aB 0 (by decide)),cell_of aE (aB 1 (by decide)),cell_of aE (aB 2 (by decide)),cell_of aE (aB 3 (by decide)),cell_of aE (aB 4 (by decide)),cell_of aE (aB 5 (by decide)),cell_of aE (aB 6 (by decide)),cell_of aE (aB 7 (by decide)),cell_of aE (aB 8 (by decide)),cell_of aE (aB 9 (by decide))⟩
def tG(w0:aeo)(sv:ada)(os:List iH)(x:aeo):Prop:=∃(R:afp) (xs:aev),x.ownsRow w0.heap.size fA 11 sv os.length xs∧da R x (p9 os) xs∧(∀k,R k→w0.heap.size≤k∧k<x.heap.size)∧(∀k,sv.ownBlock=some k→¬R k)∧an w0 w0 x
theorem tG.below{w0:aeo}{sv:ada}{os:List iH}{x y:aeo}(h:tG w0 sv os x)(ay:an x x y):tG w0 sv os y:=by obtain⟨R,xs,au,ax,aA,bb,bj⟩:=h;exact⟨R,xs,fY au ay,ax.below ay,fun k aw=>⟨(aA k aw).1,hN (aA k aw).2 ay.size⟩,bb,bj.trans (ay.mono bj.size)⟩
theorem tG.push{w0:aeo}{sv sv':ada}{os:List iH}{X Y Z:aeo}(h:tG w0 sv os X){g n' c':Nat}{d:Bool}{b:dK}{s:bf}{q qp:Ja}{e f:Nat}{V:aev}{xs:aev}(jy:an X X Y)(qO:an Y Y Z)(aG:dw (fun k=>X.heap.size≤k) Y q e qp f ⟨b,s⟩){W:aeo}
  (aI:Z.grownBy W sv.ownBlock) (jK:V=U d::js b (ad q b.l.length e) (ad qp s.len f)) (hx:∀ys,X.ownsRow w0.heap.size fA 11 sv os.length ys→xs=ys) (ct:W.ownsRow w0.heap.size fA 11 sv' (os.length+1) (xs++V)) (Ha:sv'=ad (some (aj g 0)) n' c') (dF:sv.ownBlock=some g∨Y.heap.size≤g):tG w0 sv' (os++[(d,⟨b,s⟩)]) W:=by
 obtain⟨R,ys,au,ax,aA,bb,bj⟩:=h;obtain rfl:=hx ys au;subst jK;have Eu:an X X Z:=jy.trans (qO.mono jy.size)
 have Kd:∀k,sv.ownBlock=some k→¬(R k∨(X.heap.size≤k∧k<Y.heap.size)):=fun k aw h=>by
  rcases h with h|h
  ·exact bb k aw h
  ·have:=(au.lt k aw).2;omega
 have Ke:aK (fun k=>R k∨(X.heap.size≤k∧k<Y.heap.size)) Z W:=aK.grown aI Kd;refine⟨fun k=>R k∨(X.heap.size≤k∧k<Y.heap.size),_,by rw[fH];exact ct,?_,fun k aw=>?_,fun k aw h=>?_,(bj.trans (Eu.mono bj.size)).grown aI (cd bj.size Eu.size) (fun k aw=>(au.lt k aw).1)⟩
 ·rw[N1];refine da.append (((ax.below Eu).mono (fun k _ aw=>.inl aw)).keep Ke) (by rw[au.1,Eh]) (.mk (by rfl) ?_ trivial);exact ((aG.mono (R:=fun k=>R k∨(X.heap.size≤k∧k<Y.heap.size)) (fun k aw h=>.inr ⟨h,aw⟩)).below qO).keep Ke
 ·have mA:=jy.size;have k':=qO.size;have uO:=aI.size;have Oz:=bj.size;rcases aw with aw|aw
  ·have:=aA k aw;exact⟨this.1,by omega⟩
  ·exact⟨by omega,by omega⟩
 ·rw[Ha] at aw;simp only[Value.ownBlock,r0] at aw;subst aw;rcases dF with b8|b8
  ·exact Kd g b8 h
  ·rcases h with h|h
   ·have:=(aA g h).2;have:=jy.size;omega
   ·omega
theorem S2{w:aeo}{B Ev:Nat}{e xo:aai}{aR n:Nat}{v:ada}{xs ys:aev}(h:w.ownsRow B e aR v n xs)(g:w.ownsRow Ev xo aR v n ys):xs=ys:=by
 rcases h.2 with ⟨aS,aF⟩|⟨k,cap,cur,aS,bz,aE,_,_,_,bc⟩
 ·have au:=h.1;have ax:=g.1;rw[aF,G'] at au ax;rw[lP au,lP ax]
 ·rcases g.2 with ⟨Kf,g0⟩|⟨bM,gG,aiM,Kf,_,Hb,_,_,_,gt⟩
  ·rw[aS] at Kf;cases Kf
  ·rw[aS] at Kf;injection Kf with aY _ _;injection aY with aY;injection aY with aY;subst aY;rw[aE] at Hb;injection Hb with Hb;injection Hb with Hb _ _;subst Hb;rw[←bc,←gt]
theorem gz.own{R:afp}{w0 x:aeo}{sv:ada}{os:List iH}(h:tG w0 sv os x)(ay:os.length≤jr)(hR:∀k,w0.heap.size≤k→R k):∃q d,sv=ad q os.length d∧gz R x q os:=by
 obtain⟨kS,xs,au,ax,aA,bb,bj⟩:=h;obtain⟨q,d,rfl⟩:=iw au;refine⟨q,d,rfl,ay,fun az=>?_⟩;rcases au.2 with ⟨_,aF⟩|⟨k,cap,cur,aS,bz,aE,_,_,_,bc⟩
 ·omega
 ·injection aS with aY _ _;refine⟨k,0,cur,aY,hR k bz,aE,?_⟩;refine (ax.mono (fun k _ hs=>hR k (aA k hs).1)).congr ?_;rw[Eh,wu,←bc,xh,G4]
theorem aiN(S:afp)(l:List iH)(az:∀o∈l,Plain o.2)(p:Ja)(n c:Nat)(hn:n=l.length)(hs:List dq)(Zu:∀s∈hs,Plain s)(Zv:Ja)(m yX:Nat)(hm:m=hs.length)(wv:n+m≤1000000000)(w:aeo)(H:af (gz S w p l))(gf:af (iA S w Zv hs)):
  Calls Tryz.prog 19 #[ad p n c,ad Zv m yX] w fun e w'=>∃q d,e=ab (ad q (n+m) d)∧gz (fun k=>w.heap.size≤k) w' q (l++hs.map fun s=>(false,s))∧an w w w':=by
 have auK:m≤1000000000:=by rw[hm];exact gf.out.1
 have bN:=ao hm;have aiO:=ao Zu;have nh:af ((l++hs.map fun s=>(false,s)).length≤jr):=by show _≤1000000000;rw[fH,jV,←hm,←hn];exact wv
 clear hm Zu;have pv:n≤1000000000:=by rw[hn];exact H.out.1
 have bd:=ao hn;have ei:=ao az;obtain⟨i0,hi,cW,dv,dx⟩:=info_parts Zt;have bL:=ao (And.intro hi (And.intro cW (And.intro dv dx)));have auL:ae ((n:Int)+(m:Int))=((n+m:Nat):Int):=by rw[gw _ (by omega)];omega
 clear hn az hi cW dv dx;go_enter Tryz.func19,Tryz.ntmps19;go_upto_region 2 with (first|(refine wpList_make_own _ rfl _ _ _ rfl w.heap.size fA i0 uV 11 Oy bL.out.1 bL.out.2.1 bL.out.2.2.1 .i64 .i64 ((n+m:Nat):Int) (n+m) (by rfl) (by rfl) rfl (by rw[bL.out.2.2.2];omega) (by unfold maxLen;omega) (aP _) ?_;intro fU ct uW));have pG:af (tG w (ag w.heap.size 0 0 (n+m)) [] fU):=⟨fun _=>False,[],ct,trivial,fun k h=>h.elim,fun k _ h=>h,⟨uW.os,uW.tape,uW.output,uW.size,fun k aw=>uW.block k aw (by simp)⟩⟩;clear ct uW;go_wp2_with fail
 go_loopw [5,18] (fun Kg i wr=>∃(j:Nat) (sv:ada) (aL:aeo),aL=wr∧j≤n∧sv=Kg∧i=I j∧af (tG w sv (l.take j) aL)) (fun _ i _=>n -(intOf i).toNat)
 case atStart=>exact⟨0,_,_,rfl,cO _,rfl,rfl,pG.out⟩
 case round=>
 obtain⟨j,sv,aL,rfl,b6,rfl,rfl,fq⟩:=hrel;by_cases bm:j<n
 ·have gD:j<l.length:=(by rw[←bd.out];exact bm);have fD:(j:Int)<(n:Int):=(by omega);obtain⟨⟨iB,⟨aD,os⟩⟩,aG⟩:=aq (l[j]);have oj:=ei.out (iB,⟨aD,os⟩) (by rw[←aG];exact k3 _);have eL:an w w aL:=(by obtain⟨_,_,_,_,_,_,h⟩:=fq.out;exact h);obtain⟨ea,eS,pl,cl,pp,cp,rfl,py,_,ff,aV,aT,c2,c3,cD,c5,cX,c7,dj,bB,di⟩:=H.out.at gD aG;obtain⟨fB,ks⟩:=aq os.len;have Kh:=ao ks;have uX:af (l.take (j+1)=l.take j++[(iB,⟨aD,os⟩)]):=(by show _=_;rw[AB gD,aG]);have uY:(l.take j).length=j:=(by rw[lz];omega);obtain⟨Ki,B9⟩:=aq (l.take j);rw[B9] at fq uX uY;have xF:=ao uY;obtain⟨nl,eU⟩:=aq aD.l.length;have r9:=ao eU;have Kj:af (∀Z,an w w Z→Calls Tryz.prog 22 #[.agg #[I aD.k,I aD.a.1,I aD.a.2,I aD.b.1,I aD.b.2,I aD.c.1,I aD.c.2,I aD.r,ad pl nl cl,ad pp fB cp]] Z fun e w'=>∃q d df f,e=ab (.agg #[I aD.k,I aD.a.1,I aD.a.2,I aD.b.1,I aD.b.2,I aD.c.1,I aD.c.2,I aD.r,ad q nl d,ad df fB f])∧dw (fun k=>Z.heap.size≤k) w' q d df f ⟨aD,os⟩∧an Z Z w'):=(by intro Z cN;rw[←eU,←ks];exact SR S aD os oj pl cl pp cp Z (ao (ff.below cN)));rw[eU] at bB;rw[ks] at di;have d0:=bD eL aV;have d1:=bD eL aT;have d2:=bD eL c2;have d3:=bD eL c3;have d4:=bD eL cD;have d5:=bD eL c5;have d6:=bD eL cX;have d7:=bD eL c7;have d8:=bD eL dj;have d9:=bD eL bB;have d10:=bD eL di;clear aV aT c2 c3 cD c5 cX c7 dj bB di ff aG B9 uY eU ks py oj;go_upto_region 5 with fail;have wx:=ao (fq.out.below (bh aL (ai (#[U iB,I aD.k,I aD.a.1,I aD.a.2,I aD.b.1,I aD.b.2,I aD.c.1,I aD.c.2,I aD.r,ad pl nl cl,ad pp fB cp]) fA)));have qP:af ((aL.alloc (ai (#[U iB,I aD.k,I aD.a.1,I aD.a.2,I aD.b.1,I aD.b.2,I aD.c.1,I aD.c.2,I aD.r,ad pl nl cl,ad pp fB cp]) fA)).heap[aL.heap.size]?=some (.cells #[U iB,I aD.k,I aD.a.1,I aD.a.2,I aD.b.1,I aD.b.2,I aD.c.1,I aD.c.2,I aD.r,ad pl nl cl,ad pp fB cp] fA)):=cR _ _;have dX:an w w (aL.alloc (ai (#[U iB,I aD.k,I aD.a.1,I aD.a.2,I aD.b.1,I aD.b.2,I aD.c.1,I aD.c.2,I aD.r,ad pl nl cl,ad pp fB cp]) fA)):=eL.trans ((bh _ _).mono eL.size);generalize aL.alloc (.cells #[U iB,I aD.k,I aD.a.1,I aD.a.2,I aD.b.1,I aD.b.2,I aD.c.1,I aD.c.2,I aD.r,ad pl nl cl,ad pp fB cp] fA)=gO at wx qP dX⊢;obtain⟨D,b4⟩:=aq aL.heap.size;rw[b4] at qP⊢;clear b4 d0 d1 d2 d3 d4 d5 d6 d7 d8 d9 d10 eL fq;obtain⟨d0,d1,d2,d3,d4,d5,d6,d7,d8,d9,d10⟩:=pE qP.out;have B':af (al gO.drew D (#[U iB,I aD.k,I aD.a.1,I aD.a.2,I aD.b.1,I aD.b.2,I aD.c.1,I aD.c.2,I aD.r,ad pl nl cl,ad pp fB cp]) fA):=qP.out;obtain⟨dH,c0,ee,y3,y4,j1,y6,h6,j2,k9,Hc⟩:=pE B'.out;have rz:=lt_of_heap qP.out;have Hd:af (an w w gO.drew):=dX.drew;have Zw:gO.drew.heap.size=gO.heap.size:=rfl;have aiP:=dX.size;have bT:=ao dX;obtain⟨xs,mE⟩:∃xs,gO.ownsRow w.heap.size fA 11 sv Ki.length xs:=(by obtain⟨_,xs,h,_⟩:=wx.out;exact⟨xs,h⟩);rw[xF.out] at mE;obtain⟨ps,cs,rfl⟩:=iw mE;have tH:=ao mE;clear mE dX
  go_region_law (first
   |(refine sr _ (by rfl) _ _ _ (by rfl) w.heap.size fA i0 uV 11 120 Oy bL.out.1 bL.out.2.1 bL.out.2.2.1 bL.out.2.2.2 rfl (by omega) (ad ps j cs) j _ (by rfl) ((fY (fY tH.out (Below.refl _ _).drew) dR).alloc _) (aj b'.heap.size 0) 1 1 [U iB,I aD.k,I aD.a.1,I aD.a.2,I aD.b.1,I aD.b.2,I aD.c.1,I aD.c.2,I aD.r,ad fh nl kO,ad kP fB f6] (by rfl) (by rfl) (jx (cs:= #[U iB,I aD.k,I aD.a.1,I aD.a.2,I aD.b.1,I aD.b.2,I aD.c.1,I aD.c.2,I aD.r,ad fh nl kO,ad kP fB f6]) (t:=fA) (fr:=(0,0)) (dL b' _)) (by simp[Value.oneCell']) (by omega) (by unfold maxLen;omega) (by omega) (by simp;omega) (b'.heap.size+1) (by simp) ?_;intro gg gG hV ct dn dF h5)
   |(rw[aW (by rfl)];go_simp;go_at_call 22;with_reducible refine (Kj.out _ Hd.out).mono ?_;rintro e b' ⟨fh,kO,kP,f6,rfl,Ca,dR⟩;have xG:=dR.size;rw[Zw] at xG;have gP:=bD dR dH;have dP:=bD dR c0;have bM:=bD dR ee;have fk:=bD dR y3;have h7:=bD dR y4;have hl:=bD dR j1;have He:=bD dR y6;have ni:=bD dR h6;have ss:=bD dR j2;have AD:=bD dR k9;have Ew:=bD dR Hc))
  all_goals
   have Zx:an gO.drew gO.drew b':=dR;have Cb:=ao (tG.push (d:=iB) (b:=aD) (s:=os) (q:=fh) (qp:=kP) (e:=kO) (f:=f6) (g:=gg) (n':=j+1) (c':=gG) (V:=[U iB,I aD.k,I aD.a.1,I aD.a.2,I aD.b.1,I aD.b.2,I aD.c.1,I aD.c.2,I aD.r,ad fh nl kO,ad kP fB f6]) (wx.out.below (Below.refl _ _).drew) Zx (bh b' (ai (#[U iB,I aD.k,I aD.a.1,I aD.a.2,I aD.b.1,I aD.b.2,I aD.c.1,I aD.c.2,I aD.r,ad fh nl kO,ad kP fB f6]) fA)) Ca dn (by rw[r9.out,Kh.out]) (fun ys h=>S2 (w:=gO.drew) (tH.out.drew) (by rw[xF.out] at h;exact h)) (by rw[xF.out];exact ct) rfl (dF.imp id (fun h=>by rw[h];exact lO _)));rw[←uX.out] at Cb;clear ct dn dF h5 Zx xG gP dP bM fk h7 hl He ni ss AD Ew d0 d1 d2 d3 d4 d5 d6 d7 d8 d9 d10 dH c0 ee y3 y4 j1 y6 h6 j2 k9 Hc rz aiP Zw;go_wp2_with fail;go_round<;>first|exact⟨j+1,_,_,rfl,by omega,rfl,by go_num,Cb.out⟩|(simp[intOf]<;>omega)
 ·have kM:j=n:=(by omega);subst kM;have dm:l.take j=l:=(by rw[bd.out];exact vI);have fF:=fq.out;rw[dm] at fF;have Sp:=ao fF;clear dm fF fq pG;go_wp2_with fail
  go_loopw [5,34] (fun Kg i wr=>∃(k:Nat) (Cc:ada) (d':aeo),d'=wr∧k≤m∧Cc=Kg∧i=I k∧af (tG w Cc (l++(hs.take k).map fun s=>(false,s)) d')) (fun _ i _=>m -(intOf i).toNat)
  case atStart=>exact⟨0,_,_,rfl,cO _,rfl,rfl,(by show tG _ _ _ _;rw[Gh,nF,List.append_nil];exact Sp.out)⟩
  case round=>
  obtain⟨k,Cc,d',rfl,aw,rfl,rfl,fq⟩:=hrel;by_cases gD:k<m
  ·have Kk:k<hs.length:=(by rw[←bN.out];exact gD);have fD:(k:Int)<(m:Int):=(by omega);obtain⟨⟨aD,os⟩,aG⟩:=aq (hs[k]);have oj:=aiO.out ⟨aD,os⟩ (by rw[←aG];exact k3 _);have eL:an w w d':=(by obtain⟨_,_,_,_,_,_,h⟩:=fq.out;exact h);obtain⟨ea,eS,pl,cl,pp,cp,rfl,py,_,ff,aV,aT,c2,c3,cD,c5,cX,c7,dj,bB⟩:=gf.out.at Kk aG;obtain⟨fB,ks⟩:=aq os.len;have Kh:=ao ks;have uX:af (l++(hs.take (k+1)).map (fun s=>(false,s))=(l++(hs.take k).map fun s=>(false,s))++[(false,⟨aD,os⟩)]):=(by show _=_;rw[AB Kk,aG,v7,List.append_assoc];rfl);have uY:(l++(hs.take k).map fun s=>(false,s)).length=j+k:=(by rw[fH,jV,lz,yL (by omega),bd.out]);obtain⟨Ki,B9⟩:=aq (l++(hs.take k).map fun s=>(false,s));rw[B9] at fq uX uY;have xF:=ao uY;obtain⟨nl,eU⟩:=aq aD.l.length;have r9:=ao eU;have Kj:af (∀Z,an w w Z→Calls Tryz.prog 22 #[.agg #[I aD.k,I aD.a.1,I aD.a.2,I aD.b.1,I aD.b.2,I aD.c.1,I aD.c.2,I aD.r,ad pl nl cl,ad pp fB cp]] Z fun e w'=>∃q d df f,e=ab (.agg #[I aD.k,I aD.a.1,I aD.a.2,I aD.b.1,I aD.b.2,I aD.c.1,I aD.c.2,I aD.r,ad q nl d,ad df fB f])∧dw (fun k=>Z.heap.size≤k) w' q d df f ⟨aD,os⟩∧an Z Z w'):=(by intro Z cN;rw[←eU,←ks];exact SR S aD os oj pl cl pp cp Z (ao (ff.below cN)));rw[eU] at dj;rw[ks] at bB;have d0:=bD eL aV;have d1:=bD eL aT;have d2:=bD eL c2;have d3:=bD eL c3;have d4:=bD eL cD;have d5:=bD eL c5;have d6:=bD eL cX;have d7:=bD eL c7;have d8:=bD eL dj;have d9:=bD eL bB;have auM:ae ((k:Int)+1)=(k:Int)+1:=gw _ (by omega);clear aV aT c2 c3 cD c5 cX c7 dj bB ff aG B9 uY eU ks py oj;have Ex:af (an w w (d'.alloc (ai (#[I aD.k,I aD.a.1,I aD.a.2,I aD.b.1,I aD.b.2,I aD.c.1,I aD.c.2,I aD.r,ad pl nl cl,ad pp fB cp]) cQ))):=eL.trans ((bh _ _).mono eL.size);have wx:=ao (fq.out.below (bh d' (ai (#[I aD.k,I aD.a.1,I aD.a.2,I aD.b.1,I aD.b.2,I aD.c.1,I aD.c.2,I aD.r,ad pl nl cl,ad pp fB cp]) cQ)));clear eL fq;go_wp2_with fail;with_reducible refine (Kj.out _ Ex.out).mono ?_
   rintro e b' ⟨fh,kO,kP,f6,rfl,Ca,dR⟩;have fE:af (an w w b'):=Ex.out.trans (dR.mono Ex.out.size);have GR:=ao Ca;have cE:=ao dR;obtain⟨xs,mE⟩:∃xs,(d'.alloc (ai (#[I aD.k,I aD.a.1,I aD.a.2,I aD.b.1,I aD.b.2,I aD.c.1,I aD.c.2,I aD.r,ad pl nl cl,ad pp fB cp]) cQ)).ownsRow w.heap.size fA 11 Cc Ki.length xs:=(by obtain⟨_,xs,h,_⟩:=wx.out;exact⟨xs,h⟩);rw[xF.out] at mE;obtain⟨ps,cs,rfl⟩:=iw mE;have tH:=ao mE;have k8:af ((b'.alloc (ai (#[U false,I aD.k,I aD.a.1,I aD.a.2,I aD.b.1,I aD.b.2,I aD.c.1,I aD.c.2,I aD.r,ad fh nl kO,ad kP fB f6]) fA)).ownsRow w.heap.size fA 11 (ad ps (j+k) cs) (j+k) xs):=(fY mE dR).alloc _;have aiQ:=fE.out.size;clear mE dR Ca d0 d1 d2 d3 d4 d5 d6 d7 d8 d9;go_wp2_with (at_builtin;refine GP _ rfl _ _ _ rfl w.heap.size fA i0 uV 11 120 Oy bL.out.1 bL.out.2.1 bL.out.2.2.1 bL.out.2.2.2 rfl (by omega) (ad ps (j+k) cs) (j+k) _ (by rfl) k8.out (aj b'.heap.size 0) 1 1 [U false,I aD.k,I aD.a.1,I aD.a.2,I aD.b.1,I aD.b.2,I aD.c.1,I aD.c.2,I aD.r,ad fh nl kO,ad kP fB f6] (by rfl) (by rfl) (jx (cs:= #[U false,I aD.k,I aD.a.1,I aD.a.2,I aD.b.1,I aD.b.2,I aD.c.1,I aD.c.2,I aD.r,ad fh nl kO,ad kP fB f6]) (t:=fA) (fr:=(0,0)) (dL b' _)) (by simp[Value.oneCell']) (by omega) (by unfold maxLen;omega) (by omega) (by simp;omega) (b'.heap.size+1) (by simp) ?_;intro gg gG hV ct dn dF h5)
   all_goals
    have Cb:=ao (tG.push (d:=false) (b:=aD) (s:=os) (q:=fh) (qp:=kP) (e:=kO) (f:=f6) (g:=gg) (n':=j+k+1) (c':=gG) (V:=[U false,I aD.k,I aD.a.1,I aD.a.2,I aD.b.1,I aD.b.2,I aD.c.1,I aD.c.2,I aD.r,ad fh nl kO,ad kP fB f6]) wx.out cE.out (bh b' (ai (#[U false,I aD.k,I aD.a.1,I aD.a.2,I aD.b.1,I aD.b.2,I aD.c.1,I aD.c.2,I aD.r,ad fh nl kO,ad kP fB f6]) fA)) GR.out dn (by rw[r9.out,Kh.out]) (fun ys h=>S2 tH.out (by rw[xF.out] at h;exact h)) (by rw[xF.out];exact ct) rfl (dF.imp id (fun h=>by rw[h];exact lO _)));rw[←uX.out] at Cb;clear ct dn dF h5;go_round<;>first|exact⟨k+1,_,_,rfl,by omega,rfl,by go_num,Cb.out⟩|(simp[intOf]<;>omega)
  ·obtain rfl:k=m:=(by omega);have wy:hs.take k=hs:=(by rw[bN.out];exact vI);have fF:=fq.out;rw[wy] at fF;have hlen:(l++hs.map fun s=>(false,s)).length=j+k:=(by rw[fH,jV,←bN.out,←bd.out]);obtain⟨q,d,oU,nN⟩:=gz.own (R:=fun k=>w.heap.size≤k) fF nh.out (fun k h=>h);have qQ:=ao nN;have gH:af (an w w d'):=(by obtain⟨_,_,_,_,_,_,h⟩:=fq.out;exact h);rw[hlen] at oU;subst oU;clear wy fF nN hlen fq;go_wp2_with fail;go_ret;exact⟨_,_,rfl,qQ.out,gH.out⟩
theorem Zy(S:afp)(l:List iH)(az:∀o∈l,Plain o.2)(p:Ja)(n c:Nat)(hn:n=l.length)(w:aeo)(H:af (gz S w p l)):
  Calls Tryz.prog 19 #[ad p n c,J 0] w fun e w'=>∃q d,e=ab (ad q n d)∧gz (fun k=>w.heap.size≤k) w' q l∧an w w w':=by
 have ay:n≤1000000000:=by rw[hn];exact H.out.1
 have h:=aiN S l az p n c hn [] (fun s hs=>by simp at hs) none 0 0 rfl (by omega) w H (ao (iA.nil S w none));rw[nF,List.append_nil,Gy] at h;exact h
end c1
namespace qe
open ga
open Go.Lib (decDigits)
structure D where
 k:Int
 n:Int
 on:Bool
 t:List UInt8
 x:List UInt8
 y:List UInt8
 u:List UInt8
 v:List UInt8
 bX:List Int
deriving DecidableEq
end qe
namespace gI
open Go.RowKit
def qR(w:aeo):Prop:=Lib.TabIs Tryz.prog w "internal/strconv.uint64pow10" .u64 Lib.pow10Tab
theorem Zz:Tryz.prog.globalNamed "internal/strconv.uint64pow10" =some 5:=by kernel_rfl
variable{w:aeo}
theorem qR.below{w':aeo}(h:qR w)(ay:an w w w'):qR w':=by
 unfold qR Lib.TabIs at h⊢;have bm:5<w.heap.size:=by unfold World.var? at h;simp only[Zz,Option.bind_some] at h;apply vJ;intro hn;have:w.heap[5]?=none:=(by rw[Array.getElem?_eq_none_iff];omega);rw[this] at h;simp at h
 exact var?_below ay Zz bm h
theorem qR.of_heap{w':aeo}(h:qR w)(aE:w'.heap=w.heap):qR w':=by unfold qR Lib.TabIs World.var? at h⊢;rw[aE];exact h
theorem qR.drewN{w:aeo}(h:qR w)(n:Nat):qR (w.drewN n):=h.of_heap rfl
theorem qR.drew{w:aeo}(h:qR w):qR w.drew:=h.of_heap rfl
theorem qR.alloc{w:aeo}(h:qR w)(o:Obj):qR (w.alloc o):=h.below ((Below.refl _ _).alloc (aP _) _)
theorem below_drewN{B:Nat}{a:aeo}(h:Below B a w)(n:Nat):Below B a (w.drewN n):=⟨h.os,h.tape,h.output,h.size,h.block⟩
theorem lD{a b:Ua}(h:a.data.toList=b.data.toList):a=b:=by cases a;cases b;simp only[ByteArray.mk.injEq];exact Array.toList_inj.1 h
theorem ch(s:Ua):s.data.toList.length=s.size:=by simp
theorem lX(s:Ua)(k:Nat):(s.extract k s.size).data.toList=s.data.toList.drop k:=by rw[AE];exact sY (by simp)
theorem kd(l:ar):∃S:Ua,S.data.toList=l:=⟨⟨l.toArray⟩,rfl⟩
end gI
