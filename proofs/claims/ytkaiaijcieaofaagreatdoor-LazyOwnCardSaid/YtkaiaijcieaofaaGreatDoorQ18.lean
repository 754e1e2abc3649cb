/- Lemmas. -/
import Derived.Test.YtkaiaijcieaofaaGreatDoorQ17
set_option linter.all false
set_option maxRecDepth 100000
set_option maxHeartbeats 12800000
namespace Go.Proofs.YtkaiaijcieaofaaGreatDoor
abbrev UA:=@List.getElem_append_right
abbrev UB:=@List.getLastD_eq_getLast?
abbrev zs:=@List.length_dropLast
namespace c1
open Go.RowKit ef
abbrev al1:Value:=.agg #[I 0,I 0,I 0,I 0,I 0,I 0,I 0,I 0,J 0,J 0]
def Lm(w:aeo)(o:Option dq)(e:Ending)(w':aeo):Prop:=Below w.heap.size w w'∧match o with
 |none=>e=ab (.tuple #[al1,U false])
 |some q=>∃(ql:Ja) (dl:Nat) (qp:Ja) (cf:Nat),e=ab (.tuple #[jc q.b (ad ql q.b.l.length dl) (ad qp q.p.len cf),U true])∧dw (fun k=>w.heap.size≤k) w' ql dl qp cf q
variable{w w0:aeo}{m P B:Nat}
theorem Lm.yes{w':aeo}{b:dK}{p:bf}{ql qp:Ja}{dl cf n:Nat}{o:Option dq}(a1:o=some ⟨b,p⟩)(hn:b.l.length=n)(hm:p.len=m)(ay:an w w w')(hs:dw (fun k=>w.heap.size≤k) w' ql dl qp cf ⟨b,p⟩):Lm w o (ab (.tuple #[.agg #[I b.k,I b.a.1,I b.a.2,I b.b.1,I b.b.2,I b.c.1,I b.c.2,I b.r,ad ql n dl,ad qp m cf],U true])) w':=by subst a1 hn hm;exact⟨ay,ql,dl,qp,cf,rfl,hs⟩
theorem abc(S:afp)(b:dK)(s:bf)(pl:Ja)(cl:Nat)(pp:Ja)(cp:Nat)(w:aeo)(t:gj)(fj:af (e5 t.eI.1∧e5 t.eI.2))(ff:af (dw S w pl cl pp cp ⟨b,s⟩)):
  Calls Tryz.prog 166 #[jc b (ad pl b.l.length cl) (ad pp s.len cp),rp t] w (Lm w (ri t ⟨b,s⟩)):=by
 obtain⟨v,aS⟩:=aq (okV ⟨b,s⟩);obtain⟨⟨bl,df⟩,aG⟩:=aq (pq t ⟨b,s⟩);obtain⟨v2,xk⟩:=aq (okV ⟨bl,df⟩);obtain⟨o,a1⟩:=aq (ri t ⟨b,s⟩);have bE:af ((if v=true∧v2=true then some (⟨bl,df⟩:dq) else none)=o):=by show _=_;rw[←a1];unfold ri;rw[aS,aG,xk]
 rw[a1];have cM:=ao aS;have vY:=ao xk;have bn:=ao aG;clear aS aG xk a1;obtain⟨k,⟨a7,a'⟩,⟨aX,a8⟩,⟨cx,bA⟩,r,l⟩:=b;obtain⟨bx,bO,cb,ex,cm⟩:=t;show Calls _ _ #[.agg #[I k,I a7,I a',I aX,I a8,I cx,I bA,I r,ad pl l.length cl,ad pp s.len cp],.agg #[U bx,U bO,I cb,I ex,I cm]] w _;go_enter Tryz.func166,Tryz.ntmps166;go_upto_region 1 with fail;obtain⟨W,cP⟩:=aq (((w.alloc (ai (#[I k,I a7,I a',I aX,I a8,I cx,I bA,I r,ad pl l.length cl,ad pp s.len cp]) cQ)).alloc (ai (#[U bx,U bO,I cb,I ex,I cm]) pA)).alloc (ai (#[I 0,I 0,I 0,I 0,I 0,I 0,I 0,I 0,J 0,J 0]) cQ));obtain⟨au,ax,aA,ay,_⟩:=DS cP;have H1:=ao au;have bp:=ao ax;have bW:=ao aA;have aH:=ao ay;rw[cP];clear cP au ax aA ay;obtain⟨g0,g1,g2,g3,g4,g5,g6,g7,g8,g9⟩:=dQ H1.out;go_wp2_with fail;with_reducible refine (JE S ⟨k,(a7,a'),(aX,a8),(cx,bA),r,l⟩ s pl cl pp cp _ (ao (ff.out.below aH.out)) v cM).mono ?_
 rintro e b5 ⟨rfl,ay⟩;have abd:=ao (ba H1.out ay);have abe:=ao (ba bp.out ay);have HS:=ao (ba bW.out ay);have lg:af (an w w b5):=ao (aH.out.trans (ay.mono aH.out.size));clear H1 bp bW aH ay g0 g1 g2 g3 g4 g5 g6 g7 g8 g9;obtain⟨g0,g1,g2,g3,g4,g5,g6,g7,g8,g9⟩:=dQ abd.out;obtain⟨t0,t1,t2,t3,t4⟩:=uF abe.out;obtain⟨du,dI,h4,qC,qD,qE,qF,tq,xv,xw⟩:=dQ HS.out;have fr:=na HS.out;have n3:=lt_of_heap HS.out;have ji:(v&&v2)=false→af (o=none):=by intro h;show _=_;rw[←bE.out,aN];rintro⟨au,ax⟩;rw[au,ax] at h;cases h
 cases v with
 |false=>
  have bd:=ji rfl;go_wp2_with fail;change bodyPost _ _ _ _ _ (kp b5 (w.heap.size+1+1) (I 0) (I 0) (I 0) (I 0) (I 0) (I 0) (I 0) (I 0) (J 0) (J 0));have hF:=Ap (I 0) (I 0) (I 0) (I 0) (I 0) (I 0) (I 0) (I 0) (J 0) (J 0) HS.out;have bz:=Aq (I 0) (I 0) (I 0) (I 0) (I 0) (I 0) (I 0) (I 0) (J 0) (J 0) lg.out (show w.heap.size≤w.heap.size+1+1 by omega);generalize kp b5 (w.heap.size+1+1) (I 0) (I 0) (I 0) (I 0) (I 0) (I 0) (I 0) (I 0) (J 0) (J 0)=cZ at hF bz⊢;exact cL (mw rfl _ _ (w.heap.size+1+1) _ _ _ _ rfl hF pF rfl (by kernel_rfl)) rfl ⟨bz,by rw[bd.out];exact rfl⟩
 |true=>
  go_upto_region 3 with fail;go_wp2_with fail;with_reducible refine (al0 S ⟨k,(a7,a'),(aX,a8),(cx,bA),r,l⟩ s cM.out pl cl pp cp _ ⟨bx,bO,cb,(ex,cm)⟩ fj (ao (ff.out.below lg.out))).mono ?_
  rintro e eE ⟨ql,dl,qp,cf,he,k',ck⟩;rw[bn.out] at he k';simp only at he k';subst he;have gu:=ao k';obtain⟨fT,h3⟩:=aq bl.l.length;obtain⟨m2,jH⟩:=aq df.len;have lb:=ao h3;have eo:=ao jH;have abf:=ao (ba HS.out ck);have UC:af (an w w eE):=ao (lg.out.trans (ck.mono lg.out.size));have oZ:=ao lg.out.size;have avl:=ao ck.size;rw[h3,jH];have n0:=n3;clear k' ck h3 jH g0 g1 g2 g3 g4 g5 g6 g7 g8 g9 t0 t1 t2 t3 t4 du dI h4 qC qD qE qF tq xv xw fr n3 abd abe HS;go_upto_region 4 with fail;have ht:af ((eE.alloc (ai (#[I bl.k,I bl.a.1,I bl.a.2,I bl.b.1,I bl.b.2,I bl.c.1,I bl.c.2,I bl.r,ad ql fT dl,ad qp m2 cf]) cQ)).heap[eE.heap.size]?=some (.cells #[I bl.k,I bl.a.1,I bl.a.2,I bl.b.1,I bl.b.2,I bl.c.1,I bl.c.2,I bl.r,ad ql fT dl,ad qp m2 cf] cQ)):=cR _ _;have eF:=bh eE (ai (#[I bl.k,I bl.a.1,I bl.a.2,I bl.b.1,I bl.b.2,I bl.c.1,I bl.c.2,I bl.r,ad ql fT dl,ad qp m2 cf]) cQ);have jA:=ao (gu.out.below eF);have UD:=ao (ba abf.out eF);have Hd:af (an w w _):=ao (UC.out.trans (eF.mono UC.out.size));clear gu abf UC eF;generalize eE.alloc (.cells #[I bl.k,I bl.a.1,I bl.a.2,I bl.b.1,I bl.b.2,I bl.c.1,I bl.c.2,I bl.r,ad ql fT dl,ad qp m2 cf] cQ)=dZ at ht jA UD Hd⊢;obtain⟨g0,g1,g2,g3,g4,g5,g6,g7,g8,g9⟩:=dQ ht.out;go_wp2_with fail;rw[←lb.out,←eo.out];with_reducible refine (JE _ bl df ql dl qp cf _ jA v2 vY).mono ?_
  rintro e fU ⟨rfl,k6⟩;rw[lb.out,eo.out];have al2:=ao (ba ht.out k6);have zc:=ao (jA.out.below k6);have Ln:=ao (ba UD.out k6);have vn:af (an w w fU):=ao (Hd.out.trans (k6.mono Hd.out.size));clear ht jA UD Hd k6 g0 g1 g2 g3 g4 g5 g6 g7 g8 g9;obtain⟨g0,g1,g2,g3,g4,g5,g6,g7,g8,g9⟩:=dQ al2.out;obtain⟨du,dI,h4,qC,qD,qE,qF,tq,xv,xw⟩:=dQ Ln.out;have fr:=na Ln.out;have n3:=lt_of_heap Ln.out;cases v2 with
  |false=>
   have bd:=ji rfl;go_wp2_with fail;change bodyPost _ _ _ _ _ (kp fU (w.heap.size+1+1) (I 0) (I 0) (I 0) (I 0) (I 0) (I 0) (I 0) (I 0) (J 0) (J 0));have hF:=Ap (I 0) (I 0) (I 0) (I 0) (I 0) (I 0) (I 0) (I 0) (J 0) (J 0) Ln.out;have bz:=Aq (I 0) (I 0) (I 0) (I 0) (I 0) (I 0) (I 0) (I 0) (J 0) (J 0) vn.out (show w.heap.size≤w.heap.size+1+1 by omega);generalize kp fU (w.heap.size+1+1) (I 0) (I 0) (I 0) (I 0) (I 0) (I 0) (I 0) (I 0) (J 0) (J 0)=cZ at hF bz⊢;exact cL (mw rfl _ _ (w.heap.size+1+1) _ _ _ _ rfl hF pF rfl (by kernel_rfl)) rfl ⟨bz,by rw[bd.out];exact rfl⟩
  |true=>
   have bd:af (o=some ⟨bl,df⟩):=(by have h:=bE.out;simp at h;exact h.symm);go_wp2_with fail;change bodyPost _ _ _ _ _ (kp fU (w.heap.size+1+1) (I bl.k) (I bl.a.1) (I bl.a.2) (I bl.b.1) (I bl.b.2) (I bl.c.1) (I bl.c.2) (I bl.r) (ad ql fT dl) (ad qp m2 cf));have hF:=Ap (I bl.k) (I bl.a.1) (I bl.a.2) (I bl.b.1) (I bl.b.2) (I bl.c.1) (I bl.c.2) (I bl.r) (ad ql fT dl) (ad qp m2 cf) Ln.out;have bz:=Aq (I bl.k) (I bl.a.1) (I bl.a.2) (I bl.b.1) (I bl.b.2) (I bl.c.1) (I bl.c.2) (I bl.r) (ad ql fT dl) (ad qp m2 cf) vn.out (show w.heap.size≤w.heap.size+1+1 by omega);have wH:w.heap.size+1+1<b5.heap.size:=n0;have abg:=zc.out.keep (Sg (w:=fU) (g:=w.heap.size+1+1) (S:=fun k=>b5.heap.size≤k) (I bl.k) (I bl.a.1) (I bl.a.2) (I bl.b.1) (I bl.b.2) (I bl.c.1) (I bl.c.2) (I bl.r) (ad ql fT dl) (ad qp m2 cf) (by omega));have al3:=oZ.out;have hS:=abg.mono (R:=fun k=>w.heap.size≤k) fun k _ h=>cd al3 h;generalize kp fU (w.heap.size+1+1) (I bl.k) (I bl.a.1) (I bl.a.2) (I bl.b.1) (I bl.b.2) (I bl.c.1) (I bl.c.2) (I bl.r) (ad ql fT dl) (ad qp m2 cf)=cZ at hF bz abg hS⊢;have fF:=Lm.yes bd.out lb.out eo.out bz hS;refine cL (mw rfl _ _ (w.heap.size+1+1) _ _ _ _ rfl hF pF rfl (by kernel_rfl)) rfl ?_;refine Eq.mp ?_ fF;refine fS (fun v=>Lm w o (ab (.tuple #[_,v])) cZ) ?_;rfl
variable{p:cy}
theorem al4{d:Bool}{s:dq}{t:gj}(h:ri t s=none):jU p d s t=.error 5:=by unfold jU;rw[h]
theorem al5{d:Bool}{s q:dq}{t:gj}(h:ri t s=some q):jU p d s t=iv p d q:=by unfold jU;rw[h]
def al6(R:afp)(bk:aeo)(k:Nat):Prop:=R k∨bk.heap.size≤k
theorem UE(w0:aeo)(P:Nat)(R:afp)(m:Nat)(L:nm)(fu:Int)(cv ov:ada)(cx ox:aev)(p:cy)(d:Bool)(b:dK)(s:bf)(pl:Ja)(cl:Nat)(pp:Ja)(cp:Nat)(t:gj)(bk w:aeo)(H:af (dV w0 P R m L fu cv ov cx ox p bk))(dY:af (an bk bk w))(bH:af (dw R bk pl cl pp cp ⟨b,s⟩))(fj:af (e5 t.eI.1∧e5 t.eI.2))(nN:p.top.eg.length≤1000000)(Fe:0≤p.made∧p.made≤1000000)(zq:p.levels.length≤1000)(res:Except Nat cy)(c6:af (jU p d ⟨b,s⟩ t=res)):
  Calls Tryz.prog 128 #[ah P 0,U d,jc b (ad pl b.l.length cl) (ad pp s.len cp),rp t] w fun e w'=>vm w0 P R (al6 R bk) w res e w':=by
 obtain⟨o,a1⟩:=aq (ri t ⟨b,s⟩);have bE:=ao a1;clear a1;have tW:=ao (fun X (b2:an bk bk X)=>abc R b s pl cl pp cp X t fj (bH.out.below b2));rw[bE.out] at tW;have ay:jc b (ad pl b.l.length cl) (ad pp s.len cp)=.agg #[I b.k,I b.a.1,I b.a.2,I b.b.1,I b.b.2,I b.c.1,I b.c.2,I b.r,ad pl b.l.length cl,ad pp s.len cp]:=rfl;have bc:rp t=.agg #[U t.bx,U t.bO,I t.q,I t.eI.1,I t.eI.2]:=rfl;rw[ay,bc] at tW⊢;clear ay bc fj;have aQ:af (jU p d ⟨b,s⟩ t=res):=c6;clear c6;generalize mc:b.k=k at tW⊢;generalize l0:b.a.1=a7 at tW⊢;generalize D3:b.a.2=a' at tW⊢;generalize qk:b.b.1=aX at tW⊢;generalize OY:b.b.2=a8 at tW⊢;generalize DT:b.c.1=dA at tW⊢;generalize al7:b.c.2=dB at tW⊢;generalize al8:b.r=r at tW⊢;generalize ja:b.l.length=nl at tW⊢;generalize xi:s.len=eA at tW⊢;clear mc l0 D3 qk OY DT al7 al8 ja xi;obtain⟨bx,bO,cb,ex,cm⟩:=t;go_enter Tryz.func128,Tryz.ntmps128;go_upto_region 1 with fail;obtain⟨W,cP⟩:=aq ((w.alloc (ai (#[I k,I a7,I a',I aX,I a8,I dA,I dB,I r,ad pl nl cl,ad pp eA cp]) cQ)).alloc (ai (#[U bx,U bO,I cb,I ex,I cm]) pA));have aH:af (an w w W):=by show Below _ _ _;rw[←cP];exact (bh _ _).trans ((bh _ _).mono (bh _ _).size)
 have b9:af (al W w.heap.size (#[I k,I a7,I a',I aX,I a8,I dA,I dB,I r,ad pl nl cl,ad pp eA cp]) cQ):=by show _=_;rw[←cP];exact ba (cR w _) (bh _ _)
 have dr:af (al W (w.heap.size+1) (#[U bx,U bO,I cb,I ex,I cm]) pA):=by show _=_;rw[←cP,show w.heap.size+1=(w.alloc (ai (#[I k,I a7,I a',I aX,I a8,I dA,I dB,I r,ad pl nl cl,ad pp eA cp]) cQ)).heap.size from (l' _).symm];exact cR _ _
 rw[cP];clear cP;have gH:af (an bk bk W):=dY.out.trans (aH.out.mono dY.out.size);obtain⟨s0,s1,s2,kV,l1,l2,l3,l4,l5,l6⟩:=dQ b9.out;obtain⟨t0,t1,t2,t3,t4⟩:=uF dr.out;go_upto_region 1 with fail;go_wp2_with fail;with_reducible refine (tW.out _ gH.out).mono ?_
 intro e b5 hA;obtain⟨cj,hA⟩:=hA;have cG:af (an bk bk b5):=gH.out.trans (cj.mono gH.out.size);have cE:af (an w w b5):=aH.out.trans (cj.mono aH.out.size);have CP:af (bk.heap.size≤W.heap.size):=gH.out.size;clear tW cj aH gH s0 s1 s2 kV l1 l2 l3 l4 l5 l6 t0 t1 t2 t3 t4 b9 dr;cases o with
 |none=>
  obtain rfl:=hA;have aJ:af (.error 5=res):=(by show _=_;rw[←aQ.out];exact (al4 bE.out).symm);go_wp2_with fail;go_ret;rw[←aJ.out];exact⟨H.out.aM.trans ((cG.out.alloc (by exact cG.out.size) _).mono H.out.aM.size),aK.c4 (cE.out.alloc cE.out.size _),rfl⟩
 |some q=>
  obtain⟨⟨bM,⟨a2,a3⟩,⟨bl,ll⟩,⟨c2,c3⟩,h4,gE⟩,df⟩:=q;obtain⟨ql,dl,qp,cf,rfl,hs⟩:=hA;have aJ:af (iv p d ⟨⟨bM,(a2,a3),(bl,ll),(c2,c3),h4,gE⟩,df⟩=res):=(by show _=_;rw[←aQ.out];exact (al5 bE.out).symm);have bn:=ao hs;clear hs aQ;go_upto_region 2 with fail;have dy:af (an b5 b5 (b5.alloc (ai (#[I bM,I a2,I a3,I bl,I ll,I c2,I c3,I h4,ad ql gE.length dl,ad qp df.len cf]) cQ))):=bh _ _;have lb:af ((b5.alloc (ai (#[I bM,I a2,I a3,I bl,I ll,I c2,I c3,I h4,ad ql gE.length dl,ad qp df.len cf]) cQ)).heap[b5.heap.size]?=some (.cells #[I bM,I a2,I a3,I bl,I ll,I c2,I c3,I h4,ad ql gE.length dl,ad qp df.len cf] cQ)):=cR _ _;generalize b5.alloc (.cells #[I bM,I a2,I a3,I bl,I ll,I c2,I c3,I h4,ad ql gE.length dl,ad qp df.len cf] cQ)=X at dy lb⊢;have eW:af (an bk bk X):=cG.out.trans (dy.out.mono cG.out.size);have al9:af (an w w X):=cE.out.trans (dy.out.mono cE.out.size);have bw:=ao (H.out.fresh eW.out);have ama:af (dw (fun k=>R k∨(bk.heap.size≤k∧k<X.heap.size)) X ql dl qp cf ⟨⟨bM,(a2,a3),(bl,ll),(c2,c3),h4,gE⟩,df⟩):=(bn.out.below dy.out).lt.mono fun k _ aw=>.inr ⟨cd CP.out aw.1,aw.2⟩;obtain⟨D,b4⟩:=aq b5.heap.size;rw[b4] at lb⊢;clear b4;obtain⟨s0,s1,s2,kV,l1,l2,l3,l4,l5,l6⟩:=dQ lb.out;go_wp2_with fail;with_reducible refine (Pm w0 P _ m L fu cv ov cx ox p d ⟨bM,(a2,a3),(bl,ll),(c2,c3),h4,gE⟩ df ql dl qp cf X bw ama nN Fe zq res aJ).mono ?_
  intro e b' c6;obtain⟨v6,rfl⟩:=c6.res.ret;clear s0 s1 s2 kV l1 l2 l3 l4 l5 l6;go_wp2_with fail;go_ret;exact vm.wide c6 al9.out (fun k aw az=>aw.elim .inl fun h=>.inr ⟨h,az⟩) (fun k aw=>.inl aw)
def q0(R:afp)(B:Nat)(X:aeo)(k:Nat):Prop:=R k∨(B≤k∧∃cs,al X k cs de)
variable{L:nm}{fu:Int}{cv ov:ada}{cx ox xs ys:aev}
theorem q0.ne{R:afp}{X:aeo}(h:dV w0 P R m L fu cv ov cx ox p X){k:Nat}(aw:q0 R w0.heap.size X k):(w0.heap.size≤k∧k<X.heap.size)∧Lf P m L cv ov k:=by
 rcases aw with aw|⟨bz,cs,aw⟩
 ·exact⟨h.h0 k aw,h.hv k aw⟩
 ·exact⟨⟨bz,lt_of_heap aw⟩,h.alz aw (by decide) (by decide) (by decide) (by decide) (by decide)⟩
theorem amb{R:afp}{g n cap:Nat}{l:List b7}(h:w.ownsRow B de 2 (ag g 0 n cap) n (nK l))(hn:n=l.length)(ay:l.length≤jr)(hR:R g):gV R w (some (aj g 0)) l:=by have au:=(gV.own (R:=fun k=>k=g∨B≤k) h hn ay (fun k aw=>.inr aw)).1;refine⟨ay,fun az=>?_⟩;obtain⟨b,o,cs,e,_,aE,aB⟩:=au.2 az;injection e with e;injection e with aY a6;subst aY;exact⟨g,o,cs,by rw[←a6],hR,aE,aB⟩
theorem rK.all{R:afp}{X:aeo}{cs:List (List b7)}(h:rK R B X cv cs xs)(ay:∀c∈cs,c.length≤jr):∀i (hi:i<cs.length),∃q c,xs[i]?=some (.slice q cs[i].length c)∧cs[i].length≤c∧gV (q0 R B X) X q cs[i]:=by
 intro i hi;by_cases az:i+1<cs.length
 ·obtain⟨q,c,au,ax,aA⟩:=h.init i az;exact⟨q,c,au,ax,aA.mono fun k _ aw=>.inl aw⟩
 ·obtain⟨g,c,au,ax,aA⟩:=h.last i hi (by omega);obtain⟨bz,cur,gq⟩:=sG ax;have bb:=gV.own (R:=fun k=>B≤k) ax rfl (ay _ (k3 hi)) (fun k aw=>aw);exact⟨_,c,au,bb.2,amb ax rfl (ay _ (k3 hi)) (.inr ⟨bz,cur,gq⟩)⟩
theorem amc{g:Nat}{x y:ada}(B:Nat)(bz:B≤g)(h:al w g (#[x,y]) de):w.ownsRow B de 2 (ag g 0 1 1) 1 [x,y]:=⟨rfl,.inr ⟨g,1,_,rfl,bz,h,aP _,by decide,rfl,rfl⟩⟩
theorem dV.amd{w0:aeo}{P:Nat}{R:afp}{m:Nat}{L:nm}{fu:Int}{cv ov:ada}{cx ox:aev}{p:cy}{X Y bZ:aeo}{n gg g c:Nat}{tx ty:Int}
  (h:dV w0 P R m L fu cv ov cx ox p X) (hn:p.bQ.length=n) (pv:∀c∈p.bQ,c.length≤jr) (jy:an X X Y) (avm:X.heap.size≤g) (HT:al Y g (#[I tx,I ty]) de)
  (aI:Y.grownBy bZ cv.ownBlock) (ct:bZ.ownsRow w0.heap.size e0 1 (ag gg 0 (n+1) c) (n+1) (cx++[ad (some (aj g 0)) 1 1])) (hw:some gg=cv.ownBlock∨Y.heap.size≤gg):
  dV w0 P (q0 R w0.heap.size X) m L fu (ag gg 0 (n+1) c) ov (cx++[ad (some (aj g 0)) 1 1]) ox {p with bQ:=p.bQ++[[(tx,ty)]]} (bZ.setCell (aj P 20) (ag gg 0 (n+1) c)):=by
 have HR:=h.aM.size;obtain⟨Ek,cur,gq⟩:=sG ct;have e7:=h.below jy;have hne:∀k cs t dk,Y.heap[k]?=some (.cells cs t dk)→t≠e0→cv.ownBlock≠some k∧k≠gg:=by intro k cs t dk aw bc;have au:=lH e7.bg.own aw (eN bc);exact⟨au,g' ((aI.block k (lt_of_heap aw) (eN au)).trans aw) gq bc⟩
 have wv:∀k es c,Y.heap[k]?=some (.map es c)→cv.ownBlock≠some k∧k≠gg:=by intro k es c aw;have au:=Pc e7.bg.own aw;exact⟨au,(pO gq ((aI.block k (lt_of_heap aw) (eN au)).trans aw)).symm⟩
 have Pl:aK (fun k=>cv.ownBlock≠some k∧k≠P) Y (bZ.setCell (aj P 20) (ag gg 0 (n+1) c)):=(aK.grown aI fun k e aw=>aw.1 e).trans (aK.set (a:=⟨P,20,none⟩) (fun aw=>aw.2 rfl) _);have hK:aK (fun k=>cv.ownBlock≠some k∧k≠P) X (bZ.setCell (aj P 20) (ag gg 0 (n+1) c)):=(aK.c4 jy).trans Pl;have zp:∀k cs t dk,X.heap[k]?=some (.cells cs t dk)→t≠e0→t≠oz→cv.ownBlock≠some k∧k≠P:=fun k cs t dk aw au ax=>⟨lH h.bg.own aw (eN au),g' aw h.pl ax⟩;have Pp:=e7.pl;have ame:=hne _ _ _ _ Pp (by decide);have mR:al bZ P (Fc p fu m L cv) oz:=(aI.block P (lt_of_heap Pp) (eN ame.1)).trans Pp;have lU:∀k,q0 R w0.heap.size X k→cv.ownBlock≠some k∧k≠P:=fun k aw=>⟨(q0.ne h aw).2.CK,(q0.ne h aw).2.x2⟩;have amf:¬q0 R w0.heap.size X g:=fun aw=>by have:=(q0.ne h aw).1.2;omega
 have amg:∀k,some k=some gg→¬q0 R w0.heap.size X k:=by
  intro k e aw;injection e with e;subst e;rcases hw with e|e
  ·exact (q0.ne h aw).2.CK e.symm
  ·have:=(q0.ne h aw).1.2;have:=jy.size;omega
 have hS:∀k,q0 R w0.heap.size X k→cv.ownBlock≠some k∧k≠P:=lU;have hR:∀k,R k→cv.ownBlock≠some k∧k≠P:=fun k aw=>lU k (.inl aw);obtain⟨es,x3,kA⟩:=h.mp.map;have me:∀{e:aai} {aR n:Nat} {v:ada} {xs:aev},X.ownsRow w0.heap.size e aR v n xs→e≠e0→e≠oz→∀k,v.ownBlock=some k→cv.ownBlock≠some k∧k≠P:=by intro e aR n v xs hr au ax k aw;obtain⟨_,_,c,aB⟩:=ky hr aw;exact zp _ _ _ _ aB au ax
 exact {
  pl:=by have:=dt (k:=P) (i:=20) (ag gg 0 (n+1) c) mR;exact this
  mp:=(h.mp.mono fun k aw=>.inl aw).keep hK ⟨Pc h.bg.own kA,(pO h.pl kA).symm⟩ hS
  kz:=h.kz
  er:=jk h.er hK (me h.er (by decide) (by decide))
  ia:=(h.ia.mono fun k aw=>.inl aw).keep hK hS fun k hm=>by obtain⟨_,_,c,aB⟩:=h.ia.wL k hm;exact zp _ _ _ _ aB (by decide) (by decide)
  oB:=h.oB
  oC:=h.oC
  bg:=by
   have hlen:(p.bQ++[[(tx,ty)]]).length=n+1:=(by rw[fH,hn];rfl);have amh:(bZ.setCell (aj P 20) (ag gg 0 (n+1) c)).heap[g]?=some (.cells #[I tx,I ty] de):=Pl.get ⟨(hne _ _ _ _ HT (by decide)).1,g' HT Pp (by decide)⟩ HT;have abh:cx.length=n:=(by rw[h.bg.own.1,hn,Nat.mul_one]);refine⟨?_,fun i hi=>?_,fun i hi he=>?_⟩
   ·show World.ownsRow _ _ _ _ _ (p.bQ++[[(tx,ty)]]).length _;rw[hlen];exact N2 ct (So _ P 20 _) (.inr (lH ct mR (by decide)))
   ·have oq:i<p.bQ.length:=(by have:i+1<(p.bQ++[[(tx,ty)]]).length:=hi;omega);obtain⟨q,d,au,ax,aA⟩:=h.bg.all pv i oq;have e:(p.bQ++[[(tx,ty)]])[i]'(by omega)=p.bQ[i]:=Ez oq;show ∃q c,_=some (Value.slice q ((p.bQ++[[(tx,ty)]])[i]'(by omega)).length c)∧((p.bQ++[[(tx,ty)]])[i]'(by omega)).length≤c∧gV _ _ q ((p.bQ++[[(tx,ty)]])[i]'(by omega));rw[e,Ey (by omega)];exact⟨q,d,au,ax,aA.keep (hK.mono fun k _ aw=>lU k aw)⟩
   ·have UF:i=n:=(by have:i+1=(p.bQ++[[(tx,ty)]]).length:=he;omega);subst UF;have e:(p.bQ++[[(tx,ty)]])[i]'(by omega)=[(tx,ty)]:=(by rw[UA (by omega)];simp[hn]);show ∃g c,_=some (Value.slice (some (aj g 0)) ((p.bQ++[[(tx,ty)]])[i]'(by omega)).length c)∧World.ownsRow _ _ _ _ (ag g 0 (((p.bQ++[[(tx,ty)]])[i]'(by omega)).length) c) ((p.bQ++[[(tx,ty)]])[i]'(by omega)).length (nK ((p.bQ++[[(tx,ty)]])[i]'(by omega)))∧_;rw[e,xz (by omega),abh,T6];exact⟨g,1,rfl,amc _ (by omega) amh,amf⟩
  aD:=jk h.aD hK (me h.aD (by decide) (by decide))
  lI:=(h.lI.mono fun k _ aw=>.inl aw).keep (hK.mono fun k _ aw=>lU k aw)
  ej:=jk h.ej hK (me h.ej (by decide) (by decide))
  oD:=h.oD
  h0:=fun k aw=>⟨(q0.ne h aw).1.1,hN (q0.ne h aw).1.2 hK.size⟩
  hv:=fun k aw=>{(q0.ne h aw).2 with CK:=fun e=>amg k (by simpa[Value.ownBlock] using e.symm) aw}
  l9:=h.l9
  mK:=h.mK
  aM:=h.aM.trans (hK.below _ h.aM.size fun k aw=>⟨fun e=>by have:=(ky h.bg.own e).1;omega,by have:=h.l9;omega⟩)}
theorem ami{K n c i:Nat}{e:aai}{u:ada}(h:w.ownsRow B e 1 (ag K 0 n c) n xs)(hi:i<n):(w.setCell (aj K i) u).ownsRow B e 1 (ag K 0 n c) n (xs.set i u):=by
 refine⟨by rw[OA];exact h.1,?_⟩;rcases h.2 with ⟨aS,_⟩|⟨k,cap,cur,aw,bz,aE,au,ax,aA,bb⟩
 ·cases aS
 ·injection aw with eM _ jE;injection eM with eM;injection eM with eM;subst eM jE;refine .inr ⟨K,c,cur.setIfInBounds i u,rfl,bz,dt u aE,au,ax,by rw[xg];exact aA,?_⟩;rw[S4,S5,bb]
theorem dV.amj{w0:aeo}{P:Nat}{R:afp}{m:Nat}{L:nm}{fu:Int}{cv ov:ada}{cx ox:aev}{p:cy}{X Y bZ:aeo}{n K Pq g cg gg c2 len:Nat}{c:List b7}{tx ty:Int}
  (h:dV w0 P R m L fu cv ov cx ox p X) (hn:p.bQ.length=n+1) (aB:p.bQ[n]?=some c) (kC:cv=ad (some (aj K 0)) (n+1) Pq) (hlast:cx[n]?=some (ad (some (aj g 0)) len cg)) (hlen:c.length=len) (jy:an X X Y)
  (aI:Y.grownBy bZ (some g)) (ct:bZ.ownsRow w0.heap.size de 2 (ag gg 0 (len+1) c2) (len+1) (nK c++[I tx,I ty])) (hw:some gg=some g∨Y.heap.size≤gg) (Lo:¬R g) (avn:w0.heap.size≤g) (HU:∃cur,al X g cur de):
  dV w0 P R m L fu cv ov (cx.set n (ag gg 0 (len+1) c2)) ox {p with bQ:=mr p.bQ (tx,ty)} (bZ.setCell (aj K n) (ag gg 0 (len+1) c2)):=by
 subst kC;have e7:=h.below jy;obtain⟨Ek,cur,gq⟩:=sG ct;obtain⟨hi,rfl⟩:=List.getElem?_eq_some_iff.1 aB;obtain⟨avo,HU⟩:=HU;have pQ:=h.bg.own;rw[hn] at pQ;obtain⟨avp,amk,HV⟩:=sG pQ
 have Lp:¬R gg:=by
  rcases hw with e|e
  ·injection e with e;rw[e];exact Lo
  ·intro aw;have:=(h.h0 gg aw).2;have:=jy.size;omega
 have zt:aK (fun k=>k≠g∧k≠K) X (bZ.setCell (aj K n) (ag gg 0 (len+1) c2)):=((aK.c4 jy).trans (aK.grown aI fun k e aw=>aw.1 (by injection e with e;exact e.symm))).trans (aK.set (a:=⟨K,n,none⟩) (fun aw=>aw.2 rfl) _);have zp:∀k cs t dk,X.heap[k]?=some (.cells cs t dk)→t≠e0→t≠de→k≠g∧k≠K:=fun k cs t dk aw au ax=>⟨g' aw HU ax,g' aw HV au⟩;have UG:∃dD,al bZ K dD e0:=by have hne:K≠g:=g' HV HU (by decide);exact⟨amk,(aI.block K (lt_of_heap (ba HV jy)) (fun e=>hne (by injection e))).trans (ba HV jy)⟩
 obtain⟨avq,UG⟩:=UG;have Pr:∀k,R k→k≠g∧k≠K:=fun k aw=>⟨fun e=>Lo (e ▸ aw),fun e=>(h.hv k aw).CK (by rw[e];rfl)⟩;have abh:cx.length=n+1:=by rw[pQ.1,Nat.mul_one]
 have ER:mr p.bQ (tx,ty)=p.bQ.dropLast++[p.bQ[n] ++[(tx,ty)]]:=by
  unfold mr
  congr 2
  rw[UB,Um,hn];simp only[Pb];rw[iW hi];rfl
 have lV:(mr p.bQ (tx,ty)).length=n+1:=by rw[ER,fH,zs,hn];rfl
 have hle:(mr p.bQ (tx,ty))[n]?=some (p.bQ[n] ++[(tx,ty)]):=by rw[ER,xz (by rw[zs];omega),zs,hn];simp
 obtain⟨es,x3,kA⟩:=h.mp.map;have me:∀{e:aai} {aR n:Nat} {v:ada} {xs:aev},X.ownsRow w0.heap.size e aR v n xs→e≠e0→e≠de→∀k,v.ownBlock=some k→k≠g∧k≠K:=by intro e aR n v xs hr au ax k aw;obtain⟨_,_,c,aB⟩:=ky hr aw;exact zp _ _ _ _ aB au ax
 exact {
  pl:=zt.get (zp _ _ _ _ h.pl (by decide) (by decide)) h.pl
  mp:=h.mp.keep zt ⟨(pO HU kA).symm,(pO HV kA).symm⟩ Pr
  kz:=h.kz
  er:=jk h.er zt (me h.er (by decide) (by decide))
  ia:=h.ia.keep zt Pr fun k hm=>by obtain⟨_,_,c,aB⟩:=h.ia.wL k hm;exact zp _ _ _ _ aB (by decide) (by decide)
  oB:=h.oB
  oC:=h.oC
  bg:=by
   refine⟨?_,fun i oq=>?_,fun i oq he=>?_⟩
   ·show World.ownsRow _ _ _ _ _ (mr p.bQ (tx,ty)).length _;rw[lV];have au:World.ownsRow bZ w0.heap.size e0 1 (ag K 0 (n+1) Pq) (n+1) cx:=(by refine N2 (fY pQ jy) aI (.inr ?_);intro e;have a6:K=g:=(by simpa[Value.ownBlock] using e);exact g' HV HU (by decide) a6);exact ami au (JB _)
   ·have abi:i<n:=(by have:i+1<(mr p.bQ (tx,ty)).length:=oq;omega);obtain⟨q,d,au,ax,aA⟩:=h.bg.init i (by omega);have e:(mr p.bQ (tx,ty))[i]'(by omega)=p.bQ[i]:=(by have bj:(mr p.bQ (tx,ty))[i]?=p.bQ[i]?:=(by rw[ER,Ey (by rw[zs];omega),List.getElem?_dropLast,aW (by omega)]);rw[iW (by omega),iW (by omega)] at bj;injection bj);show ∃q c,_=some (Value.slice q ((mr p.bQ (tx,ty))[i]'(by omega)).length c)∧((mr p.bQ (tx,ty))[i]'(by omega)).length≤c∧gV _ _ q ((mr p.bQ (tx,ty))[i]'(by omega));rw[e,List.getElem?_set_ne (by omega)];exact⟨q,d,au,ax,aA.keep (zt.mono fun k _ aw=>Pr k aw)⟩
   ·have UF:i=n:=(by have:i+1=(mr p.bQ (tx,ty)).length:=he;omega);subst UF;have e:(mr p.bQ (tx,ty))[i]'(by omega)=p.bQ[i] ++[(tx,ty)]:=(by have bj:=hle;rw[iW (by omega)] at bj;injection bj);show ∃g c,_=some (Value.slice (some (aj g 0)) ((mr p.bQ (tx,ty))[i]'(by omega)).length c)∧World.ownsRow _ _ _ _ (ag g 0 (((mr p.bQ (tx,ty))[i]'(by omega)).length) c) ((mr p.bQ (tx,ty))[i]'(by omega)).length (nK ((mr p.bQ (tx,ty))[i]'(by omega)))∧_;rw[e,List.getElem?_set_self (by omega),fH,hlen];refine⟨gg,c2,rfl,?_,Lp⟩;have cV:nK (p.bQ[i] ++[(tx,ty)])=nK p.bQ[i] ++[I tx,I ty]:=(by unfold nK;rw[List.flatMap_append];rfl);rw[cV];exact N2 ct (So _ K i _) (.inr (lH ct UG (by decide)))
  aD:=jk h.aD zt (me h.aD (by decide) (by decide))
  lI:=h.lI.keep (zt.mono fun k _ aw=>Pr k aw)
  ej:=jk h.ej zt (me h.ej (by decide) (by decide))
  oD:=h.oD
  h0:=fun k aw=>⟨(h.h0 k aw).1,hN (h.h0 k aw).2 zt.size⟩
  hv:=h.hv
  l9:=h.l9
  mK:=h.mK
  aM:=h.aM.trans (zt.below _ h.aM.size fun k aw=>⟨by omega,by omega⟩)}
theorem gV.pre{S:afp}{q:Ja}{l:List b7}(h:gV S w q l):gV S w q l.dropLast:=by refine⟨by rw[zs];exact cd (Nat.sub_le _ _) h.1,fun az=>?_⟩;rw[zs] at az;obtain⟨b,o,cs,e,hS,aE,aB⟩:=h.2 (by omega);refine⟨b,o,cs,e,hS,aE,fun i hi=>?_⟩;rw[zs] at hi;rw[List.getElem_dropLast];exact aB i (by omega)
theorem dV.aml{R:afp}(h:dV w0 P R m L fu cv ov cx ox p w):
  dV w0 P R m L fu (J 0) ov [] ox {p with bQ:=[]} (w.setCell (aj P 20) (J 0)):=by
 have aw:aK (fun k=>k≠P) w (w.setCell (aj P 20) (J 0)):=aK.set (a:=⟨P,20,none⟩) (fun aw=>aw rfl) _;have hR:∀k,R k→k≠P:=fun k aw=>(h.hv k aw).x2;have me:∀{e:aai} {aR n:Nat} {v:ada} {xs:aev},w.ownsRow w0.heap.size e aR v n xs→e≠oz→∀k,v.ownBlock=some k→k≠P:=by intro e aR n v xs hr au k aw;obtain⟨_,_,c,aB⟩:=ky hr aw;exact g' aB h.pl au
 exact {
  pl:=by have:=dt (k:=P) (i:=20) (J 0) h.pl;exact this
  mp:=h.mp.keep aw (by obtain⟨es,c,hm⟩:=h.mp.map;exact (pO h.pl hm).symm) hR
  kz:=h.kz
  er:=jk h.er aw (me h.er (by decide))
  ia:=h.ia.keep aw hR fun k hm=>by obtain⟨_,_,c,aB⟩:=h.ia.wL k hm;exact g' aB h.pl (by decide)
  oB:=h.oB
  oC:=h.oC
  bg:=.nil _ _ _
  aD:=jk h.aD aw (me h.aD (by decide))
  lI:=h.lI.keep (aw.mono fun k _ A1=>hR k A1)
  ej:=jk h.ej aw (me h.ej (by decide))
  oD:=h.oD
  h0:=fun k CL=>⟨(h.h0 k CL).1,hN (h.h0 k CL).2 aw.size⟩
  hv:=fun k aw=>{h.hv k aw with CK:=by simp[Value.ownBlock]}
  l9:=h.l9
  mK:=h.mK
  aM:=h.aM.trans (aw.below _ h.aM.size fun k jE e=>by have:=h.l9;omega)}
def HW(B:Nat)(X:aeo)(k:Nat):Prop:=B≤k∧∃cs t,al X k cs t∧(t=de∨t=e0)
theorem dV.rows{R:afp}(h:dV w0 P R m L fu (J 0) ov cx ox p w)(aB:p.bQ=[]):
  dV w0 P (fun k=>R k∨HW w0.heap.size w k) m L fu (J 0) ov cx ox p w:=by
 refine h.more (fun k aw=>?_) fun _ _ _ _=>aB;obtain⟨bz,cs,t,aE,bc⟩:=aw;refine⟨⟨bz,lt_of_heap aE⟩,?_⟩;obtain⟨⟨_,ew⟩,⟨_,_,a2⟩,⟨_,a3⟩,a4,a5,rr,pB⟩:=h.kinds;have eG:t≠oz:=by rcases bc with rfl|rfl<;>decide
 have fT:t≠gF:=by rcases bc with rfl|rfl<;>decide
 have n3:t≠fA:=by rcases bc with rfl|rfl<;>decide
 have n4:t≠pP:=by rcases bc with rfl|rfl<;>decide
 exact⟨g' aE ew eG,pO aE a2,g' aE a3 fT,by simp[Value.ownBlock],lH h.aD aE (eN n3),lH h.ej aE (eN n4),fun hm=>by obtain⟨c,aB⟩:=pB k hm;exact g' aE aB n3 rfl⟩
structure zu(B D:Nat)(w:aeo)(cs:List (List b7))(er:ada)(ys:aev)(j:Nat)(x:aeo):Prop where
 bq:al x D (#[I 2,I 0,I 0,I 0,I 0,I 0,I 0,I 0,er,J 0]) cQ
 own:x.ownsRow (D+1) e0 1 er j ys
 aM:Below D w x
theorem zu.below{D:Nat}{cs:List (List b7)}{er:ada}{j:Nat}{x y:aeo}(h:zu B D w cs er ys j x)(ay:an x x y):zu B D w cs er ys j y:=⟨ba h.bq ay,fY h.own ay,h.aM.trans (ay.mono (k5 (lt_of_heap h.bq)))⟩
theorem zu.push{D:Nat}{cs:List (List b7)}{er Ps:ada}{j:Nat}{x y:aeo}{u:ada}(h:zu B D w cs er ys j x)(aI:x.grownBy y er.ownBlock)(ct:y.ownsRow (D+1) e0 1 Ps (j+1) (ys++[u])):zu B D w cs Ps (ys++[u]) (j+1) (y.setCell (aj D 8) Ps):=by
 have au:=lH h.own h.bq (by decide);have ax:y.heap[D]?=_:=(aI.block D (lt_of_heap h.bq) (eN au)).trans h.bq;refine⟨?_,?_,?_⟩
 ·have:=dt (k:=D) (i:=8) Ps ax;exact this
 ·exact N2 ct (So _ D 8 _) (.inr (lH ct ax (by decide)))
 ·have aA:Below D w y:=h.aM.grown aI (k5 (lt_of_heap h.bq)) (fun k aw=>by have:=(h.own.lt k aw).1;omega);exact aA.setCell (p:=⟨D,8,none⟩) (aP _) _
theorem abj:(Tryz.prog.info? 45).map (fun i=>(i.zero,i.size,i.bytes))=some (some (J 0),1,24):=by kernel_rfl
theorem amm:(Tryz.prog.info? 38).map (fun i=>(i.zero,i.size,i.bytes))=some (some (.agg #[I 0,I 0]),2,16):=by kernel_rfl
theorem CQ{k:Nat}{a b:ada}{t:aai}(h:al w k (#[a,b]) t):ak w k 0 a∧ak w k 1 b:=by constructor<;>simp[World.cell?,h]
abbrev Fk(p:cy):Prop:=p.bQ.length≤1000000∧∀c∈p.bQ,0<c.length∧c.length≤1000000
theorem amn(w0:aeo)(P:Nat)(p:cy)(tx ty:Int)(bk w:aeo)(H:af (jl w0 P p bk))(dY:af (an bk bk w))(hs:Fk p)(res:Except Nat cy)(c6:af (Af p (tx,ty)=res)):
  Calls Tryz.prog 124 #[ah P 0,.agg #[I tx,I ty]] w fun e w'=>gi w0 P res e w'∧aK (fun k=>bk.heap.size≤k) w w':=by
 obtain⟨R,m,L,fu,cv,ov,cx,ox,h⟩:=H.out;have H1:=ao (h.below dY.out);have CR:af (P<bk.heap.size∧∀k,cv.ownBlock=some k→k<bk.heap.size):=⟨lt_of_heap h.pl,fun k e=>(ky h.bg.own e).2.1⟩;have bH:=ao hs;obtain⟨rg,qm⟩:=aq p.region;have tX:=ao qm;have aQ:af ((if rg=false then .ok p else if tf p.bQ=false then .error 4 else .ok {p with bQ:=p.bQ++[[(tx,ty)]]})=res):=by rw[←c6.out,←qm];rfl
 clear h hs H c6 qm;go_enter Tryz.func124,Tryz.ntmps124;go_upto_region 1 with fail;have bp:=ao (H1.out.below (bh w (ai (#[I tx,I ty]) de)));have lC:af ((w.alloc (ai (#[I tx,I ty]) de)).heap[w.heap.size]?=some (.cells #[I tx,I ty] de)):=cR _ _;have amo:af (∀k,w.heap.size≤k→¬R k):=fun k aw h=>by have:=(H1.out.h0 k h).2;omega
 clear H1;have Lq:af (aK (fun k=>bk.heap.size≤k) w (w.alloc (ai (#[I tx,I ty]) de))):=aK.alloc _ _ _;generalize w.alloc (.cells #[I tx,I ty] de)=W at bp lC Lq⊢;obtain⟨D,b4⟩:=aq w.heap.size;rw[b4] at lC⊢;clear b4 amo;have nT:ak W P 19 (U rg):=by rw[←tX.out];exact cell_of (i:=19) bp.out.pl rfl
 cases rg with
 |false=>
  have aJ:af (.ok p=res):=aQ.out;go_wp2_with fail;go_ret;rw[←aJ.out];exact⟨gi.nR rfl bp.out,Lq.out⟩
 |true=>
  obtain⟨f,hf⟩:=aq (tf p.bQ);have bG:=ao hf;have dC:af ((if f=false then .error 4 else .ok {p with bQ:=p.bQ++[[(tx,ty)]]})=res):=(by rw[←aQ.out,←hf];rfl);clear hf aQ;go_upto_region 3 with fail;have bN:af (jl w0 P p W):=⟨_,_,_,_,_,_,_,_,bp.out⟩;go_wp2_with fail;with_reducible refine (aa6 w0 P p W bN bH.out f bG).mono ?_
  rintro e b5 ⟨rfl,ay⟩;have bW:=ao (bp.out.below ay);have iQ:=ao (ba lC.out ay);have iV:=ao (Lq.out.trans (aK.c4 ay));clear nT bp lC bN ay;cases f with
  |false=>
   have aJ:af (.error 4=res):=dC.out;go_wp2_with fail;go_ret;rw[←aJ.out];exact⟨⟨bW.out.aM,rfl⟩,iV.out⟩
  |true=>
   have aJ:af (.ok {p with bQ:=p.bQ++[[(tx,ty)]]}=res):=dC.out;go_upto_region 5 with fail;obtain⟨n,hn⟩:=aq p.bQ.length;have Uu:=ao hn;have iX:n≤1000000:=(by rw[←hn];exact bH.out.1);have pQ:World.ownsRow b5 w0.heap.size e0 1 cv p.bQ.length cx:=bW.out.bg.own;rw[hn] at pQ;clear hn dC;obtain⟨ix,jD,rfl⟩:=iw pQ;have k8:af (((b5.drew.alloc (ai (#[I tx,I ty]) de)).alloc (ai (#[ad (some (aj b5.heap.size 0)) 1 1]) e0)).ownsRow w0.heap.size e0 1 (ad ix n jD) n cx):=(pQ.drew.alloc _).alloc _;clear pQ;obtain⟨d0,d1⟩:=CQ iQ.out;have wM:ak b5 P 20 (ad ix n jD):=cell_of (i:=20) bW.out.pl rfl;have f20:=dc bW.out.pl 20;have fw:=bW.out.aM.size;have rz:=lt_of_heap iQ.out;have oE:=lt_of_heap bW.out.pl;have jI:af (an b5 b5 ((b5.drew.alloc (ai (#[I tx,I ty]) de)).alloc (ai (#[ad (some (aj b5.heap.size 0)) 1 1]) e0))):=((Below.refl _ _).drew.alloc (aP _) _).alloc (by rw[show (b5.drew.alloc (ai (#[I tx,I ty]) de)).heap.size=b5.heap.size+1 from l' _];exact lO _) _;have jX:∀(bZ:aeo),((b5.drew.alloc (ai (#[I tx,I ty]) de)).alloc (ai (#[ad (some (aj b5.heap.size 0)) 1 1]) e0)).grownBy bZ (Value.slice ix n jD).ownBlock→ak bZ P 20 (ad ix n jD)∧bZ.frozen? ⟨P,20,none⟩=false:=(by intro bZ pR;have mR:=ba bW.out.pl jI.out;have au:al bZ P (Fc p fu m L (ad ix n jD)) oz:=(pR.block _ (lt_of_heap mR) (eN (lH k8.out mR (by decide)))).trans mR;exact⟨cell_of au rfl,dc au 20⟩);obtain⟨i0,hi,cW,dv,dx⟩:=info_parts abj;have bL:=ao (And.intro hi (And.intro cW (And.intro dv dx)));clear hi cW dv dx
   go_region_law (first|(refine sr _ (by rfl) _ _ _ (by rfl) w0.heap.size e0 i0 (J 0) 1 24 NZ bL.out.1 bL.out.2.1 bL.out.2.2.1 bL.out.2.2.2 rfl (by omega) (ad ix n jD) n _ (by rfl) k8.out (aj (b5.heap.size+1) 0) 1 1 [ag b5.heap.size 0 1 1] (by rfl) (by rfl) (jx (cs:= #[ad (some (aj b5.heap.size 0)) 1 1]) (t:=e0) (fr:=(0,0)) (by rw[show b5.heap.size+1=(b5.drew.alloc (ai (#[I tx,I ty]) de)).heap.size from (l' _).symm];exact dL _ _)) (by simp[Value.oneCell']) (by omega) (by unfold maxLen;omega) (by omega) (by simp;omega) (b5.heap.size+1+1) (by simp) ?_;intro gg gG br ct dn dF h5;obtain⟨bI,bJ⟩:=jX br dn)|fail)
   all_goals
    have fF:=dV.amd (tx:=tx) (ty:=ty) bW.out Uu.out (fun c aB=>by have:=(bH.out.2 c aB).2;show _≤1000000000;omega) jI.out (aP _) (ba (k:=b5.heap.size) (cR b5.drew (ai (#[I tx,I ty]) de)) (bh _ _)) dn ct (dF.imp HB (fun h=>by rw[h];exact CN (by rw[show ((b5.drew.alloc (ai (#[I tx,I ty]) de)).alloc (ai (#[ad (some (aj b5.heap.size 0)) 1 1]) e0)).heap.size=(b5.drew.alloc (ai (#[I tx,I ty]) de)).heap.size+1 from l' _,show (b5.drew.alloc (ai (#[I tx,I ty]) de)).heap.size=b5.heap.size+1 from l' _])));have vo:=ao ((iV.out.trans (aK.c4 jI.out)).trans ((aK.grown dn (fun k e aw=>J8 (CR.out.2 k e) aw)).trans (aK.set (a:=⟨P,20,none⟩) (fun aw=>J8 CR.out.1 aw) (ag gg 0 (n+1) gG))));clear ct dn dF h5 bI bJ d0 d1 wM f20 jX;go_wp2_with fail;go_ret;rw[←aJ.out];exact⟨gi.nR rfl fF,vo.out⟩
abbrev fm:TypeId:=92
theorem amp(w0:aeo)(P:Nat)(p:cy)(ca bU cn bY:Int)(cF:Bool)(bg dA dB:Ua)(bF bv:ada)(tx ty bx bO:Int)(bk w:aeo)(H:af (jl w0 P p bk))(dY:af (an bk bk w))(hs:Fk p)(zv:p.mode=1)(abk:p.region=true)(hne:p.bQ≠[]):
  Calls Tryz.prog 123 #[ah P 0,.agg #[I ca,I bU,I cn,I bY,U cF,aa bg,aa dA,aa dB,aa ⟨#[]⟩,aa ⟨#[]⟩,bF,bv],.agg #[I tx,I ty],.agg #[I bx,I bO]] w fun e w'=>gi w0 P (.ok {p with bQ:=mr p.bQ (tx,ty)}) e w'∧aK (fun k=>bk.heap.size≤k) w w':=by
 obtain⟨R,m,L,fu,cv,ov,cx,ox,h⟩:=H.out;have H1:=ao (h.below dY.out);have gf:=ao h;have bH:=ao hs;have amq:=ao zv;have amr:=ao abk;obtain⟨n,hn⟩:∃n,p.bQ.length=n+1:=⟨p.bQ.length-1,by cases aB:p.bQ with|nil=>exact absurd aB hne|cons a l=>simp⟩;obtain⟨c,aB⟩:∃c,p.bQ[n]?=some c:=⟨p.bQ[n]'(by omega),iW _⟩;have bd:=ao hn;have bG:=ao aB;obtain⟨len,hlen⟩:=aq c.length;have ei:=ao hlen;have TC:len≤1000000:=by rw[←hlen];exact (hs.2 c (List.mem_of_getElem? aB)).2
 have iX:n+1≤1000000:=by rw[←hn];exact hs.1
 clear h H hs zv abk hne hn aB hlen;go_enter Tryz.func123,Tryz.ntmps123;go_upto_region 1 with fail;obtain⟨W,cP⟩:=aq (((w.alloc (ai (#[I ca,I bU,I cn,I bY,U cF,aa bg,aa dA,aa dB,aa ⟨#[]⟩,aa ⟨#[]⟩,bF,bv]) fm)).alloc (ai (#[I tx,I ty]) de)).alloc (ai (#[I bx,I bO]) de));have aH:af (an w w W):=by show Below _ _ _;rw[←cP];exact (bh _ _).trans (((bh _ _).trans ((bh _ _).mono (bh _ _).size)).mono (bh _ _).size)
 have cc:af (∃D E,al W D (#[I ca,I bU,I cn,I bY,U cF,aa bg,aa dA,aa dB,aa ⟨#[]⟩,aa ⟨#[]⟩,bF,bv]) fm∧al W E (#[I tx,I ty]) de∧w.heap.size=D∧w.heap.size+1=E):=by
  refine⟨w.heap.size,w.heap.size+1,?_,?_,rfl,rfl⟩
  ·rw[←cP];exact ba (ba (cR w _) (bh _ _)) (bh _ _)
  ·rw[←cP];exact ba (by rw[show w.heap.size+1=(w.alloc (ai (#[I ca,I bU,I cn,I bY,U cF,aa bg,aa dA,aa dB,aa ⟨#[]⟩,aa ⟨#[]⟩,bF,bv]) fm)).heap.size from (l' _).symm];exact cR _ _) (bh _ _)
 rw[cP];clear cP;have bp:=ao (H1.out.below aH.out);obtain⟨D,E,b4,ft,gL,my⟩:=cc.out;rw[gL] at my;rw[gL,my];have lC:=ao b4;have zj:=ao ft;have gH:af (an bk bk W):=dY.out.trans (aH.out.mono dY.out.size);have Lq:af (aK (fun k=>bk.heap.size≤k) w W):=aK.c4 aH.out;clear b4 ft gL my cc aH H1;have d8:ak W D 8 (aa ⟨#[]⟩):=cell_of (i:=8) lC.out rfl;have d9:ak W D 9 (aa ⟨#[]⟩):=cell_of (i:=9) lC.out rfl;have dE:ak W P 11 (I 1):=by rw[←amq.out];exact cell_of (i:=11) bp.out.pl rfl
 have nT:ak W P 19 (U true):=by rw[←amr.out];exact cell_of (i:=19) bp.out.pl rfl
 obtain⟨K,Pq,g,cg,kC,jY,CO,dp,Lo⟩:=gf.out.bg.Up bd.out bG.out;subst kC;have CR:af (K<bk.heap.size∧g<bk.heap.size):=⟨(gf.out.bg.own.lt K rfl).2,(dp.lt g rfl).2⟩;have jY:=bD gH.out jY;have dp:=fY dp gH.out;rw[ei.out] at jY dp;have wM:ak W P 20 (ad (some (aj K 0)) (n+1) Pq):=cell_of (i:=20) bp.out.pl rfl;have en:=ao (And.intro jY True.intro);have Fl:=ao dp;have ams:=ao Lo;clear jY CO dp Lo;have jf:(((n:Int)+1==0):Bool)=false:=by rw[fO];omega
 have ry:ae ((n:Int)+1-1)=(n:Int):=by rw[gw _ (by omega)];omega
 have h2:(n:Int)<(n:Int)+1:=by omega
 have cW:(0:Int)≤(n:Int):=by omega
 go_upto_region 11 with fail
 go_quiet (fail)
 have bW:=ao (bp.out.below (iu (Below.refl _ _) nq));have sl:=ao (ba zj.out (iu (Below.refl _ _) nq));have jw:=ao (bD (iu (Below.refl _ _) nq) en.out.1);have UH:=ao (fY Fl.out (iu (Below.refl _ _) nq));clear dE nT wM d8 d9 bp zj lC en Fl;have iV:af (aK (fun k=>bk.heap.size≤k) w (W.drewN nq)):=Lq.out.trans (aK.c4 (iu (Below.refl _ _) nq));generalize W.drewN nq=b5 at bW sl jw UH iV⊢;obtain⟨avr,avs,avt,avu,kC,lR,YZ,_,_⟩:=bW.out.bg.Up bd.out bG.out;injection kC with Lr _ UI;injection Lr with Lr;injection Lr with Lr;subst Lr UI;clear lR;have UJ:=jw.out;obtain⟨e9,aY⟩:=CQ sl.out;have abl:=lt_of_heap sl.out;have fw:=bW.out.aM.size;have UK:=sG UH.out;have Pt:∃dD,al b5 K dD e0:=by have h:=bW.out.bg.own;rw[bd.out] at h;exact (sG h).2
 have avv:K<b5.heap.size:=by obtain⟨dD,h⟩:=Pt;exact lt_of_heap h
 have amt:K≠g:=by obtain⟨dD,h⟩:=Pt;obtain⟨_,gc,ax⟩:=UK;exact g' h ax (by decide)
 have k8:af ((b5.drew.alloc (ai (#[I tx,I ty]) de)).ownsRow w0.heap.size de 2 (ag g 0 len cg) len (nK c)):=UH.out.drew.alloc _;have jI:af (an b5 b5 (b5.drew.alloc (ai (#[I tx,I ty]) de))):=(Below.refl _ _).drew.alloc (aP _) _;have jX:∀(bZ:aeo),(b5.drew.alloc (ai (#[I tx,I ty]) de)).grownBy bZ (Value.slice (some (aj g 0)) len cg).ownBlock→ak bZ K n (ad (some (aj g 0)) len cg)∧bZ.frozen? ⟨K,n,none⟩=false:=by intro bZ pR;obtain⟨dD,h⟩:=Pt;have aF:=ba h jI.out;have au:al bZ K dD e0:=(pR.block _ (lt_of_heap aF) (fun e=>amt (by simpa[Value.ownBlock] using e))).trans aF;refine⟨?_,dc au n⟩;have ax:=UJ;simp only[World.cell?,h,au] at ax⊢;exact ax
 obtain⟨i0,hi,cW,dv,dx⟩:=info_parts amm;have bL:=ao (And.intro hi (And.intro cW (And.intro dv dx)));have abm:=ao UK;clear hi cW dv dx UK Pt;go_upto_region 12 with fail
 go_region_law (first|(refine sr _ (by rfl) _ _ _ (by rfl) w0.heap.size de i0 (.agg #[I 0,I 0]) 2 16 JR bL.out.1 bL.out.2.1 bL.out.2.2.1 bL.out.2.2.2 rfl (by omega) (ag g 0 len cg) len _ (by rfl) k8.out (aj b5.heap.size 0) 1 1 [I tx,I ty] (by rfl) (by rfl) (jx (cs:= #[I tx,I ty]) (t:=de) (fr:=(0,0)) (dL b5 _)) (by simp[Value.oneCell']) (by omega) (by unfold maxLen;omega) (by omega) (by simp;omega) (b5.heap.size+1) (by simp) ?_;intro gg gG br ct dn dF h5;obtain⟨bI,bJ⟩:=jX br dn)|fail)
 all_goals
  have fF:=dV.amj (tx:=tx) (ty:=ty) (c2:=gG) (gg:=gg) bW.out bd.out bG.out rfl (cg:=cg) (g:=g) (len:=len) ?hlast ei.out jI.out dn ct (dF.imp HB (fun h=>by rw[h];exact CN (l' _))) ams.out abm.out.1 abm.out.2
  case hlast=>
   have h:=bW.out.bg.own;rw[bd.out] at h;exact (h.cellAt n (by omega)).symm.trans UJ
  have vo:=ao ((iV.out.trans (aK.c4 jI.out)).trans ((aK.grown dn (fun k e aw=>J8 (show k<bk.heap.size by have cY:g=k:=(by simpa[Value.ownBlock] using e);rw[←cY];exact CR.out.2) aw)).trans (aK.set (a:=⟨K,n,none⟩) (fun aw=>J8 CR.out.1 aw) (ag gg 0 (len+1) gG))));clear ct dn dF h5 bI bJ e9 aY jX UJ;go_wp2_with fail;go_ret;exact⟨gi.nR rfl fF,vo.out⟩
end c1
