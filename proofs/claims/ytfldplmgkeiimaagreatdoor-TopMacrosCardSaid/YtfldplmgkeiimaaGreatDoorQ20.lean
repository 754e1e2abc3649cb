/- Lemmas. -/
import Derived.Test.YtfldplmgkeiimaaGreatDoorQ19
set_option linter.all false
set_option maxRecDepth 100000
set_option maxHeartbeats 12800000
namespace Go.Proofs.YtfldplmgkeiimaaGreatDoor
abbrev Fv:=@Int.natAbs_mul
abbrev CW:=@Int.natAbs_natCast
abbrev Fw:=@Proofs.Tryz.func140
abbrev Fx:=@Proofs.Tryz.ntmps140
abbrev Lw:=@Proofs.Tryz.func150
abbrev Lx:=@Proofs.Tryz.ntmps150
abbrev Ui:=@Int.natCast_nonneg
namespace c4
open Go.RowKit dH
def CX(p:bK):Prop:=-536870912≤p.1∧p.1≤536870912∧-536870912≤p.2∧p.2≤536870912
structure pa(p:cH):Prop where
 gG:∀v∈p.top::p.levels,(v.fc.length:Int)≤p.made∧0≤v.n∧v.n≤10000∧0≤v.m∧v.m≤10000∧CX v.eL
 ap:∀k a,p.jA k=some a→(a.fc.length:Int)≤p.made
 H4:0≤p.made
 md:p.made≤100000
 bu:p.budget≤100000
 iK:p.levels.length≤16
 at_:CX p.at_
 hC:p.fB.length≤1000000
variable{p q:cH}
theorem pa.aB(h:pa p):p.top.fc.length≤1000000:=by have:=(h.gG p.top (by simp)).1;have:=h.md;omega
theorem pa.ack(h:pa p):0≤p.made∧p.made≤1000000:=⟨h.H4,by have:=h.md;omega⟩
theorem pa.Uj(h:pa p):p.levels.length≤1000:=dB h.iK (by decide)
variable{d:Bool}{s:dK}
theorem Uk(h:oK p d s=.ok q):q={p with made:=p.made+1,top:={p.top with fc:=p.top.fc++[(d,s)]}}∧p.made<p.budget:=by
 unfold oK at h;split at h
 ·cases h
 ·split at h
  ·cases h
  ·injection h with h;exact⟨h.symm,by omega⟩
theorem pa.oK{p q:cH}{d:Bool}{s:dK}(h:pa p)(aH:oK p d s=.ok q):pa q:=by
 obtain⟨rfl,b1⟩:=Uk aH;have ay:=h.bu;refine⟨fun v aS=>?_,fun k a ha=>?_,?_,?_,ay,h.iK,h.at_,h.hC⟩
 ·rcases List.mem_cons.1 aS with rfl|aS
  ·have av:=h.gG p.top (by simp);refine⟨?_,av.2⟩;show ((p.top.fc++[(d,s)]).length:Int)≤p.made+1;rw[hl];have:=av.1;simp;omega
  ·have av:=h.gG v (by simp[aS]);exact⟨by show _≤p.made+1;omega,av.2⟩
 ·have:=h.ap k a ha;show _≤p.made+1;omega
 ·show 0≤p.made+1;have:=h.H4;omega
 ·show p.made+1≤100000;omega
theorem pa.kt{p q:cH}{d:Bool}{s:dK}{t:fR}(h:pa p)(aH:kt p d s t=.ok q):pa q:=by
 unfold dH.kt at aH;split at aH
 ·cases aH
 ·exact h.oK aH
theorem pa.lW{f:Bool→Bool}{t:fR}:∀{l:List dx} {p q:cH},pa p→lW f t l p=.ok q→pa q
 |[],p,q,h,aH=>by unfold dH.lW at aH;injection aH with aH;exact aH ▸ h
 |o::l,p,q,h,aH=>by
  unfold dH.lW at aH;split at aH
  ·cases aH
  ·rename_i r hr;exact pa.lW (h.kt hr) aH
variable{t:fR}{e:Nat}
theorem anY{f:Bool→Bool}{o:dx}{l:List dx}(h:kt p (f o.1) o.2 t=.error e):lW f t (o::l) p=.error e:=by rw[dH.lW,h]
theorem anZ{f:Bool→Bool}{o:dx}{l:List dx}(h:kt p (f o.1) o.2 t=.ok q):lW f t (o::l) p=lW f t l q:=by rw[dH.lW,h]
theorem an0(h:oK p d s=.error e):e=5∨e=6:=by
 unfold dH.oK at h;split at h
 ·injection h with h;exact .inl h.symm
 ·split at h
  ·injection h with h;exact .inr h.symm
  ·cases h
theorem acm(h:kt p d s t=.error e):e=5∨e=6:=by
 unfold dH.kt at h;split at h
 ·injection h with h;exact .inl h.symm
 ·exact an0 h
theorem aQ.two{S zy:afp}{w X w':aeo}(av:ao w w X)(az:aQ zy X w')(aF:∀k,S k→k<w.heap.size→zy k):aQ S w w':=⟨az.os.trans av.os,az.tape.trans av.tape,az.output.trans av.output,dB av.size az.size,fun k hS ax=>(az.block k (aF k hS ax) (jN ax av.size)).trans (av.block k ax)⟩
theorem an1(h:kt p d s t=.ok q):q.i1=p.i1:=by
 unfold dH.kt at h;split at h
 ·cases h
 ·rw[(Uk h).1]
theorem an2{w:aeo}{k:Nat}{v0 v1 v2 v3 v4 v5 v6 db c8 v9 v10 v11 v12 acn:ada}{t:aai}(h:an w k (#[v0,v1,v2,v3,v4,v5,v6,db,c8,v9,v10,v11,v12,acn]) t):
  ak w k 0 v0∧ak w k 1 v1∧ak w k 2 v2∧ak w k 3 v3∧ak w k 4 v4∧ak w k 5 v5∧ak w k 6 v6∧ak w k 7 db∧ak w k 8 c8∧ak w k 9 v9∧ak w k 10 v10∧ak w k 11 v11∧ak w k 12 v12∧ak w k 13 acn:=by
 refine⟨?_,?_,?_,?_,?_,?_,?_,?_,?_,?_,?_,?_,?_,?_⟩<;>simp[World.cell?,h]
theorem an3(w0:aeo)(P:Nat)(p:cH)(hN ty:Int)(bV w:aeo)(H:af (o' w0 P p bV))(ez:af (ao bV bV w))(hs:pa p)(gb:af (eY hN∧eY ty))(res:Except Nat cH)(dQ:af (sV p (hN,ty)=res)):
  Calls Tryz.prog 149 #[ah P 0,.agg #[I hN,I ty]] w fun e w'=>jK w0 P res e w'∧aQ (fun k=>bV.heap.size≤k) w w':=by
 obtain⟨R,m,L,fu,cv,ov,cx,ox,h⟩:=H.out;have oV:=aq h;have H1:=aq (h.below ez.out);have b7:=aq hs;obtain⟨o,bl⟩:=ar (p.jA p.uk);have b5:=aq bl;obtain⟨rg,zK⟩:=ar p.region;have CY:=aq zK;clear h hs H bl zK;go_enter Tryz.func149,Tryz.ntmps149;go_upto_region 1 with fail;have c1:=aq (H1.out.below (a' w (ai (#[I hN,I ty]) i7)));have x0:af ((w.alloc (ai (#[I hN,I ty]) i7)).heap[w.heap.size]?=some (.cells #[I hN,I ty] i7)):=cd _ _;have jG:af (ao w w (w.alloc (ai (#[I hN,I ty]) i7))):=a' _ _;generalize w.alloc (.cells #[I hN,I ty] i7)=W at c1 x0 jG⊢;obtain⟨D,cb⟩:=ar w.heap.size;rw[cb] at x0⊢;clear cb H1;have b2:ak W P 6 (.map (some m)):=cell_of (i:=6) c1.out.pl rfl;have b':ak W P 7 (I p.uk):=cell_of (i:=7) c1.out.pl rfl;have Fy:ak W P 19 (U rg):=by rw[←CY.out];exact cell_of (i:=19) c1.out.pl rfl
 have vh:=lt_of_heap c1.out.pl;have Bd:m<W.heap.size:=by obtain⟨_,_,hm⟩:=c1.out.mp.map;exact lt_of_heap hm
 obtain⟨v,o4,aS⟩:=c1.out.mp.look p.uk;rw[b5.out] at o4 aS;cases o with
 |none=>
  have aS:v=HV:=aS;subst aS;have aP:af (.error 4=res):=(by show _=_;rw[←dQ.out];unfold sV;rw[b5.out]);have q7:=o4 W.drew rfl;have mB:=o4 (W.alloc (ai (#[I 0,I 0,I 0,I 0,I 0,I 0,I 0,I 0,J 0,J 0,I 0,U false,U false,J 0]) qJ)).drew (xq _ _ _ Bd);clear o4 dQ;go_region
  all_goals
   clear q7 mB b2 b';cases rg
   all_goals
    go_wp2_with fail;go_ret;rw[←aP.out];exact⟨⟨c1.out.aZ.trans (((a' W _).drew).mono c1.out.aZ.size),rfl⟩,aQ.dI (jG.out.trans (((a' W _).drew).mono jG.out.size))⟩
 |some a=>
  obtain⟨⟨⟨k,⟨aW,aY⟩,⟨bb,bh⟩,⟨fX,fY⟩,r,l⟩,s⟩,tM,CZ,hL,fc⟩:=a;obtain⟨ql,dl,qp,cK,fD,kq,rfl,ek,Ly,an4⟩:=aS;obtain⟨nl,gF⟩:=ar l.length;obtain⟨kL,tj⟩:=ar s.len;obtain⟨no,qL⟩:=ar fc.length;have q7:(Instr.lookup Lf (.map (some m)) (I p.uk) true).run Tryz.prog W.drew=.ok (.tuple #[.agg #[I k,I aW,I aY,I bb,I bh,I fX,I fY,I r,ad ql nl dl,ad qp kL cK,I tM,U CZ,U hL,ad fD no kq],U true]) W.drew:=(by rw[←gF,←tj,←qL];exact o4 W.drew rfl);have mB:(Instr.lookup Lf (.map (some m)) (I p.uk) true).run Tryz.prog (W.alloc (ai (#[I 0,I 0,I 0,I 0,I 0,I 0,I 0,I 0,J 0,J 0,I 0,U false,U false,J 0]) qJ)).drew=.ok (.tuple #[.agg #[I k,I aW,I aY,I bb,I bh,I fX,I fY,I r,ad ql nl dl,ad qp kL cK,I tM,U CZ,U hL,ad fD no kq],U true]) (W.alloc (ai (#[I 0,I 0,I 0,I 0,I 0,I 0,I 0,I 0,J 0,J 0,I 0,U false,U false,J 0]) qJ)).drew:=(by rw[←gF,←tj,←qL];exact o4 _ (xq _ _ _ Bd));have q8:=aq gF;have AJ:=aq tj;have Be:=aq qL;have pF:af (dv R W ql dl qp cK ⟨⟨k,(aW,aY),(bb,bh),(fX,fY),r,l⟩,s⟩):=ek;have x4:af (h9 R W fD fc):=Ly;have axB:no≤1000000:=(by have av:=b7.out.ap _ _ b5.out;have az:=b7.out.md;have aF:(fc.length:Int)≤p.made:=av;rw[qL] at aF;omega);clear o4 ek Ly an4 gF tj qL;have aP:af ((if rg=true then .error 4 else if hL=false then kt p p.i1 ⟨⟨k,(aW,aY),(bb,bh),(fX,fY),r,l⟩,s⟩ {p.dm with eL:=(hN,ty)} else lW (fun d=>decide (d=p.i1)) {p.dm with eL:=(hN,ty)} fc p)=res):=(by show _=_;rw[←dQ.out];unfold sV;rw[b5.out,←CY.out]);clear dQ;go_region
  all_goals
   have dM:=aq (c1.out.below ((a' W (ai (#[I k,I aW,I aY,I bb,I bh,I fX,I fY,I r,ad ql nl dl,ad qp kL cK,I tM,U CZ,U hL,ad fD no kq]) qJ)).drew));have nO:=aq (aU x0.out ((a' W (ai (#[I k,I aW,I aY,I bb,I bh,I fX,I fY,I r,ad ql nl dl,ad qp kL cK,I tM,U CZ,U hL,ad fD no kq]) qJ)).drew));have dk:af (ao W W ((W.alloc (ai (#[I k,I aW,I aY,I bb,I bh,I fX,I fY,I r,ad ql nl dl,ad qp kL cK,I tM,U CZ,U hL,ad fD no kq]) qJ)).drew)):=(a' W _).drew;have C0:af ((W.alloc (ai (#[I k,I aW,I aY,I bb,I bh,I fX,I fY,I r,ad ql nl dl,ad qp kL cK,I tM,U CZ,U hL,ad fD no kq]) qJ)).drew.heap[W.heap.size]?=some (.cells #[I k,I aW,I aY,I bb,I bh,I fX,I fY,I r,ad ql nl dl,ad qp kL cK,I tM,U CZ,U hL,ad fD no kq] qJ)):=cd _ _;clear q7 mB b2 b' Fy vh Bd x0;generalize (W.alloc (ai (#[I k,I aW,I aY,I bb,I bh,I fX,I fY,I r,ad ql nl dl,ad qp kL cK,I tM,U CZ,U hL,ad fD no kq]) qJ)).drew=dt at dM nO dk C0⊢;obtain⟨T,eS⟩:=ar W.heap.size;rw[eS] at C0⊢;clear eS;have aco:=aq (pF.out.below dk.out);have acp:=aq (x4.out.below dk.out);have yg:af (ao w w dt):=jG.out.trans (dk.out.mono jG.out.size);clear c1 pF x4 jG dk;have Fy:ak dt P 19 (U rg):=(by rw[←CY.out];exact cell_of (i:=19) dM.out.pl rfl);cases rg with
   |true=>
    have aP:af (.error 4=res):=aP.out;go_wp2_with fail;go_ret;rw[←aP.out];exact⟨⟨dM.out.aZ,rfl⟩,aQ.dI yg.out⟩
   |false=>
    have an5:ak dt P 14 (U p.dm.bD):=cell_of (i:=14) dM.out.pl rfl;have an6:ak dt P 15 (U p.dm.bR):=cell_of (i:=15) dM.out.pl rfl;have an7:ak dt P 16 (I p.dm.q):=cell_of (i:=16) dM.out.pl rfl;have an8:ak dt P 17 (I p.dm.eL.1):=cell_of (i:=17) dM.out.pl rfl;have an9:ak dt P 18 (I p.dm.eL.2):=cell_of (i:=18) dM.out.pl rfl;obtain⟨d0,d1⟩:=Ps nO.out;have sj:=lt_of_heap nO.out;go_upto_region 6 with fail;have iY:=aq (dM.out.below (a' dt (ai (#[U p.dm.bD,U p.dm.bR,I p.dm.q,I hN,I ty]) pC)));have e4:af (ao dt dt (dt.alloc (ai (#[U p.dm.bD,U p.dm.bR,I p.dm.q,I hN,I ty]) pC))):=a' _ _;have yh:af ((dt.alloc (ai (#[U p.dm.bD,U p.dm.bR,I p.dm.q,I hN,I ty]) pC)).heap[dt.heap.size]?=some (.cells #[U p.dm.bD,U p.dm.bR,I p.dm.q,I hN,I ty] pC)):=cd _ _;generalize dt.alloc (.cells #[U p.dm.bD,U p.dm.bR,I p.dm.q,I hN,I ty] pC)=X at iY e4 yh⊢;obtain⟨mI,zA⟩:=ar dt.heap.size;rw[zA] at yh⊢;have mD:af (bV.heap.size≤mI):=(by show _;rw[←zA];exact (ez.out.trans (yg.out.mono ez.out.size)).size);clear zA an5 an6 an7 an8 an9 Fy d0 d1 sj nO;have C0:=aq (aU C0.out e4.out);have oA:af (ao w w X):=yg.out.trans (e4.out.mono yg.out.size);have aoa:af (ao bV bV X):=ez.out.trans (oA.out.mono ez.out.size);have pF:=aq ((aco.out.below e4.out).mono (R:=fun k=>R k∨(bV.heap.size≤k∧k<X.heap.size)) fun _ _ h=>.inl h);have x4:=aq ((acp.out.below e4.out).mono (R:=fun k=>R k∨(bV.heap.size≤k∧k<X.heap.size)) fun _ _ h=>.inl h);clear dM e4 yg aco acp iY;have iY:=aq (oV.out.fresh aoa.out);have bd:af (∀k,bV.heap.size≤k→k<w.heap.size→(fun k=>R k∨(bV.heap.size≤k∧k<X.heap.size)) k):=fun k av az=>.inr ⟨av,jN az oA.out.size⟩;have acq:af ((fun k=>R k∨(bV.heap.size≤k∧k<X.heap.size)) mI):=.inr ⟨mD.out,lt_of_heap yh.out⟩;generalize (fun k=>R k∨(bV.heap.size≤k∧k<X.heap.size))=zy at iY pF x4 bd acq;have Ul:ak X T 10 (I tM):=cell_of (i:=10) C0.out rfl;have acr:ak X T 12 (U hL):=cell_of (i:=12) C0.out rfl;cases hL with
    |false=>
     have bq:af (kt p p.i1 ⟨⟨k,(aW,aY),(bb,bh),(fX,fY),r,l⟩,s⟩ {p.dm with eL:=(hN,ty)}=res):=aP.out;have zn:∀Z,ao X X Z→Calls Tryz.prog 152 #[ah P 0,U p.i1,.agg #[I k,I aW,I aY,I bb,I bh,I fX,I fY,I r,ad ql nl dl,ad qp kL cK],.agg #[U p.dm.bD,U p.dm.bR,I p.dm.q,I hN,I ty]] Z fun e w'=>jK w0 P res e w'∧aQ (fun k=>bV.heap.size≤k) w w':=(by intro Z eG;have av:=acj w0 P zy m L fu cv ov cx ox p p.i1 ⟨k,(aW,aY),(bb,bh),(fX,fY),r,l⟩ s ql dl qp cK {p.dm with eL:=(hN,ty)} X Z iY eG pF gb b7.out.aB b7.out.ack b7.out.Uj res bq;rw[←q8.out,←AJ.out];refine av.mono fun e w' h=>⟨h.res,aQ.two (oA.out.trans (eG.mono oA.out.size)) h.2.1 fun k ax aA=>.inl (bd.out k ax aA)⟩);have cc:=aq zn;clear zn bq aP;obtain⟨g0,g1,g2,g3,g4,g5,g6,g7,g8,g9,g10,g11,g12,g13⟩:=an2 C0.out;obtain⟨t0,t1,t2,t3,t4⟩:=uF yh.out;have Um:ak X P 13 (U p.i1):=cell_of (i:=13) iY.out.pl rfl;clear Ul acr;go_upto_region 7 with fail
     go_region_law (first|(rw[a8 (by rfl)];go_simp;go_at_call 152;with_reducible refine (cc.out _ ((Below.refl _ _).drew)).mono ?_;intro e cZ dQ;obtain⟨v6,rfl⟩:=dQ.1.ret)|fail)
     all_goals
      clear g0 g1 g2 g3 g4 g5 g6 g7 g8 g9 g10 g11 g12 g13 t0 t1 t2 t3 t4 Um;go_wp2_with fail;go_ret;exact dQ
    |true=>
     have bq:af (lW (fun d=>decide (d=p.i1)) {p.dm with eL:=(hN,ty)} fc p=res):=aP.out;have aob:ak X T 13 (ad fD no kq):=cell_of (i:=13) C0.out rfl;clear aP pF;go_upto_region 9 with fail;clear Ul acr aob
     go_loopw [52] (fun i wr=>∃(j:Nat) (q:cH) (H5:afp) (Un:Nat) (Uo:rp) (Up:Int) (Uq Ur:ada) (Us Ut:aev) (aK:aeo),aK=wr∧j≤no∧i=I j∧af (gr w0 P H5 Un Uo Up Uq Ur Us Ut q aK)∧af (∀k,zy k→H5 k)∧af (aQ zy X aK)∧af (lW (fun d=>decide (d=p.i1)) {p.dm with eL:=(hN,ty)} (fc.drop j) q=res)∧af (pa q)∧af (q.i1=p.i1)) (fun i _=>no -(intOf i).toNat)
     case atStart=>exact⟨0,p,zy,m,L,fu,cv,ov,cx,ox,_,rfl,eE _,rfl,iY.out,fun _ h=>h,aQ.refl _ _,bq.out,b7.out,rfl⟩
     case round=>
     obtain⟨j,q,H5,Un,Uo,Up,Uq,Ur,Us,Ut,aK,rfl,cr,rfl,C1,Uu,Pt,Uv,Pu,acs⟩:=hrel;clear iY bq;by_cases b1:j<no
     ·have i':(j:Int)<(no:Int):=(by omega);have fL:j<fc.length:=(by rw[Be.out];exact b1);obtain⟨⟨od,⟨⟨k,⟨aW,aY⟩,⟨bb,bh⟩,⟨fX,fY⟩,r,l⟩,s⟩⟩,Uw⟩:=ar (fc[j]);obtain⟨hz,lv,ql,dl,qp,cK,aoc,q',_,acu,l5,dY,cO,fl,gB,iG,fW,lA,lB,ky,Ux⟩:=(x4.out.keep Pt.out).at fL Uw;subst aoc;have Lz:=aq (acu.mono (R:=H5) fun k _ h=>Uu.out k h);have EX:=aq Uw;obtain⟨nl,gF⟩:=ar l.length;obtain⟨kL,tj⟩:=ar s.len;simp only at dY cO fl gB iG fW lA lB ky Ux;rw[gF] at ky;rw[tj] at Ux;have aod:=aq gF;have aoe:=aq tj;have Ks:(0:Int)≤(j:Int):=(by omega);clear acu Uw gF tj;go_upto_region 11 with fail;clear l5 dY cO fl gB iG fW lA lB ky Ux;have dX:af (ao aK aK (aK.alloc (ai (#[U od,I k,I aW,I aY,I bb,I bh,I fX,I fY,I r,ad ql nl dl,ad qp kL cK]) dD))):=a' _ _;have Pv:af ((aK.alloc (ai (#[U od,I k,I aW,I aY,I bb,I bh,I fX,I fY,I r,ad ql nl dl,ad qp kL cK]) dD)).heap[aK.heap.size]?=some (.cells #[U od,I k,I aW,I aY,I bb,I bh,I fX,I fY,I r,ad ql nl dl,ad qp kL cK] dD)):=cd _ _;generalize aK.alloc (.cells #[U od,I k,I aW,I aY,I bb,I bh,I fX,I fY,I r,ad ql nl dl,ad qp kL cK] dD)=Y at dX Pv⊢;obtain⟨LA,acv⟩:=ar aK.heap.size;rw[acv] at Pv⊢;clear acv;have acw:=aq (C1.out.below dX.out);have qM:=aq (aU (Pt.out.get acq.out yh.out) dX.out);obtain⟨Bf,jd⟩:=ar (kt q (decide (od=p.i1)) ⟨⟨k,(aW,aY),(bb,bh),(fX,fY),r,l⟩,s⟩ {p.dm with eL:=(hN,ty)});have tN:=aq jd;have acx:(od==q.i1)=decide (od=p.i1):=(by rw[acs.out];rfl);have zn:∀Z,ao Y Y Z→Calls Tryz.prog 152 #[ah P 0,U (od==q.i1),.agg #[I k,I aW,I aY,I bb,I bh,I fX,I fY,I r,ad ql nl dl,ad qp kL cK],.agg #[U p.dm.bD,U p.dm.bR,I p.dm.q,I hN,I ty]] Z fun e w'=>wG w0 P H5 zy aK Bf e w':=(by intro Z eG;have av:=acj w0 P H5 Un Uo Up Uq Ur Us Ut q (decide (od=p.i1)) ⟨k,(aW,aY),(bb,bh),(fX,fY),r,l⟩ s ql dl qp cK {p.dm with eL:=(hN,ty)} aK Z C1 (dX.out.trans (eG.mono dX.out.size)) Lz gb Pu.out.aB Pu.out.ack Pu.out.Uj Bf tN;rw[←aod.out,←aoe.out,acx];exact av.mono fun e w' h=>h.wide (dX.out.trans (eG.mono dX.out.size)) (fun k ax _=>.inl (Uu.out k ax)) (fun k ax=>ax));have cc:=aq zn;clear zn jd acx;obtain⟨g0,g1,g2,g3,g4,g5,g6,g7,g8,g9,g10⟩:=pE Pv.out;obtain⟨t0,t1,t2,t3,t4⟩:=uF qM.out;have Um:ak Y P 13 (U q.i1):=cell_of (i:=13) acw.out.pl rfl
      go_region_law (first|(rw[a8 (by rfl)];go_simp;go_at_call 152;with_reducible refine (cc.out _ ((Below.refl _ _).drew)).mono ?_;intro e cZ dQ;obtain⟨v6,rfl⟩:=dQ.res.ret)|fail)
      all_goals
       clear g0 g1 g2 g3 g4 g5 g6 g7 g8 g9 g10 t0 t1 t2 t3 t4 Um cc Pv qM acw dX;obtain⟨jd,su,Uy⟩:=dQ;have yi:=aq (Pt.out.trans su);have mv:=aq jd;cases Bf with
       |error a1=>
        have aS:v6=(a1:Int):=(by injection Uy with h;injection h with _ h);subst aS;have J':(((a1:Int)) !=0)=true:=by rcases acm tN.out with rfl|rfl<;>rfl
        have aP:af (.error a1=res):=(by show _=_;rw[←Uv.out,lT fL,EX.out];exact (anY tN.out).symm);clear jd su Uy;go_wp2_with fail;go_ret;rw[←aP.out];exact⟨⟨mv.out,rfl⟩,aQ.two oA.out yi.out fun k ax aA=>bd.out k ax aA⟩
       |ok cj=>
        obtain⟨aS,R',cS,aof,f',aog,Po,aag,aoh,Pm,acy⟩:=Uy;have aS:v6=0:=(by injection aS with h;injection h with _ h);subst aS;have aoi:=aq acy;have lZ:af (∀k,zy k→R' k):=fun k ax=>Pm k (Uu.out k ax);have aP:af (lW (fun d=>decide (d=p.i1)) {p.dm with eL:=(hN,ty)} (fc.drop (j+1)) cj=res):=(by show _=_;rw[←Uv.out,lT fL,EX.out];exact (anZ tN.out).symm);have mz:=aq (Pu.out.kt tN.out);have x0:af (cj.i1=p.i1):=(an1 tN.out).trans acs.out;clear jd su acy Pm;go_wp2_with fail;go_round<;>first|exact⟨j+1,cj,R',cS,aof,f',aog,Po,aag,aoh,_,rfl,by omega,by go_num,aoi.out,lZ.out,yi.out,aP.out,mz.out,x0.out⟩|(simp[intOf]<;>omega)
     ·have iR:j=no:=(by omega);subst iR;have aP:af (.ok q=res):=(by show _=_;rw[←Uv.out,n2 (by rw[Be.out];exact bx _)];rfl);go_wp2_with fail;go_ret;rw[←aP.out];exact⟨jK.CR rfl C1.out,aQ.two oA.out Pt.out fun k ax aA=>bd.out k ax aA⟩
end c4
namespace c4
open Go.RowKit dH
open bS (C)
open gT (kS iX)
theorem aoj(l:au):(⟨l.toArray⟩:Ua).toList.isEmpty=decide (l=[]):=by rw[oN];cases l<;>simp
end c4
namespace Pw
open Go.RowKit j6 ny px vM
abbrev H6(u i d:Int)(t:Bool):Value:=.agg #[I u,I i,I d,U t]
abbrev Bg(u i d:Int)(t:Bool):Obj:=.cells #[I u,I i,I d,U t] 161
theorem acz(u:Int)(w:aeo):Calls Tryz.prog 188 #[I u] w fun e w'=>e=ab (I (rI u))∧w=w':=by
 go_enter Tryz.func188,Tryz.ntmps188;by_cases av:u=1
 ·subst av;go_wp2;go_ret;exact⟨rfl,rfl⟩
 ·by_cases az:u=2
  ·subst az;go_wp2;go_ret;exact⟨rfl,rfl⟩
  ·have hp:rI u=0:=(by simp[rI,av,az]);have bN:=aq hp;have cE:(u==1)=false:=(by simp[av]);have bo:(u==2)=false:=(by simp[az]);clear hp;go_wp2;go_ret;rw[bN.out];exact⟨rfl,rfl⟩
theorem Px(u p:Int)(hp:af (rI u=p))(w:aeo):Calls Tryz.prog 188 #[I u] w fun e w'=>e=ab (I p)∧w=w':=by have:=hp.out;subst this;exact acz u w
theorem pA{k:IntKind}{a b:Int}(h:a=b):Ending.returned (.int k a)=ab (.int k b):=by rw[h]
theorem aok(n:Int)(k:Nat)(ax:k≤18)(ay:n.natAbs *10^k≤1000000000000000000)(v:Int)(aS:af (n *((10^k:Nat):Int)=v))(w:aeo):
  Calls Tryz.prog 186 #[I n,I k] w fun e w'=>e=ab (I v)∧w=w':=by
 have aO:=aq ay;clear ay;go_enter Tryz.func186,Tryz.ntmps186;go_wp2
 go_loop [0,6] (fun v i=>∃(j:Nat) (x:Int),j≤k∧x=n *((10^j:Nat):Int)∧i=I j∧v=I x) (fun _ i=>k -(intOf i).toNat)
 case atStart=>exact⟨0,n,eE _,by simp,rfl,rfl⟩
 case round=>
  obtain⟨j,x,cr,hx,rfl,rfl⟩:=hrel;by_cases b1:j<k
  ·have er:x.natAbs *10≤1000000000000000000:=(by have av:x.natAbs=n.natAbs *10^j:=(by rw[hx,Fv,CW]);rw[av,Rh,←BU];exact dB (Nat.mul_le_mul_left _ (vE (by decide) b1)) aO.out);have dA:-100000000000000000≤x:=(by omega);have eA:x≤100000000000000000:=(by omega);have c2:af (x *10=n *((10 ^(j+1):Nat):Int)):=(by show _=_;rw[hx,BU,J5,Int.mul_assoc];rfl);clear hx er;go_wp2;go_round
   case rel=>exact⟨j+1,x *10,by omega,c2.out,by go_num,rfl⟩
   case measure=>simp[intOf];omega
  ·obtain rfl:j=k:=(by omega);have c2:=aq hx;clear hx;go_wp2;go_ret;exact⟨pA (c2.out.trans aS.out),rfl⟩
theorem Uz(n:Int)(i:Int)(k:Nat)(hi:i=k)(ax:k≤18)(ay:n.natAbs *10^k≤1000000000000000000)(v:Int)(aS:af (n *((10^k:Nat):Int)=v))(w:aeo):
  Calls Tryz.prog 186 #[I n,I i] w fun e w'=>e=ab (I v)∧w=w':=by
 subst hi;exact aok n k ax ay v aS w
theorem aol(u i d:Int)(t:Bool)(w:aeo):Calls Tryz.prog 140 #[H6 u i d t] w fun e w'=>e=ab (U (rJ u i d))∧w.alloc (Bg u i d t)=w':=by
 cases hf:rJ u i d with
 |true=>
  obtain⟨av,az,aF,bk,b9,cW⟩:=(Ry u i d).1 hf;clear hf;rcases av with rfl|rfl
  all_goals
   go_enter Fw,Fx;by_cases eN:0<i
   ·go_wp2;go_ret;exact⟨rfl,rfl⟩
   ·have ff:0<d:=(by omega);go_wp2;go_ret;exact⟨rfl,rfl⟩
 |false=>
  have hn:¬((u=1∨u=2)∧0≤i∧i≤6∧0≤d∧d≤6∧0<i+d):=(fun h=>by rw[(Ry u i d).2 h] at hf;cases hf);clear hf;by_cases av:u=1∨u=2
  ·have gS:¬(0≤i∧i≤6∧0≤d∧d≤6∧0<i+d):=fun h=>hn ⟨av,h⟩;clear hn;rcases av with rfl|rfl
   all_goals
    by_cases aL:0≤i
    ·by_cases aI:i≤6
     ·by_cases c3:0≤d
      ·by_cases bJ:d≤6
       ·have c5:¬0<i:=(by omega);have b2:¬0<d:=(by omega);clear gS;go_enter Fw,Fx;go_wp2;go_ret;exact⟨rfl,rfl⟩
       ·clear gS;go_enter Fw,Fx;go_wp2;go_ret;exact⟨rfl,rfl⟩
      ·clear gS;go_enter Fw,Fx;go_wp2;go_ret;exact⟨rfl,rfl⟩
     ·clear gS;go_enter Fw,Fx;go_wp2;go_ret;exact⟨rfl,rfl⟩
    ·clear gS;go_enter Fw,Fx;go_wp2;go_ret;exact⟨rfl,rfl⟩
  ·clear hn;have cE:(u==1)=false:=(by simp;omega);have bo:(u==2)=false:=(by simp;omega);have fk:(u !=1)=true:=(by simp;omega);have B9:(u !=2)=true:=(by simp;omega);clear av;go_enter Fw,Fx;go_wp2;go_ret;exact⟨rfl,rfl⟩
theorem Py(u i d:Int)(t:Bool)(b:Bool)(ay:af (rJ u i d=b))(w:aeo):Calls Tryz.prog 140 #[H6 u i d t] w fun e w'=>e=ab (U b)∧w.alloc (Bg u i d t)=w':=by have:=ay.out;subst this;exact aol u i d t w
theorem aom{n:Int}(h:sL n=true):-1000000000000<n∧n<1000000000000:=(aih n).1 h
theorem aon(n u:Int)(w:aeo):
  Calls Tryz.prog 150 #[I n,I u] w fun e w'=>e=ab (.tuple #[I ((gV n u).getD 0),U (gV n u).isSome])∧w=w':=by
 cases eC:sL n with
 |false=>
  have ba:gV n u=none:=(by unfold gV;rw[aR];rintro⟨h,_⟩;rw[eC] at h;cases h);have e0:=aq ba;have nP:=aq eC;clear ba eC;go_enter Lw,Lx;go_wp2_with fail;refine (acz u _).mono ?_;rintro e w' ⟨rfl,rfl⟩;generalize rI u=p;go_wp2_with fail;refine (JS n _).mono ?_;rintro e w' ⟨rfl,rfl⟩;rw[nP.out];go_wp2_with fail;go_ret2;rw[e0.out];exact⟨rfl,rfl⟩
 |true=>
  have ay:=aom eC;obtain⟨er,dA⟩:=ay;by_cases hu:u=1∨u=2
  ·have hp:=aiL hu;obtain⟨p,H7⟩:=ar (rI u);rw[H7] at hp;have bN:=aq H7;have nP:=aq eC;by_cases hr:-536870912≤n *p∧n *p≤536870912
   ·have ba:gV n u=some (n *p):=(by unfold gV;rw[H7,a8 ⟨eC,hu,hr⟩]);have e0:=aq ba;obtain⟨fM,kO⟩:=hr;clear ba eC H7 hu;rcases hp with rfl|rfl
    all_goals
     go_enter Lw,Lx;go_wp2_with fail;refine (Px u _ bN _).mono ?_;rintro e w' ⟨rfl,rfl⟩;go_wp2_with fail;refine (JS n _).mono ?_;rintro e w' ⟨rfl,rfl⟩;rw[nP.out];go_wp2_with fail;go_ret2;rw[e0.out];exact⟨rfl,rfl⟩
   ·have ba:gV n u=none:=(by unfold gV;rw[H7,aR];rintro⟨_,_,h⟩;exact hr h);have e0:=aq ba;clear ba eC H7 hu;by_cases fM:-536870912≤n *p
    ·have kO:¬n *p≤536870912:=fun h=>hr ⟨fM,h⟩;clear hr;rcases hp with rfl|rfl
     all_goals
      go_enter Lw,Lx;go_wp2_with fail;refine (Px u _ bN _).mono ?_;rintro e w' ⟨rfl,rfl⟩;go_wp2_with fail;refine (JS n _).mono ?_;rintro e w' ⟨rfl,rfl⟩;rw[nP.out];go_wp2_with fail;go_ret2;rw[e0.out];exact⟨rfl,rfl⟩
    ·clear hr;rcases hp with rfl|rfl
     all_goals
      go_enter Lw,Lx;go_wp2_with fail;refine (Px u _ bN _).mono ?_;rintro e w' ⟨rfl,rfl⟩;go_wp2_with fail;refine (JS n _).mono ?_;rintro e w' ⟨rfl,rfl⟩;rw[nP.out];go_wp2_with fail;go_ret2;rw[e0.out];exact⟨rfl,rfl⟩
  ·have ba:gV n u=none:=(by unfold gV;rw[aR];rintro⟨_,h,_⟩;exact hu h);have hp:rI u=0:=(by unfold rI;rw[aR (fun h=>hu (.inl h)),aR (fun h=>hu (.inr h))]);have e0:=aq ba;have bN:=aq hp;have nP:=aq eC;clear ba eC hp hu;go_enter Lw,Lx;go_wp2_with fail;refine (Px u _ bN _).mono ?_;rintro e w' ⟨rfl,rfl⟩;go_wp2_with fail;refine (JS n _).mono ?_;rintro e w' ⟨rfl,rfl⟩;rw[nP.out];go_wp2_with fail;go_ret2;rw[e0.out];exact⟨rfl,rfl⟩
theorem H8(n u v:Int)(b:Bool)(aS:af ((gV n u).getD 0=v∧(gV n u).isSome=b))(w:aeo):
  Calls Tryz.prog 150 #[I n,I u] w fun e w'=>e=ab (.tuple #[I v,U b])∧w=w':=by
 obtain⟨av,az⟩:=aS.out;subst av;subst az;exact aon n u w
theorem aoo(s:Ua)(u i d:Int)(t:Bool)(hs:s.size≤9223372036854775807)(w:aeo):
  Calls Tryz.prog 146 #[aa s,H6 u i d t] w fun e w'=>e=ab (.tuple #[I ((k3 s.data.toList u i d t).getD 0),U (k3 s.data.toList u i d t).isSome])∧ao w w w':=by
 cases hf:rJ u i d with
 |false=>
  have h5:k3 s.data.toList u i d t=none:=ND (fun h=>by rw[hf] at h;cases h.1);have bf:=aq h5;have aP:=aq hf;clear h5 hf;go_enter Tryz.func146,Tryz.ntmps146;go_wp2_with fail;refine (Py u i d t false aP _).mono ?_;rintro e w' ⟨rfl,rfl⟩;go_wp2_with fail;go_ret2;rw[bf.out];exact⟨rfl,((Below.refl _ _).alloc (bx _) _).alloc (by simp) _⟩
 |true=>
  have zf:=(Ry u i d).1 hf;obtain⟨fe,rfl⟩:∃fe:Nat,i=fe:=⟨i.toNat,by omega⟩;obtain⟨D,rfl⟩:∃D:Nat,d=D:=⟨d.toNat,by omega⟩;have Pj:fe≤6:=(by omega);have cb:D≤6:=(by omega);have aP:=aq hf;clear hf zf;go_enter Tryz.func146,Tryz.ntmps146;go_wp2_with fail;refine (Py u fe D t true aP _).mono ?_;rintro e w' ⟨rfl,rfl⟩;go_upto_region 4 with fail;go_cut [24] (fun c gy=>c=U (y9 s.data.toList)∧(w.alloc (Bg u fe D t)).alloc (Bg u fe D t)=gy)
  case first=>
   by_cases aT:0<s.size
   ·have aO:=aq (R6 s aT);have hne:s.toList.isEmpty=false:=(by rw[oN,Ar s aT];rfl);have GV:¬s.toList=[]:=(by intro h;rw[h] at hne;cases hne);by_cases Cc:s[0].toNat=43
    all_goals
     go_wp2;go_meet;refine⟨fK Value.bool ?_,rfl⟩;rw[aO.out];simp[Cc,NN];try omega
   ·have aO:=aq (R7 s aT);have hne:s.toList=[]:=(by rw[oN];exact R5 s aT);go_wp2;go_meet;exact⟨fK Value.bool aO.out.symm,rfl⟩
  case rest=>
   obtain⟨rfl,rfl⟩:=hcut;go_upto_if 24 with fail;go_cut [0,6] (fun a b gy=>∃T:Ua,a=aa T∧T.size≤9223372036854775807∧T.data.toList=(strip s.data.toList).2∧b=U (strip s.data.toList).1∧(w.alloc (Bg u fe D t)).alloc (Bg u fe D t)=gy)
   case first=>
    cases ba:y9 s.data.toList with
    |true=>
     have aT:=YN ba;have b7:=aq (YM s aT ba);clear ba;go_wp2;go_meet;rw[b7.out];exact⟨_,rfl,by simp;omega,YK s,fK Value.bool (NN _),rfl⟩
    |false=>
     have b7:=aq (YL ba);clear ba;go_wp2;go_meet;rw[b7.out];exact⟨_,rfl,hs,rfl,rfl,rfl⟩
   case rest=>
    obtain⟨T,rfl,bB,aA,rfl,rfl⟩:=hcut;have Kr:ao w w ((w.alloc (Bg u fe D t)).alloc (Bg u fe D t)):=((Below.refl _ _).alloc (bx _) _).alloc (by simp) _;have u':=aq Kr;clear Kr;obtain⟨l,q3⟩:=ar T.data.toList;have hlen:l.length=T.size:=(by rw[←q3];simp);have yj:(strip s.data.toList).2=l:=(by rw[←aA,q3]);by_cases av:1≤T.size
    ·by_cases az:T.size≤fe+D
     ·by_cases aF:bA l=l.length
      ·have UA:=ajF (t:=t) ⟨aP.out,by rw[yj];omega,by rw[yj];omega,by rw[yj];exact aF⟩;rw[yj] at UA;have aS:=ajG aF;have acA:val l<10^T.size:=(by rw[←hlen];exact aS);have cC:=aq UA;have dM:=aq aF;have dT:=aq q3;have b0:=aq acA;have o6:=aq hlen;clear UA aF aA q3 aS acA yj hlen;generalize (strip s.data.toList).1=b at cC⊢;go_wp2_with fail
       go_loop [8,46] (fun v i=>∃(k:Nat) (x:Int),k≤T.size∧0≤x∧x<1000000000000∧x=val (l.take k)∧i=I k∧v=I x) (fun _ i=>T.size -(intOf i).toNat)
       case atStart=>exact⟨0,0,eE _,by omega,by omega,rfl,rfl,rfl⟩
       case round=>
        obtain⟨k,x,ax,rW,l0,hx,rfl,rfl⟩:=hrel;by_cases b1:k<T.size
        ·have acB:e2 T[k]=true:=(by have bk:=(yU l).1 k (by rw[o6.out];exact b1) (by rw[dM.out,o6.out];exact b1);have:T.data.toList[k]'(by simpa using b1)=T[k]:=n7 T k b1;rw[←this];have e:∀(m:au) (h:k<m.length),m=l→e2 m[k]=true:=(by intro m h hm;subst hm;exact bk);exact e _ _ dT.out);obtain⟨At,DX⟩:=(qU T[k]).1 acB;have NO:=DM l k (by rw[dM.out,o6.out];omega);have hp:(10:Nat)^ k≤10^11:=vE (by decide) (by omega);have H9:x<100000000000:=(by omega);have b7:af (val (l.take (k+1))=val (l.take k) *10+(T[k].toNat-48)):=(by show _=_;rw[←dT.out,NM T k b1];exact Nh _ _);have c2:=aq hx;have a1:¬T[k].toNat<48:=(by omega);have a6:¬57<T[k].toNat:=(by omega);clear hx NO hp acB;go_wp2;go_round
         case rel=>exact⟨k+1,x *10+(T[k].toNat-48),by omega,by omega,by omega,by rw[b7.out,c2.out];omega,by go_num,by go_num⟩
         case measure=>simp[intOf];omega
        ·obtain rfl:k=T.size:=(by omega);have UB:x=(val l:Nat):=(by rw[hx,vX (by rw[o6.out];exact bx _)]);have H9:x.natAbs<10^T.size:=(by rw[UB,CW];exact b0.out);have acC:=aq UB;have acD:x.natAbs≤1000000000000:=(by omega);clear hx UB;have fin:∀m:Int,0≤m→m=((D3 l (fe+D) D t:Nat):Int)→∃(v:Int) (o:Bool),((gV (if b then -m else m) u).getD 0=v∧(gV (if b then -m else m) u).isSome=o)∧(k3 s.data.toList u fe D t).getD 0=v∧(k3 s.data.toList u fe D t).isSome=o:=(by intro m _ hm;refine⟨_,_,⟨rfl,rfl⟩,?_⟩;rw[cC.out,hm];exact⟨rfl,rfl⟩);have acE:=aq fin;clear fin;cases t with
         |true=>
          obtain⟨y,hy⟩:∃y:Int,x *((10 ^(fe+D-T.size):Nat):Int)=y:=⟨_,rfl⟩;obtain⟨z,bn⟩:∃z:Int,y *((10 ^(6-D):Nat):Int)=z:=⟨_,rfl⟩
          have acF:y.natAbs<10 ^(fe+D):=by
           rw[←hy,Fv,CW];have:=NG H9 (Ju (n:=fe+D-T.size) (show 0<10 by decide))
           rwa [←NH,show T.size+(fe+D-T.size)=fe+D by omega] at this
          have H':z.natAbs<10 ^(fe+6):=by
           rw[←bn,Fv,CW];have:=NG acF (Ju (n:=6-D) (show 0<10 by decide))
           rwa [←NH,show fe+D+(6-D)=fe+6 by omega] at this
          have er:x.natAbs *10 ^(fe+D-T.size)≤1000000000000000000:=(by have av:x.natAbs *10 ^(fe+D-T.size)=y.natAbs:=(by rw[←hy,Fv,CW]);have az:=JH (fe+D) (by omega);omega);have dA:y.natAbs *10 ^(6-D)≤1000000000000000000:=(by have av:y.natAbs *10 ^(6-D)=z.natAbs:=(by rw[←bn,Fv,CW]);have az:=JH (fe+6) (by omega);omega);have UC:=JH (fe+6) (by omega);have dE:0≤z:=(by rw[←bn,←hy];exact gW (gW rW (Ui _)) (Ui _));have dP:z≤1000000000000:=(by omega);have LB:z=((D3 l (fe+D) D true:Nat):Int):=(by unfold D3;rw[a8 rfl,←bn,←hy,acC.out,o6.out,J5,J5]);obtain⟨v,o,tx,p4,C2⟩:=acE.out z dE LB;have wx:=aq tx;have lx:=aq p4;have nE:=aq C2;have uU:=aq hy;have UD:=aq bn;have c6:=aq er;have cP:=aq dA;clear hy bn acF H' er dA UC LB tx p4 C2 H9 acD;go_wp2_with fail;refine (Uz x _ (fe+D-T.size) (by omega) (by omega) c6.out y uU _).mono ?_;rintro e w' ⟨rfl,rfl⟩;go_wp2_with fail;refine (Uz y _ (6-D) (by omega) (by omega) cP.out z UD _).mono ?_;rintro e w' ⟨rfl,rfl⟩;cases b with
          |true=>
           have yk:af ((gV (-z) u).getD 0=v∧(gV (-z) u).isSome=o):=wx.out;go_wp2_with fail;with_reducible refine (H8 _ u v o yk _).mono ?_
           rintro e w' ⟨rfl,rfl⟩;go_wp2_with fail;go_ret2;rw[lx.out,nE.out];exact⟨rfl,u'.out⟩
          |false=>
           have yk:af ((gV z u).getD 0=v∧(gV z u).isSome=o):=wx.out;go_wp2_with fail;with_reducible refine (H8 _ u v o yk _).mono ?_
           rintro e w' ⟨rfl,rfl⟩;go_wp2_with fail;go_ret2;rw[lx.out,nE.out];exact⟨rfl,u'.out⟩
         |false=>
          obtain⟨z,bn⟩:∃z:Int,x *((10 ^(6-D):Nat):Int)=z:=⟨_,rfl⟩;have H':z.natAbs<10 ^(fe+6):=(by rw[←bn,Fv,CW];have av:=NG H9 (Ju (n:=6-D) (show 0<10 by decide));rw[←NH] at av;exact jN av (vE (by decide) (by omega)));have dA:x.natAbs *10 ^(6-D)≤1000000000000000000:=(by have av:x.natAbs *10 ^(6-D)=z.natAbs:=(by rw[←bn,Fv,CW]);have az:=JH (fe+6) (by omega);omega);have UC:=JH (fe+6) (by omega);have dE:0≤z:=(by rw[←bn];exact gW rW (Ui _));have dP:z≤1000000000000:=(by omega);have LB:z=((D3 l (fe+D) D false:Nat):Int):=(by unfold D3;rw[aR (by decide),←bn,acC.out,J5,Nat.mul_one]);obtain⟨v,o,tx,p4,C2⟩:=acE.out z dE LB;have wx:=aq tx;have lx:=aq p4;have nE:=aq C2;have UD:=aq bn;have cP:=aq dA;clear bn H' dA UC LB tx p4 C2 H9 acD;go_wp2_with fail;refine (Uz x _ (6-D) (by omega) (by omega) cP.out z UD _).mono ?_;rintro e w' ⟨rfl,rfl⟩;cases b with
          |true=>
           have yk:af ((gV (-z) u).getD 0=v∧(gV (-z) u).isSome=o):=wx.out;go_wp2_with fail;with_reducible refine (H8 _ u v o yk _).mono ?_
           rintro e w' ⟨rfl,rfl⟩;go_wp2_with fail;go_ret2;rw[lx.out,nE.out];exact⟨rfl,u'.out⟩
          |false=>
           have yk:af ((gV z u).getD 0=v∧(gV z u).isSome=o):=wx.out;go_wp2_with fail;with_reducible refine (H8 _ u v o yk _).mono ?_
           rintro e w' ⟨rfl,rfl⟩;go_wp2_with fail;go_ret2;rw[lx.out,nE.out];exact⟨rfl,u'.out⟩
      ·have qL:k3 s.data.toList u fe D t=none:=ND (fun h=>aF (by have:=h.2.2.2;rwa [yj] at this));have Be:=aq qL;have gF:=rD l;have axC:bA l<T.size:=(by omega);have dT:=aq q3;have o6:=aq hlen;clear qL aF aA q3 yj hlen gF;generalize (strip s.data.toList).1=b;go_wp2_with fail
       go_loop [8,46] (fun v i=>∃(k:Nat) (x:Int),k≤bA l∧0≤x∧x<1000000000000∧x=val (l.take k)∧i=I k∧v=I x) (fun _ i=>T.size -(intOf i).toNat)
       case atStart=>exact⟨0,0,eE _,by omega,by omega,rfl,rfl,rfl⟩
       case round=>
        obtain⟨k,x,ax,rW,l0,hx,rfl,rfl⟩:=hrel;have UE:k<T.size:=(by omega);have UF:∀(m:au) (h:k<m.length),m=l→(k<bA l→e2 m[k]=true)∧(bA l=k→e2 m[k]=false):=(by intro m h hm;subst hm;exact⟨fun bk=>(yU m).1 k h bk,fun bk=>by have:=(yU m).2 (by omega);simpa[bk] using this⟩);have ba:=UF T.data.toList (by simpa using UE) dT.out;rw[n7 T k UE] at ba;by_cases b1:k<bA l
        ·obtain⟨At,DX⟩:=(qU T[k]).1 (ba.1 b1);have NO:=DM l k (by omega);have hp:(10:Nat)^ k≤10^11:=vE (by decide) (by omega);have H9:x<100000000000:=(by omega);have b7:af (val (l.take (k+1))=val (l.take k) *10+(T[k].toNat-48)):=(by show _=_;rw[←dT.out,NM T k UE];exact Nh _ _);have c2:=aq hx;have a1:¬T[k].toNat<48:=(by omega);have a6:¬57<T[k].toNat:=(by omega);clear hx NO hp ba UF;go_wp2;go_round
         case rel=>exact⟨k+1,x *10+(T[k].toNat-48),by omega,by omega,by omega,by rw[b7.out,c2.out];omega,by go_num,by go_num⟩
         case measure=>simp[intOf];omega
        ·have hc:=(Jy T[k]).1 (ba.2 (by omega));clear hx ba UF;rcases hc with hc|hc
         ·go_wp2;go_ret2;rw[Be.out];exact⟨rfl,u'.out⟩
         ·have a1:¬T[k].toNat<48:=(by omega);go_wp2;go_ret2;rw[Be.out];exact⟨rfl,u'.out⟩
     ·have qL:k3 s.data.toList u fe D t=none:=ND (fun h=>az (by have:=h.2.2.1;rw[yj] at this;omega));have Be:=aq qL;clear qL aA q3 yj hlen;generalize (strip s.data.toList).1=b;go_wp2_with fail;go_ret2;rw[Be.out];exact⟨rfl,u'.out⟩
    ·have qL:k3 s.data.toList u fe D t=none:=ND (fun h=>av (by have:=h.2.1;rw[yj] at this;omega));have Be:=aq qL;clear qL aA q3 yj hlen;generalize (strip s.data.toList).1=b;go_wp2_with fail;go_ret2;rw[Be.out];exact⟨rfl,u'.out⟩
theorem UG(s:Ua)(l:au)(aA:af (s.data.toList=l))(u i d:Int)(t:Bool)(v:Int)(b:Bool)(aS:af ((k3 l u i d t).getD 0=v∧(k3 l u i d t).isSome=b))(hs:s.size≤9223372036854775807)(w:aeo):
  Calls Tryz.prog 146 #[aa s,H6 u i d t] w fun e w'=>e=ab (.tuple #[I v,U b])∧ao w w w':=by
 have av:=aA.out;obtain⟨az,aF⟩:=aS.out;subst av;subst az;subst aF;exact aoo s u i d t hs w
end Pw
