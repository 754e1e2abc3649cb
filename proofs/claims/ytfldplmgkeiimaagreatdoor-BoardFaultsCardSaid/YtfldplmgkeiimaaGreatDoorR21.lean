/- Lemmas. -/
import Derived.Test.YtfldplmgkeiimaaGreatDoorR20
set_option linter.all false
set_option maxRecDepth 100000
set_option maxHeartbeats 12800000
namespace Go.Proofs.YtfldplmgkeiimaaGreatDoor
abbrev Ef:=@Int.natAbs_mul
abbrev B6:=@Int.natAbs_natCast
abbrev Eg:=@Proofs.Tryz.func140
abbrev Eh:=@Proofs.Tryz.ntmps140
abbrev Ke:=@Proofs.Tryz.func150
abbrev Kf:=@Proofs.Tryz.ntmps150
namespace dd
open Go.RowKit ef
def B7(p:b3):Prop:=-536870912≤p.1∧p.1≤536870912∧-536870912≤p.2∧p.2≤536870912
structure oH(p:cT):Prop where
 gS:∀v∈p.top::p.levels,(v.fk.length:Int)≤p.made∧0≤v.n∧v.n≤10000∧0≤v.m∧v.m≤10000∧B7 v.fj
 ap:∀k a,p.jv k=some a→(a.fk.length:Int)≤p.made
 GK:0≤p.made
 md:p.made≤100000
 br:p.budget≤100000
 oF:p.levels.length≤16
 at_:B7 p.at_
 hC:p.fU.length≤1000000
variable{p q:cT}
theorem oH.aB(h:oH p):p.top.fk.length≤1000000:=by have:=(h.gS p.top (by simp)).1;have:=h.md;omega
theorem oH.aal(h:oH p):0≤p.made∧p.made≤1000000:=⟨h.GK,by have:=h.md;omega⟩
theorem oH.Tn(h:oH p):p.levels.length≤1000:=dx h.oF (by decide)
variable{d:Bool}{s:eg}
theorem To(h:oZ p d s=.ok q):q={p with made:=p.made+1,top:={p.top with fk:=p.top.fk++[(d,s)]}}∧p.made<p.budget:=by
 unfold oZ at h;split at h
 ·cases h
 ·split at h
  ·cases h
  ·injection h with h;exact⟨h.symm,by omega⟩
theorem oH.oZ{p q:cT}{d:Bool}{s:eg}(h:oH p)(aR:oZ p d s=.ok q):oH q:=by
 obtain⟨rfl,bR⟩:=To aR;have ax:=h.br;refine⟨fun v aY=>?_,fun k a ha=>?_,?_,?_,ax,h.oF,h.at_,h.hC⟩
 ·rcases List.mem_cons.1 aY with rfl|aY
  ·have av:=h.gS p.top (by simp);refine⟨?_,av.2⟩;show ((p.top.fk++[(d,s)]).length:Int)≤p.made+1;rw[iv];have:=av.1;simp;omega
  ·have av:=h.gS v (by simp[aY]);exact⟨by show _≤p.made+1;omega,av.2⟩
 ·have:=h.ap k a ha;show _≤p.made+1;omega
 ·show 0≤p.made+1;have:=h.GK;omega
 ·show p.made+1≤100000;omega
theorem oH.kG{p q:cT}{d:Bool}{s:eg}{t:gN}(h:oH p)(aR:kG p d s t=.ok q):oH q:=by
 unfold ef.kG at aR;split at aR
 ·cases aR
 ·exact h.oZ aR
theorem oH.lJ{f:Bool→Bool}{t:gN}:∀{l:List eu} {p q:cT},oH p→lJ f t l p=.ok q→oH q
 |[],p,q,h,aR=>by unfold ef.lJ at aR;injection aR with aR;exact aR ▸ h
 |o::l,p,q,h,aR=>by
  unfold ef.lJ at aR;split at aR
  ·cases aR
  ·rename_i r hr;exact oH.lJ (h.kG hr) aR
variable{t:gN}{e:Nat}
theorem akS{f:Bool→Bool}{o:eu}{l:List eu}(h:kG p (f o.1) o.2 t=.error e):lJ f t (o::l) p=.error e:=by rw[ef.lJ,h]
theorem akU{f:Bool→Bool}{o:eu}{l:List eu}(h:kG p (f o.1) o.2 t=.ok q):lJ f t (o::l) p=lJ f t l q:=by rw[ef.lJ,h]
theorem akV(h:oZ p d s=.error e):e=5∨e=6:=by
 unfold ef.oZ at h;split at h
 ·injection h with h;exact .inl h.symm
 ·split at h
  ·injection h with h;exact .inr h.symm
  ·cases h
theorem aam(h:kG p d s t=.error e):e=5∨e=6:=by
 unfold ef.kG at h;split at h
 ·injection h with h;exact .inl h.symm
 ·exact akV h
theorem aP.two{S yS:afp}{w X w':aeo}(av:ao w w X)(az:aP yS X w')(aC:∀k,S k→k<w.heap.size→yS k):aP S w w':=⟨az.os.trans av.os,az.tape.trans av.tape,az.output.trans av.output,dx av.size az.size,fun k hS ay=>(az.block k (aC k hS ay) (km ay av.size)).trans (av.block k ay)⟩
theorem akW(h:kG p d s t=.ok q):q.jw=p.jw:=by
 unfold ef.kG at h;split at h
 ·cases h
 ·rw[(To h).1]
theorem akX{w:aeo}{k:Nat}{v0 v1 v2 v3 v4 v5 v6 cj cD v9 v10 v11 v12 aan:ada}{t:aai}(h:an w k (#[v0,v1,v2,v3,v4,v5,v6,cj,cD,v9,v10,v11,v12,aan]) t):
  ak w k 0 v0∧ak w k 1 v1∧ak w k 2 v2∧ak w k 3 v3∧ak w k 4 v4∧ak w k 5 v5∧ak w k 6 v6∧ak w k 7 cj∧ak w k 8 cD∧ak w k 9 v9∧ak w k 10 v10∧ak w k 11 v11∧ak w k 12 v12∧ak w k 13 aan:=by
 refine⟨?_,?_,?_,?_,?_,?_,?_,?_,?_,?_,?_,?_,?_,?_⟩<;>simp[World.cell?,h]
theorem akY(w0:aeo)(P:Nat)(p:cT)(hG ty:Int)(cc w:aeo)(H:af (oE w0 P p cc))(ee:af (ao cc cc w))(hs:oH p)(ga:af (e1 hG∧e1 ty))(res:Except Nat cT)(dA:af (wW p (hG,ty)=res)):
  Calls Tryz.prog 149 #[ah P 0,.agg #[I hG,I ty]] w fun e w'=>jM w0 P res e w'∧aP (fun k=>cc.heap.size≤k) w w':=by
 obtain⟨R,m,L,fu,cv,ov,cx,ox,h⟩:=H.out;have qw:=aq h;have H1:=aq (h.below ee.out);have db:=aq hs;obtain⟨o,bm⟩:=ar (p.jv p.tM);have b6:=aq bm;obtain⟨rg,y1⟩:=ar p.region;have B8:=aq y1;clear h hs H bm y1;go_enter Tryz.func149,Tryz.ntmps149;go_upto_region 1 with fail;have dp:=aq (H1.out.below (a6 w (ai (#[I hG,I ty]) jT)));have qy:af ((w.alloc (ai (#[I hG,I ty]) jT)).heap[w.heap.size]?=some (.cells #[I hG,I ty] jT)):=bY _ _;have hU:af (ao w w (w.alloc (ai (#[I hG,I ty]) jT))):=a6 _ _;generalize w.alloc (.cells #[I hG,I ty] jT)=W at dp qy hU⊢;obtain⟨D,b2⟩:=ar w.heap.size;rw[b2] at qy⊢;clear b2 H1;have bZ:ak W P 6 (.map (some m)):=cell_of (i:=6) dp.out.pl rfl;have b':ak W P 7 (I p.tM):=cell_of (i:=7) dp.out.pl rfl;have Ei:ak W P 19 (U rg):=by rw[←B8.out];exact cell_of (i:=19) dp.out.pl rfl
 have uk:=lt_of_heap dp.out.pl;have An:m<W.heap.size:=by obtain⟨_,_,hm⟩:=dp.out.mp.map;exact lt_of_heap hm
 obtain⟨v,oy,aY⟩:=dp.out.mp.look p.tM;rw[b6.out] at oy aY;cases o with
 |none=>
  have aY:v=GC:=aY;subst aY;have aO:af (.error 4=res):=(by show _=_;rw[←dA.out];unfold wW;rw[b6.out]);have qk:=oy W.drew rfl;have mg:=oy (W.alloc (ai (#[I 0,I 0,I 0,I 0,I 0,I 0,I 0,I 0,J 0,J 0,I 0,U false,U false,J 0]) p6)).drew (A2 _ _ _ An);clear oy dA;go_region
  all_goals
   clear qk mg bZ b';cases rg
   all_goals
    go_wp2_with fail;go_ret;rw[←aO.out];exact⟨⟨dp.out.aX.trans (((a6 W _).drew).mono dp.out.aX.size),rfl⟩,aP.dW (hU.out.trans (((a6 W _).drew).mono hU.out.size))⟩
 |some a=>
  obtain⟨⟨⟨k,⟨a1,aZ⟩,⟨a8,bh⟩,⟨fW,fX⟩,r,l⟩,s⟩,sZ,B9,xC,fk⟩:=a;obtain⟨ql,dl,qp,cX,fF,kk,rfl,el,Kg,Il⟩:=aY;obtain⟨nl,gj⟩:=ar l.length;obtain⟨hE,sE⟩:=ar s.len;obtain⟨no,p7⟩:=ar fk.length;have qk:(Instr.lookup JW (.map (some m)) (I p.tM) true).run Tryz.prog W.drew=.ok (.tuple #[.agg #[I k,I a1,I aZ,I a8,I bh,I fW,I fX,I r,ad ql nl dl,ad qp hE cX,I sZ,U B9,U xC,ad fF no kk],U true]) W.drew:=(by rw[←gj,←sE,←p7];exact oy W.drew rfl);have mg:(Instr.lookup JW (.map (some m)) (I p.tM) true).run Tryz.prog (W.alloc (ai (#[I 0,I 0,I 0,I 0,I 0,I 0,I 0,I 0,J 0,J 0,I 0,U false,U false,J 0]) p6)).drew=.ok (.tuple #[.agg #[I k,I a1,I aZ,I a8,I bh,I fW,I fX,I r,ad ql nl dl,ad qp hE cX,I sZ,U B9,U xC,ad fF no kk],U true]) (W.alloc (ai (#[I 0,I 0,I 0,I 0,I 0,I 0,I 0,I 0,J 0,J 0,I 0,U false,U false,J 0]) p6)).drew:=(by rw[←gj,←sE,←p7];exact oy _ (A2 _ _ _ An));have qs:=aq gj;have zN:=aq sE;have Ao:=aq p7;have o3:af (dE R W ql dl qp cX ⟨⟨k,(a1,aZ),(a8,bh),(fW,fX),r,l⟩,s⟩):=el;have xn:af (h8 R W fF fk):=Kg;have awF:no≤1000000:=(by have av:=db.out.ap _ _ b6.out;have az:=db.out.md;have aC:(fk.length:Int)≤p.made:=av;rw[p7] at aC;omega);clear oy el Kg Il gj sE p7;have aO:af ((if rg=true then .error 4 else if xC=false then kG p p.jw ⟨⟨k,(a1,aZ),(a8,bh),(fW,fX),r,l⟩,s⟩ {p.dk with fj:=(hG,ty)} else lJ (fun d=>decide (d=p.jw)) {p.dk with fj:=(hG,ty)} fk p)=res):=(by show _=_;rw[←dA.out];unfold wW;rw[b6.out,←B8.out]);clear dA;go_region
  all_goals
   have eo:=aq (dp.out.below ((a6 W (ai (#[I k,I a1,I aZ,I a8,I bh,I fW,I fX,I r,ad ql nl dl,ad qp hE cX,I sZ,U B9,U xC,ad fF no kk]) p6)).drew));have nt:=aq (aU qy.out ((a6 W (ai (#[I k,I a1,I aZ,I a8,I bh,I fW,I fX,I r,ad ql nl dl,ad qp hE cX,I sZ,U B9,U xC,ad fF no kk]) p6)).drew));have dV:af (ao W W ((W.alloc (ai (#[I k,I a1,I aZ,I a8,I bh,I fW,I fX,I r,ad ql nl dl,ad qp hE cX,I sZ,U B9,U xC,ad fF no kk]) p6)).drew)):=(a6 W _).drew;have B':af ((W.alloc (ai (#[I k,I a1,I aZ,I a8,I bh,I fW,I fX,I r,ad ql nl dl,ad qp hE cX,I sZ,U B9,U xC,ad fF no kk]) p6)).drew.heap[W.heap.size]?=some (.cells #[I k,I a1,I aZ,I a8,I bh,I fW,I fX,I r,ad ql nl dl,ad qp hE cX,I sZ,U B9,U xC,ad fF no kk] p6)):=bY _ _;clear qk mg bZ b' Ei uk An qy;generalize (W.alloc (ai (#[I k,I a1,I aZ,I a8,I bh,I fW,I fX,I r,ad ql nl dl,ad qp hE cX,I sZ,U B9,U xC,ad fF no kk]) p6)).drew=c9 at eo nt dV B'⊢;obtain⟨T,fC⟩:=ar W.heap.size;rw[fC] at B'⊢;clear fC;have aao:=aq (o3.out.below dV.out);have aap:=aq (xn.out.below dV.out);have Ej:af (ao w w c9):=hU.out.trans (dV.out.mono hU.out.size);clear dp o3 xn hU dV;have Ei:ak c9 P 19 (U rg):=(by rw[←B8.out];exact cell_of (i:=19) eo.out.pl rfl);cases rg with
   |true=>
    have aO:af (.error 4=res):=aO.out;go_wp2_with fail;go_ret;rw[←aO.out];exact⟨⟨eo.out.aX,rfl⟩,aP.dW Ej.out⟩
   |false=>
    have akZ:ak c9 P 14 (U p.dk.bB):=cell_of (i:=14) eo.out.pl rfl;have ak0:ak c9 P 15 (U p.dk.bW):=cell_of (i:=15) eo.out.pl rfl;have ak1:ak c9 P 16 (I p.dk.q):=cell_of (i:=16) eo.out.pl rfl;have ak2:ak c9 P 17 (I p.dk.fj.1):=cell_of (i:=17) eo.out.pl rfl;have ak3:ak c9 P 18 (I p.dk.fj.2):=cell_of (i:=18) eo.out.pl rfl;obtain⟨d0,d1⟩:=Oz nt.out;have rQ:=lt_of_heap nt.out;go_upto_region 6 with fail;have j0:=aq (eo.out.below (a6 c9 (ai (#[U p.dk.bB,U p.dk.bW,I p.dk.q,I hG,I ty]) px)));have gb:af (ao c9 c9 (c9.alloc (ai (#[U p.dk.bB,U p.dk.bW,I p.dk.q,I hG,I ty]) px))):=a6 _ _;have Ek:af ((c9.alloc (ai (#[U p.dk.bB,U p.dk.bW,I p.dk.q,I hG,I ty]) px)).heap[c9.heap.size]?=some (.cells #[U p.dk.bB,U p.dk.bW,I p.dk.q,I hG,I ty] px)):=bY _ _;generalize c9.alloc (.cells #[U p.dk.bB,U p.dk.bW,I p.dk.q,I hG,I ty] px)=X at j0 gb Ek⊢;obtain⟨aaq,Gp⟩:=ar c9.heap.size;rw[Gp] at Ek⊢;have o7:af (cc.heap.size≤aaq):=(by show _;rw[←Gp];exact (ee.out.trans (Ej.out.mono ee.out.size)).size);clear Gp akZ ak0 ak1 ak2 ak3 Ei d0 d1 rQ nt;have B':=aq (aU B'.out gb.out);have rY:af (ao w w X):=Ej.out.trans (gb.out.mono Ej.out.size);have ak4:af (ao cc cc X):=ee.out.trans (rY.out.mono ee.out.size);have o3:=aq ((aao.out.below gb.out).mono (R:=fun k=>R k∨(cc.heap.size≤k∧k<X.heap.size)) fun _ _ h=>.inl h);have xn:=aq ((aap.out.below gb.out).mono (R:=fun k=>R k∨(cc.heap.size≤k∧k<X.heap.size)) fun _ _ h=>.inl h);clear eo gb Ej aao aap j0;have j0:=aq (qw.out.fresh ak4.out);have a':af (∀k,cc.heap.size≤k→k<w.heap.size→(fun k=>R k∨(cc.heap.size≤k∧k<X.heap.size)) k):=fun k av az=>.inr ⟨av,km az rY.out.size⟩;have aar:af ((fun k=>R k∨(cc.heap.size≤k∧k<X.heap.size)) aaq):=.inr ⟨o7.out,lt_of_heap Ek.out⟩;generalize (fun k=>R k∨(cc.heap.size≤k∧k<X.heap.size))=yS at j0 o3 xn a' aar;have Tp:ak X T 10 (I sZ):=cell_of (i:=10) B'.out rfl;have aas:ak X T 12 (U xC):=cell_of (i:=12) B'.out rfl;cases xC with
    |false=>
     have bw:af (kG p p.jw ⟨⟨k,(a1,aZ),(a8,bh),(fW,fX),r,l⟩,s⟩ {p.dk with fj:=(hG,ty)}=res):=aO.out;have wH:∀Z,ao X X Z→Calls Tryz.prog 152 #[ah P 0,U p.jw,.agg #[I k,I a1,I aZ,I a8,I bh,I fW,I fX,I r,ad ql nl dl,ad qp hE cX],.agg #[U p.dk.bB,U p.dk.bW,I p.dk.q,I hG,I ty]] Z fun e w'=>jM w0 P res e w'∧aP (fun k=>cc.heap.size≤k) w w':=(by intro Z eY;have av:=aak w0 P yS m L fu cv ov cx ox p p.jw ⟨k,(a1,aZ),(a8,bh),(fW,fX),r,l⟩ s ql dl qp cX {p.dk with fj:=(hG,ty)} X Z j0 eY o3 ga db.out.aB db.out.aal db.out.Tn res bw;rw[←qs.out,←zN.out];refine av.mono fun e w' h=>⟨h.res,aP.two (rY.out.trans (eY.mono rY.out.size)) h.2.1 fun k ay aA=>.inl (a'.out k ay aA)⟩);have cy:=aq wH;clear wH bw aO;obtain⟨g0,g1,g2,g3,g4,g5,g6,g7,g8,g9,g10,g11,g12,g13⟩:=akX B'.out;obtain⟨t0,t1,t2,t3,t4⟩:=tJ Ek.out;have M':ak X P 13 (U p.jw):=cell_of (i:=13) j0.out.pl rfl;clear Tp aas;go_upto_region 7 with fail
     go_region_law (first|(rw[bb (by rfl)];go_simp;go_at_call 152;with_reducible refine (cy.out _ ((Below.refl _ _).drew)).mono ?_;intro e cN dA;obtain⟨v6,rfl⟩:=dA.1.ret)|fail)
     all_goals
      clear g0 g1 g2 g3 g4 g5 g6 g7 g8 g9 g10 g11 g12 g13 t0 t1 t2 t3 t4 M';go_wp2_with fail;go_ret;exact dA
    |true=>
     have bw:af (lJ (fun d=>decide (d=p.jw)) {p.dk with fj:=(hG,ty)} fk p=res):=aO.out;have ak5:ak X T 13 (ad fF no kk):=cell_of (i:=13) B'.out rfl;clear aO o3;go_upto_region 9 with fail;clear Tp aas ak5
     go_loopw [52] (fun i wr=>∃(j:Nat) (q:cT) (GL:afp) (Tq:Nat) (Tr:qR) (Ts:Int) (Tt Tu:ada) (Tv Tw:aev) (aM:aeo),aM=wr∧j≤no∧i=I j∧af (gp w0 P GL Tq Tr Ts Tt Tu Tv Tw q aM)∧af (∀k,yS k→GL k)∧af (aP yS X aM)∧af (lJ (fun d=>decide (d=p.jw)) {p.dk with fj:=(hG,ty)} (fk.drop j) q=res)∧af (oH q)∧af (q.jw=p.jw)) (fun i _=>no -(intOf i).toNat)
     case atStart=>exact⟨0,p,yS,m,L,fu,cv,ov,cx,ox,_,rfl,dO _,rfl,j0.out,fun _ h=>h,aP.refl _ _,bw.out,db.out,rfl⟩
     case round=>
     obtain⟨j,q,GL,Tq,Tr,Ts,Tt,Tu,Tv,Tw,aM,rfl,cd,rfl,Ca,Tx,OA,Ty,OB,aat⟩:=hrel;clear j0 bw;by_cases bR:j<no
     ·have gU:(j:Int)<(no:Int):=(by omega);have fE:j<fk.length:=(by rw[Ao.out];exact bR);obtain⟨⟨od,⟨⟨k,⟨a1,aZ⟩,⟨a8,bh⟩,⟨fW,fX⟩,r,l⟩,s⟩⟩,Tz⟩:=ar (fk[j]);obtain⟨ht,lg,ql,dl,qp,cX,ak6,qt,_,aau,lM,dX,c2,fq,gx,iC,fV,ll,ln,kt,TA⟩:=(xn.out.keep OA.out).at fE Tz;subst ak6;have Kh:=aq (aau.mono (R:=GL) fun k _ h=>Tx.out k h);have DS:=aq Tz;obtain⟨nl,gj⟩:=ar l.length;obtain⟨hE,sE⟩:=ar s.len;simp only at dX c2 fq gx iC fV ll ln kt TA;rw[gj] at kt;rw[sE] at TA;have ak7:=aq gj;have ak8:=aq sE;have mB:(0:Int)≤(j:Int):=(by omega);clear aau Tz gj sE;go_upto_region 11 with fail;clear lM dX c2 fq gx iC fV ll ln kt TA;have eH:af (ao aM aM (aM.alloc (ai (#[U od,I k,I a1,I aZ,I a8,I bh,I fW,I fX,I r,ad ql nl dl,ad qp hE cX]) dq))):=a6 _ _;have OC:af ((aM.alloc (ai (#[U od,I k,I a1,I aZ,I a8,I bh,I fW,I fX,I r,ad ql nl dl,ad qp hE cX]) dq)).heap[aM.heap.size]?=some (.cells #[U od,I k,I a1,I aZ,I a8,I bh,I fW,I fX,I r,ad ql nl dl,ad qp hE cX] dq)):=bY _ _;generalize aM.alloc (.cells #[U od,I k,I a1,I aZ,I a8,I bh,I fW,I fX,I r,ad ql nl dl,ad qp hE cX] dq)=Y at eH OC⊢;obtain⟨awG,aav⟩:=ar aM.heap.size;rw[aav] at OC⊢;clear aav;have aaw:=aq (Ca.out.below eH.out);have s3:=aq (aU (OA.out.get aar.out Ek.out) eH.out);obtain⟨Ap,i7⟩:=ar (kG q (decide (od=p.jw)) ⟨⟨k,(a1,aZ),(a8,bh),(fW,fX),r,l⟩,s⟩ {p.dk with fj:=(hG,ty)});have tv:=aq i7;have aax:(od==q.jw)=decide (od=p.jw):=(by rw[aat.out];rfl);have wH:∀Z,ao Y Y Z→Calls Tryz.prog 152 #[ah P 0,U (od==q.jw),.agg #[I k,I a1,I aZ,I a8,I bh,I fW,I fX,I r,ad ql nl dl,ad qp hE cX],.agg #[U p.dk.bB,U p.dk.bW,I p.dk.q,I hG,I ty]] Z fun e w'=>vJ w0 P GL yS aM Ap e w':=(by intro Z eY;have av:=aak w0 P GL Tq Tr Ts Tt Tu Tv Tw q (decide (od=p.jw)) ⟨k,(a1,aZ),(a8,bh),(fW,fX),r,l⟩ s ql dl qp cX {p.dk with fj:=(hG,ty)} aM Z Ca (eH.out.trans (eY.mono eH.out.size)) Kh ga OB.out.aB OB.out.aal OB.out.Tn Ap tv;rw[←ak7.out,←ak8.out,aax];exact av.mono fun e w' h=>h.wide (eH.out.trans (eY.mono eH.out.size)) (fun k ay _=>.inl (Tx.out k ay)) (fun k ay=>ay));have cy:=aq wH;clear wH i7 aax;obtain⟨g0,g1,g2,g3,g4,g5,g6,g7,g8,g9,g10⟩:=pZ OC.out;obtain⟨t0,t1,t2,t3,t4⟩:=tJ s3.out;have M':ak Y P 13 (U q.jw):=cell_of (i:=13) aaw.out.pl rfl
      go_region_law (first|(rw[bb (by rfl)];go_simp;go_at_call 152;with_reducible refine (cy.out _ ((Below.refl _ _).drew)).mono ?_;intro e cN dA;obtain⟨v6,rfl⟩:=dA.res.ret)|fail)
      all_goals
       clear g0 g1 g2 g3 g4 g5 g6 g7 g8 g9 g10 t0 t1 t2 t3 t4 M' cy OC s3 aaw eH;obtain⟨i7,mY,TB⟩:=dA;have vN:=aq (OA.out.trans mY);have mb:=aq i7;cases Ap with
       |error a7=>
        have aY:v6=(a7:Int):=(by injection TB with h;injection h with _ h);subst aY;have IW:(((a7:Int)) !=0)=true:=by rcases aam tv.out with rfl|rfl<;>rfl
        have aO:af (.error a7=res):=(by show _=_;rw[←Ty.out,lD fE,DS.out];exact (akS tv.out).symm);clear i7 mY TB;go_wp2_with fail;go_ret;rw[←aO.out];exact⟨⟨mb.out,rfl⟩,aP.two rY.out vN.out fun k ay aA=>a'.out k ay aA⟩
       |ok cw=>
        obtain⟨aY,R',dj,ak9,f',ala,Ov,Ys,alb,Ot,aay⟩:=TB;have aY:v6=0:=(by injection aY with h;injection h with _ h);subst aY;have alc:=aq aay;have tr:af (∀k,yS k→R' k):=fun k ay=>Ot k (Tx.out k ay);have aO:af (lJ (fun d=>decide (d=p.jw)) {p.dk with fj:=(hG,ty)} (fk.drop (j+1)) cw=res):=(by show _=_;rw[←Ty.out,lD fE,DS.out];exact (akU tv.out).symm);have p1:=aq (OB.out.kG tv.out);have qy:af (cw.jw=p.jw):=(akW tv.out).trans aat.out;clear i7 mY aay Ot;go_wp2_with fail;go_round<;>first|exact⟨j+1,cw,R',dj,ak9,f',ala,Ov,Ys,alb,_,rfl,by omega,by go_num,alc.out,tr.out,vN.out,aO.out,p1.out,qy.out⟩|(simp[intOf]<;>omega)
     ·have iH:j=no:=(by omega);subst iH;have aO:af (.ok q=res):=(by show _=_;rw[←Ty.out,mU (by rw[Ao.out];exact bx _)];rfl);go_wp2_with fail;go_ret;rw[←aO.out];exact⟨jM.B0 rfl Ca.out,aP.two rY.out OA.out fun k ay aA=>a'.out k ay aA⟩
end dd
namespace dd
open Go.RowKit ef
open ct (C)
open iS (lu jm)
theorem ald(l:au):(⟨l.toArray⟩:Ua).toList.isEmpty=decide (l=[]):=by rw[mV];cases l<;>simp
end dd
namespace GM
open Go.RowKit ig kR n1 ym
abbrev GN(u i d:Int)(t:Bool):Value:=.agg #[I u,I i,I d,U t]
abbrev Aq(u i d:Int)(t:Bool):Obj:=.cells #[I u,I i,I d,U t] 161
theorem aaz(u:Int)(w:aeo):Calls Tryz.prog 188 #[I u] w fun e w'=>e=ab (I (sn u))∧w=w':=by
 go_enter Tryz.func188,Tryz.ntmps188;by_cases av:u=1
 ·subst av;go_wp2;go_ret;exact⟨rfl,rfl⟩
 ·by_cases az:u=2
  ·subst az;go_wp2;go_ret;exact⟨rfl,rfl⟩
  ·have hp:sn u=0:=(by simp[sn,av,az]);have bT:=aq hp;have cS:(u==1)=false:=(by simp[av]);have bq:(u==2)=false:=(by simp[az]);clear hp;go_wp2;go_ret;rw[bT.out];exact⟨rfl,rfl⟩
theorem OD(u p:Int)(hp:af (sn u=p))(w:aeo):Calls Tryz.prog 188 #[I u] w fun e w'=>e=ab (I p)∧w=w':=by have:=hp.out;subst this;exact aaz u w
theorem pt{k:IntKind}{a b:Int}(h:a=b):Ending.returned (.int k a)=ab (.int k b):=by rw[h]
theorem ale(n:Int)(k:Nat)(ay:k≤18)(ax:n.natAbs *10^k≤1000000000000000000)(v:Int)(aY:af (n *((10^k:Nat):Int)=v))(w:aeo):
  Calls Tryz.prog 186 #[I n,I k] w fun e w'=>e=ab (I v)∧w=w':=by
 have aI:=aq ax;clear ax;go_enter Tryz.func186,Tryz.ntmps186;go_wp2
 go_loop [0,6] (fun v i=>∃(j:Nat) (x:Int),j≤k∧x=n *((10^j:Nat):Int)∧i=I j∧v=I x) (fun _ i=>k -(intOf i).toNat)
 case atStart=>exact⟨0,n,dO _,by simp,rfl,rfl⟩
 case round=>
  obtain⟨j,x,cd,hx,rfl,rfl⟩:=hrel;by_cases bR:j<k
  ·have er:x.natAbs *10≤1000000000000000000:=(by have av:x.natAbs=n.natAbs *10^j:=(by rw[hx,Ef,B6]);rw[av,Qm,←Fg];exact dx (Nat.mul_le_mul_left _ (wz (by decide) bR)) aI.out);have dc:-100000000000000000≤x:=(by omega);have im:x≤100000000000000000:=(by omega);have cR:af (x *10=n *((10 ^(j+1):Nat):Int)):=(by show _=_;rw[hx,Fg,IP,Int.mul_assoc];rfl);clear hx er;go_wp2;go_round
   case rel=>exact⟨j+1,x *10,by omega,cR.out,by go_num,rfl⟩
   case measure=>simp[intOf];omega
  ·obtain rfl:j=k:=(by omega);have cR:=aq hx;clear hx;go_wp2;go_ret;exact⟨pt (cR.out.trans aY.out),rfl⟩
theorem TC(n:Int)(i:Int)(k:Nat)(hi:i=k)(ay:k≤18)(ax:n.natAbs *10^k≤1000000000000000000)(v:Int)(aY:af (n *((10^k:Nat):Int)=v))(w:aeo):
  Calls Tryz.prog 186 #[I n,I i] w fun e w'=>e=ab (I v)∧w=w':=by
 subst hi;exact ale n k ay ax v aY w
theorem alf(u i d:Int)(t:Bool)(w:aeo):Calls Tryz.prog 140 #[GN u i d t] w fun e w'=>e=ab (U (so u i d))∧w.alloc (Aq u i d t)=w':=by
 cases hf:so u i d with
 |true=>
  obtain⟨av,az,aC,bt,cr,c4⟩:=(Rb u i d).1 hf;clear hf;rcases av with rfl|rfl
  all_goals
   go_enter Eg,Eh;by_cases ez:0<i
   ·go_wp2;go_ret;exact⟨rfl,rfl⟩
   ·have eS:0<d:=(by omega);go_wp2;go_ret;exact⟨rfl,rfl⟩
 |false=>
  have hn:¬((u=1∨u=2)∧0≤i∧i≤6∧0≤d∧d≤6∧0<i+d):=(fun h=>by rw[(Rb u i d).2 h] at hf;cases hf);clear hf;by_cases av:u=1∨u=2
  ·have h1:¬(0≤i∧i≤6∧0≤d∧d≤6∧0<i+d):=fun h=>hn ⟨av,h⟩;clear hn;rcases av with rfl|rfl
   all_goals
    by_cases aN:0≤i
    ·by_cases aJ:i≤6
     ·by_cases c3:0≤d
      ·by_cases bF:d≤6
       ·have c5:¬0<i:=(by omega);have bZ:¬0<d:=(by omega);clear h1;go_enter Eg,Eh;go_wp2;go_ret;exact⟨rfl,rfl⟩
       ·clear h1;go_enter Eg,Eh;go_wp2;go_ret;exact⟨rfl,rfl⟩
      ·clear h1;go_enter Eg,Eh;go_wp2;go_ret;exact⟨rfl,rfl⟩
     ·clear h1;go_enter Eg,Eh;go_wp2;go_ret;exact⟨rfl,rfl⟩
    ·clear h1;go_enter Eg,Eh;go_wp2;go_ret;exact⟨rfl,rfl⟩
  ·clear hn;have cS:(u==1)=false:=(by simp;omega);have bq:(u==2)=false:=(by simp;omega);have fA:(u !=1)=true:=(by simp;omega);have GO:(u !=2)=true:=(by simp;omega);clear av;go_enter Eg,Eh;go_wp2;go_ret;exact⟨rfl,rfl⟩
theorem OE(u i d:Int)(t:Bool)(b:Bool)(ax:af (so u i d=b))(w:aeo):Calls Tryz.prog 140 #[GN u i d t] w fun e w'=>e=ab (U b)∧w.alloc (Aq u i d t)=w':=by have:=ax.out;subst this;exact alf u i d t w
theorem alg{n:Int}(h:tk n=true):-1000000000000<n∧n<1000000000000:=(afx n).1 h
theorem alh(n u:Int)(w:aeo):
  Calls Tryz.prog 150 #[I n,I u] w fun e w'=>e=ab (.tuple #[I ((h6 n u).getD 0),U (h6 n u).isSome])∧w=w':=by
 cases eF:tk n with
 |false=>
  have aF:h6 n u=none:=(by unfold h6;rw[aW];rintro⟨h,_⟩;rw[eF] at h;cases h);have e0:=aq aF;have qT:=aq eF;clear aF eF;go_enter Ke,Kf;go_wp2_with fail;refine (aaz u _).mono ?_;rintro e w' ⟨rfl,rfl⟩;generalize sn u=p;go_wp2_with fail;refine (H3 n _).mono ?_;rintro e w' ⟨rfl,rfl⟩;rw[qT.out];go_wp2_with fail;go_ret2;rw[e0.out];exact⟨rfl,rfl⟩
 |true=>
  have ax:=alg eF;obtain⟨er,dc⟩:=ax;by_cases hu:u=1∨u=2
  ·have hp:=ag9 hu;obtain⟨p,GP⟩:=ar (sn u);rw[GP] at hp;have bT:=aq GP;have qT:=aq eF;by_cases hr:-536870912≤n *p∧n *p≤536870912
   ·have aF:h6 n u=some (n *p):=(by unfold h6;rw[GP,bb ⟨eF,hu,hr⟩]);have e0:=aq aF;obtain⟨iJ,l'⟩:=hr;clear aF eF GP hu;rcases hp with rfl|rfl
    all_goals
     go_enter Ke,Kf;go_wp2_with fail;refine (OD u _ bT _).mono ?_;rintro e w' ⟨rfl,rfl⟩;go_wp2_with fail;refine (H3 n _).mono ?_;rintro e w' ⟨rfl,rfl⟩;rw[qT.out];go_wp2_with fail;go_ret2;rw[e0.out];exact⟨rfl,rfl⟩
   ·have aF:h6 n u=none:=(by unfold h6;rw[GP,aW];rintro⟨_,_,h⟩;exact hr h);have e0:=aq aF;clear aF eF GP hu;by_cases iJ:-536870912≤n *p
    ·have l':¬n *p≤536870912:=fun h=>hr ⟨iJ,h⟩;clear hr;rcases hp with rfl|rfl
     all_goals
      go_enter Ke,Kf;go_wp2_with fail;refine (OD u _ bT _).mono ?_;rintro e w' ⟨rfl,rfl⟩;go_wp2_with fail;refine (H3 n _).mono ?_;rintro e w' ⟨rfl,rfl⟩;rw[qT.out];go_wp2_with fail;go_ret2;rw[e0.out];exact⟨rfl,rfl⟩
    ·clear hr;rcases hp with rfl|rfl
     all_goals
      go_enter Ke,Kf;go_wp2_with fail;refine (OD u _ bT _).mono ?_;rintro e w' ⟨rfl,rfl⟩;go_wp2_with fail;refine (H3 n _).mono ?_;rintro e w' ⟨rfl,rfl⟩;rw[qT.out];go_wp2_with fail;go_ret2;rw[e0.out];exact⟨rfl,rfl⟩
  ·have aF:h6 n u=none:=(by unfold h6;rw[aW];rintro⟨_,h,_⟩;exact hu h);have hp:sn u=0:=(by unfold sn;rw[aW (fun h=>hu (.inl h)),aW (fun h=>hu (.inr h))]);have e0:=aq aF;have bT:=aq hp;have qT:=aq eF;clear aF eF hp hu;go_enter Ke,Kf;go_wp2_with fail;refine (OD u _ bT _).mono ?_;rintro e w' ⟨rfl,rfl⟩;go_wp2_with fail;refine (H3 n _).mono ?_;rintro e w' ⟨rfl,rfl⟩;rw[qT.out];go_wp2_with fail;go_ret2;rw[e0.out];exact⟨rfl,rfl⟩
theorem GQ(n u v:Int)(b:Bool)(aY:af ((h6 n u).getD 0=v∧(h6 n u).isSome=b))(w:aeo):
  Calls Tryz.prog 150 #[I n,I u] w fun e w'=>e=ab (.tuple #[I v,U b])∧w=w':=by
 obtain⟨av,az⟩:=aY.out;subst av;subst az;exact alh n u w
end GM
namespace ym
open ig
open Go.Lib (decDigits nDigits trimRightB dg)
def El(l:au)(size d:Nat)(t:Bool):Nat:=val l *(if t then 10 ^(size-l.length) else 1) *10 ^(6-d)
variable{l:au}
theorem OF{u i d:Int}{t:Bool}(h:¬(so u i d=true∧1≤(strip l).2.length∧((strip l).2.length:Int)≤i+d∧bn (strip l).2=(strip l).2.length)):hH l u i d t=none:=by unfold hH;rw[aW h]
theorem ali{u:Int}{e' D:Nat}{t:Bool}(h:so u e' D=true∧1≤(strip l).2.length∧((strip l).2.length:Int)≤(e':Int)+D∧bn (strip l).2=(strip l).2.length):
  hH l u e' D t=h6 (if (strip l).1 then -((El (strip l).2 (e'+D) D t:Nat):Int) else ((El (strip l).2 (e'+D) D t:Nat):Int)) u:=by
 unfold hH;rw[bb h];rfl
theorem alj(h:bn l=l.length):val l<10^l.length:=by
 have:=CJ l l.length (by omega)
 rwa [uJ] at this
variable{size:Nat}
theorem alk{v:Nat}(hs:1≤size):nDigits v≤size↔v<10^size:=by
 constructor
 ·intro h;have av:=Lib.lt_pow_nDigits v;have az:10^nDigits v≤10^size:=wz (by decide) h;omega
 ·intro h;exact Wm size v h hs
theorem Wy{v:Nat}{t:Bool}(hs:1≤size)(h:v<10^size):1≤(Rc v size t).length∧(Rc v size t).length≤size:=by
 unfold Rc;split
 ·split
  ·exact⟨bx _,hs⟩
  ·rename_i hne;have av:=afz (pad v size) 48;rw[afy] at av;refine⟨?_,av⟩;cases hx:trimRightB (pad v size) 48 with
   |nil=>exact absurd hx hne
   |cons _ _=>simp
 ·rw[Lib.decDigits_length];exact⟨Lib.nDigits_pos v,(alk hs).2 h⟩
end ym
namespace GM
open Go.RowKit ig kR n1 ym
theorem alm(s:Ua)(u i d:Int)(t:Bool)(hs:s.size≤9223372036854775807)(w:aeo):
  Calls Tryz.prog 146 #[aa s,GN u i d t] w fun e w'=>e=ab (.tuple #[I ((hH s.data.toList u i d t).getD 0),U (hH s.data.toList u i d t).isSome])∧ao w w w':=by
 cases hf:so u i d with
 |false=>
  have hZ:hH s.data.toList u i d t=none:=OF (fun h=>by rw[hf] at h;cases h.1);have bd:=aq hZ;have aO:=aq hf;clear hZ hf;go_enter Tryz.func146,Tryz.ntmps146;go_wp2_with fail;refine (OE u i d t false aO _).mono ?_;rintro e w' ⟨rfl,rfl⟩;go_wp2_with fail;go_ret2;rw[bd.out];exact⟨rfl,((Below.refl _ _).alloc (bx _) _).alloc (by simp) _⟩
 |true=>
  have yB:=(Rb u i d).1 hf;obtain⟨e',rfl⟩:∃e':Nat,i=e':=⟨i.toNat,by omega⟩;obtain⟨D,rfl⟩:∃D:Nat,d=D:=⟨d.toNat,by omega⟩;have D6:e'≤6:=(by omega);have b2:D≤6:=(by omega);have aO:=aq hf;clear hf yB;go_enter Tryz.func146,Tryz.ntmps146;go_wp2_with fail;refine (OE u e' D t true aO _).mono ?_;rintro e w' ⟨rfl,rfl⟩;go_upto_region 4 with fail;go_cut [24] (fun c dw=>c=U (ye s.data.toList)∧(w.alloc (Aq u e' D t)).alloc (Aq u e' D t)=dw)
  case first=>
   by_cases aS:0<s.size
   ·have aI:=aq (QF s aS);have hne:s.toList.isEmpty=false:=(by rw[mV,zl s aS];rfl);have CQ:¬s.toList=[]:=(by intro h;rw[h] at hne;cases hne);by_cases wB:s[0].toNat=43
    all_goals
     go_wp2;go_meet;refine⟨fp Value.bool ?_,rfl⟩;rw[aI.out];simp[wB,Me];try omega
   ·have aI:=aq (QG s aS);have hne:s.toList=[]:=(by rw[mV];exact Mf s aS);go_wp2;go_meet;exact⟨fp Value.bool aI.out.symm,rfl⟩
  case rest=>
   obtain⟨rfl,rfl⟩:=hcut;go_upto_if 24 with fail;go_cut [0,6] (fun a b dw=>∃T:Ua,a=aa T∧T.size≤9223372036854775807∧T.data.toList=(strip s.data.toList).2∧b=U (strip s.data.toList).1∧(w.alloc (Aq u e' D t)).alloc (Aq u e' D t)=dw)
   case first=>
    cases aF:ye s.data.toList with
    |true=>
     have aS:=WE aF;have db:=aq (WD s aS aF);clear aF;go_wp2;go_meet;rw[db.out];exact⟨_,rfl,by simp;omega,WB s,fp Value.bool (Me _),rfl⟩
    |false=>
     have db:=aq (WC aF);clear aF;go_wp2;go_meet;rw[db.out];exact⟨_,rfl,hs,rfl,rfl,rfl⟩
   case rest=>
    obtain⟨T,rfl,bE,aA,rfl,rfl⟩:=hcut;have tz:ao w w ((w.alloc (Aq u e' D t)).alloc (Aq u e' D t)):=((Below.refl _ _).alloc (bx _) _).alloc (by simp) _;have ue:=aq tz;clear tz;obtain⟨l,qh⟩:=ar T.data.toList;have hlen:l.length=T.size:=(by rw[←qh];simp);have xD:(strip s.data.toList).2=l:=(by rw[←aA,qh]);by_cases av:1≤T.size
    ·by_cases az:T.size≤e'+D
     ·by_cases aC:bn l=l.length
      ·have TD:=ali (t:=t) ⟨aO.out,by rw[xD];omega,by rw[xD];omega,by rw[xD];exact aC⟩;rw[xD] at TD;have aY:=alj aC;have aaA:val l<10^T.size:=(by rw[←hlen];exact aY);have c1:=aq TD;have eo:=aq aC;have dn:=aq qh;have b0:=aq aaA;have oz:=aq hlen;clear TD aC aA qh aY aaA xD hlen;generalize (strip s.data.toList).1=b at c1⊢;go_wp2_with fail
       go_loop [8,46] (fun v i=>∃(k:Nat) (x:Int),k≤T.size∧0≤x∧x<1000000000000∧x=val (l.take k)∧i=I k∧v=I x) (fun _ i=>T.size -(intOf i).toNat)
       case atStart=>exact⟨0,0,dO _,by omega,by omega,rfl,rfl,rfl⟩
       case round=>
        obtain⟨k,x,ay,xE,nV,hx,rfl,rfl⟩:=hrel;by_cases bR:k<T.size
        ·have aaB:fi T[k]=true:=(by have bt:=(x9 l).1 k (by rw[oz.out];exact bR) (by rw[eo.out,oz.out];exact bR);have:T.data.toList[k]'(by simpa using bR)=T[k]:=nG T k bR;rw[←this];have e:∀(m:au) (h:k<m.length),m=l→fi m[k]=true:=(by intro m h hm;subst hm;exact bt);exact e _ _ dn.out);obtain⟨Jo,OG⟩:=(ph T[k]).1 aaB;have Mh:=CJ l k (by rw[eo.out,oz.out];omega);have hp:(10:Nat)^ k≤10^11:=wz (by decide) (by omega);have GR:x<100000000000:=(by omega);have db:af (val (l.take (k+1))=val (l.take k) *10+(T[k].toNat-48)):=(by show _=_;rw[←dn.out,H2 T k bR];exact HU _ _);have cR:=aq hx;have a7:¬T[k].toNat<48:=(by omega);have bf:¬57<T[k].toNat:=(by omega);clear hx Mh hp aaB;go_wp2;go_round
         case rel=>exact⟨k+1,x *10+(T[k].toNat-48),by omega,by omega,by omega,by rw[db.out,cR.out];omega,by go_num,by go_num⟩
         case measure=>simp[intOf];omega
        ·obtain rfl:k=T.size:=(by omega);have TE:x=(val l:Nat):=(by rw[hx,wq (by rw[oz.out];exact bx _)]);have GR:x.natAbs<10^T.size:=(by rw[TE,B6];exact b0.out);have aaC:=aq TE;have aaD:x.natAbs≤1000000000000:=(by omega);clear hx TE;have fin:∀m:Int,0≤m→m=((El l (e'+D) D t:Nat):Int)→∃(v:Int) (o:Bool),((h6 (if b then -m else m) u).getD 0=v∧(h6 (if b then -m else m) u).isSome=o)∧(hH s.data.toList u e' D t).getD 0=v∧(hH s.data.toList u e' D t).isSome=o:=(by intro m _ hm;refine⟨_,_,⟨rfl,rfl⟩,?_⟩;rw[c1.out,hm];exact⟨rfl,rfl⟩);have aaE:=aq fin;clear fin;cases t with
         |true=>
          obtain⟨y,hy⟩:∃y:Int,x *((10 ^(e'+D-T.size):Nat):Int)=y:=⟨_,rfl⟩;obtain⟨z,cz⟩:∃z:Int,y *((10 ^(6-D):Nat):Int)=z:=⟨_,rfl⟩
          have aaF:y.natAbs<10 ^(e'+D):=by
           rw[←hy,Ef,B6];have:=L' GR (HY (n:=e'+D-T.size) (show 0<10 by decide))
           rwa [←Ma,show T.size+(e'+D-T.size)=e'+D by omega] at this
          have GS:z.natAbs<10 ^(e'+6):=by
           rw[←cz,Ef,B6];have:=L' aaF (HY (n:=6-D) (show 0<10 by decide))
           rwa [←Ma,show e'+D+(6-D)=e'+6 by omega] at this
          have er:x.natAbs *10 ^(e'+D-T.size)≤1000000000000000000:=(by have av:x.natAbs *10 ^(e'+D-T.size)=y.natAbs:=(by rw[←hy,Ef,B6]);have az:=IC (e'+D) (by omega);omega);have dc:y.natAbs *10 ^(6-D)≤1000000000000000000:=(by have av:y.natAbs *10 ^(6-D)=z.natAbs:=(by rw[←cz,Ef,B6]);have az:=IC (e'+6) (by omega);omega);have TF:=IC (e'+6) (by omega);have dy:0≤z:=(by rw[←cz,←hy];exact jV (jV xE (Fq _)) (Fq _));have dJ:z≤1000000000000:=(by omega);have Ki:z=((El l (e'+D) D true:Nat):Int):=(by unfold El;rw[bb rfl,←cz,←hy,aaC.out,oz.out,IP,IP]);obtain⟨v,o,sN,rf,Cb⟩:=aaE.out z dy Ki;have vA:=aq sN;have lh:=aq rf;have oW:=aq Cb;have t':=aq hy;have TG:=aq cz;have cC:=aq er;have c6:=aq dc;clear hy cz aaF GS er dc TF Ki sN rf Cb GR aaD;go_wp2_with fail;refine (TC x _ (e'+D-T.size) (by omega) (by omega) cC.out y t' _).mono ?_;rintro e w' ⟨rfl,rfl⟩;go_wp2_with fail;refine (TC y _ (6-D) (by omega) (by omega) c6.out z TG _).mono ?_;rintro e w' ⟨rfl,rfl⟩;cases b with
          |true=>
           have xF:af ((h6 (-z) u).getD 0=v∧(h6 (-z) u).isSome=o):=vA.out;go_wp2_with fail;with_reducible refine (GQ _ u v o xF _).mono ?_
           rintro e w' ⟨rfl,rfl⟩;go_wp2_with fail;go_ret2;rw[lh.out,oW.out];exact⟨rfl,ue.out⟩
          |false=>
           have xF:af ((h6 z u).getD 0=v∧(h6 z u).isSome=o):=vA.out;go_wp2_with fail;with_reducible refine (GQ _ u v o xF _).mono ?_
           rintro e w' ⟨rfl,rfl⟩;go_wp2_with fail;go_ret2;rw[lh.out,oW.out];exact⟨rfl,ue.out⟩
         |false=>
          obtain⟨z,cz⟩:∃z:Int,x *((10 ^(6-D):Nat):Int)=z:=⟨_,rfl⟩;have GS:z.natAbs<10 ^(e'+6):=(by rw[←cz,Ef,B6];have av:=L' GR (HY (n:=6-D) (show 0<10 by decide));rw[←Ma] at av;exact km av (wz (by decide) (by omega)));have dc:x.natAbs *10 ^(6-D)≤1000000000000000000:=(by have av:x.natAbs *10 ^(6-D)=z.natAbs:=(by rw[←cz,Ef,B6]);have az:=IC (e'+6) (by omega);omega);have TF:=IC (e'+6) (by omega);have dy:0≤z:=(by rw[←cz];exact jV xE (Fq _));have dJ:z≤1000000000000:=(by omega);have Ki:z=((El l (e'+D) D false:Nat):Int):=(by unfold El;rw[aW (by decide),←cz,aaC.out,IP,Nat.mul_one]);obtain⟨v,o,sN,rf,Cb⟩:=aaE.out z dy Ki;have vA:=aq sN;have lh:=aq rf;have oW:=aq Cb;have TG:=aq cz;have c6:=aq dc;clear cz GS dc TF Ki sN rf Cb GR aaD;go_wp2_with fail;refine (TC x _ (6-D) (by omega) (by omega) c6.out z TG _).mono ?_;rintro e w' ⟨rfl,rfl⟩;cases b with
          |true=>
           have xF:af ((h6 (-z) u).getD 0=v∧(h6 (-z) u).isSome=o):=vA.out;go_wp2_with fail;with_reducible refine (GQ _ u v o xF _).mono ?_
           rintro e w' ⟨rfl,rfl⟩;go_wp2_with fail;go_ret2;rw[lh.out,oW.out];exact⟨rfl,ue.out⟩
          |false=>
           have xF:af ((h6 z u).getD 0=v∧(h6 z u).isSome=o):=vA.out;go_wp2_with fail;with_reducible refine (GQ _ u v o xF _).mono ?_
           rintro e w' ⟨rfl,rfl⟩;go_wp2_with fail;go_ret2;rw[lh.out,oW.out];exact⟨rfl,ue.out⟩
      ·have p7:hH s.data.toList u e' D t=none:=OF (fun h=>aC (by have:=h.2.2.2;rwa [xD] at this));have Ao:=aq p7;have gj:=qd l;have awH:bn l<T.size:=(by omega);have dn:=aq qh;have oz:=aq hlen;clear p7 aC aA qh xD hlen gj;generalize (strip s.data.toList).1=b;go_wp2_with fail
       go_loop [8,46] (fun v i=>∃(k:Nat) (x:Int),k≤bn l∧0≤x∧x<1000000000000∧x=val (l.take k)∧i=I k∧v=I x) (fun _ i=>T.size -(intOf i).toNat)
       case atStart=>exact⟨0,0,dO _,by omega,by omega,rfl,rfl,rfl⟩
       case round=>
        obtain⟨k,x,ay,xE,nV,hx,rfl,rfl⟩:=hrel;have TH:k<T.size:=(by omega);have TI:∀(m:au) (h:k<m.length),m=l→(k<bn l→fi m[k]=true)∧(bn l=k→fi m[k]=false):=(by intro m h hm;subst hm;exact⟨fun bt=>(x9 m).1 k h bt,fun bt=>by have:=(x9 m).2 (by omega);simpa[bt] using this⟩);have aF:=TI T.data.toList (by simpa using TH) dn.out;rw[nG T k TH] at aF;by_cases bR:k<bn l
        ·obtain⟨Jo,OG⟩:=(ph T[k]).1 (aF.1 bR);have Mh:=CJ l k (by omega);have hp:(10:Nat)^ k≤10^11:=wz (by decide) (by omega);have GR:x<100000000000:=(by omega);have db:af (val (l.take (k+1))=val (l.take k) *10+(T[k].toNat-48)):=(by show _=_;rw[←dn.out,H2 T k TH];exact HU _ _);have cR:=aq hx;have a7:¬T[k].toNat<48:=(by omega);have bf:¬57<T[k].toNat:=(by omega);clear hx Mh hp aF TI;go_wp2;go_round
         case rel=>exact⟨k+1,x *10+(T[k].toNat-48),by omega,by omega,by omega,by rw[db.out,cR.out];omega,by go_num,by go_num⟩
         case measure=>simp[intOf];omega
        ·have hc:=(zh T[k]).1 (aF.2 (by omega));clear hx aF TI;rcases hc with hc|hc
         ·go_wp2;go_ret2;rw[Ao.out];exact⟨rfl,ue.out⟩
         ·have a7:¬T[k].toNat<48:=(by omega);go_wp2;go_ret2;rw[Ao.out];exact⟨rfl,ue.out⟩
     ·have p7:hH s.data.toList u e' D t=none:=OF (fun h=>az (by have:=h.2.2.1;rw[xD] at this;omega));have Ao:=aq p7;clear p7 aA qh xD hlen;generalize (strip s.data.toList).1=b;go_wp2_with fail;go_ret2;rw[Ao.out];exact⟨rfl,ue.out⟩
    ·have p7:hH s.data.toList u e' D t=none:=OF (fun h=>av (by have:=h.2.1;rw[xD] at this;omega));have Ao:=aq p7;clear p7 aA qh xD hlen;generalize (strip s.data.toList).1=b;go_wp2_with fail;go_ret2;rw[Ao.out];exact⟨rfl,ue.out⟩
theorem TJ(s:Ua)(l:au)(aA:af (s.data.toList=l))(u i d:Int)(t:Bool)(v:Int)(b:Bool)(aY:af ((hH l u i d t).getD 0=v∧(hH l u i d t).isSome=b))(hs:s.size≤9223372036854775807)(w:aeo):
  Calls Tryz.prog 146 #[aa s,GN u i d t] w fun e w'=>e=ab (.tuple #[I v,U b])∧ao w w w':=by
 have av:=aA.out;obtain⟨az,aC⟩:=aY.out;subst av;subst az;subst aC;exact alm s u i d t hs w
end GM
