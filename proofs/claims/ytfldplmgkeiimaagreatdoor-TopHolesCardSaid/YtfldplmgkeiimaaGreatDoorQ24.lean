/- Lemmas. -/
import Derived.Test.YtfldplmgkeiimaaGreatDoorQ23
set_option linter.all false
set_option maxRecDepth 100000
set_option maxHeartbeats 12800000
namespace Go.Proofs.YtfldplmgkeiimaaGreatDoor
abbrev Qm:=@Proofs.Tryz.func96
abbrev Qn:=@Proofs.Tryz.ntmps96
abbrev Qo:=@List.reverse_cons
namespace dE
open Go.RowKit el
open cf (C)
open jj (kd jk fa)
abbrev iy(ca cN cn cC:Int)(db:Bool)(bj dZ d' dO bn:bk)(dd bv:ada):Array Value:= #[I ca,I cN,I cn,I cC,ai db,au ⟨bj.toArray⟩,au ⟨dZ.toArray⟩,au ⟨d'.toArray⟩,au ⟨dO.toArray⟩,au ⟨bn.toArray⟩,dd,bv]
theorem FD(B:Nat)(c:C)(ca:Int)(q:aya)(k:Nat)(bv:ada)(i:Nat)(w:bTo)(hn:J (fa B w q c.cj))(aj:c.cj.length≤1000000000)(hi:i≤10)(v:Int)(aS:J (jP c i=v)):
  Calls Tryz.prog 143 #[kd c ca (ad q c.cj.length k) bv,I (i:Int)] w fun e w'=>e=bb (I v)∧av w w w':=by
 obtain⟨cN,cn,cC,db,bj,dZ,d',dO,bn,c7,hq⟩:=c;obtain⟨n,eY⟩:=az c7.length;have a1:=U eY;have cd:J (c7.getD i 0=v):=aS;have an6:J (fa B w q c7):=hn;have kb:n≤1000000000:=by rw[←eY];exact aj
 show Calls _ _ #[.agg #[I ca,I cN,I cn,I cC,ai db,au ⟨bj.toArray⟩,au ⟨dZ.toArray⟩,au ⟨d'.toArray⟩,au ⟨dO.toArray⟩,au ⟨bn.toArray⟩,ad q c7.length k,bv],I (i:Int)] w _;rw[eY];clear hn aj aS eY;go_enter Tryz.func143,Tryz.ntmps143;go_upto_region 1 with fail;have aH:J (av w w (w.alloc (aD (iy ca cN cn cC db bj dZ d' dO bn (ad q n k) bv) gP))):=ba _ _;have cI:J ((w.alloc (aD (iy ca cN cn cC db bj dZ d' dO bn (ad q n k) bv) gP)).heap[w.heap.size]?=some (.cells (iy ca cN cn cC db bj dZ d' dO bn (ad q n k) bv) gP)):=cw _ _;generalize w.alloc (.cells (iy ca cN cn cC db bj dZ d' dO bn (ad q n k) bv) gP)=W at aH cI⊢;obtain⟨D,bZ⟩:=az w.heap.size;have ht:=U bZ;rw[bZ] at cI⊢;have d10:aw W D 10 (ad q n k):=cell_of (i:=10) cI.out rfl;clear bZ;by_cases b0:i<n
 ·have ib:(i:Int)<(n:Int):=(by omega);have lg:(0:Int)≤(i:Int):=(by omega);obtain⟨b,o,cs,aC,_,aF,hc⟩:=an6.out (by rw[a1.out];omega);subst aC;have Qp:aw W b (o+i) (I v):=(by have aa:=hc i (by rw[a1.out];exact b0);have ah:c7[i]'(by rw[a1.out];exact b0)=v:=(by rw[←cd.out,yt,jH (by rw[a1.out];exact b0)];rfl);rw[ah] at aa;have ax:=aO aF aH.out;simp[World.cell?,ax,aa]);clear hc aF;go_wp2_with fail;go_ret;exact⟨rfl,aH.out⟩
 ·have ib:¬(i:Int)<(n:Int):=(by omega);have yk:v=0:=(by rw[←cd.out,yt,Kg (by rw[a1.out];omega)];rfl);subst yk;go_wp2_with fail;go_ret;exact⟨rfl,aH.out⟩
theorem eR.Qq{w0:bTo}{P:Nat}{R:Jp}{m:Nat}{L:o3}{fu:Int}{cv ov:ada}{cx ox:bTv}{p:cG}{w w':bTo}(h:eR w0 P R m L fu cv ov cx ox p w)(a b:Bool)(hw:w'=((w.setCell (ag P 14) (ai a)).setCell (ag P 15) (ai b)).drew):
  eR w0 P R m L fu cv ov cx ox {p with c9:={p.c9 with bz:=a,bK:=b}} w':=by
 subst hw;refine h.vr (((aL.set (a:=⟨P,14,none⟩) (fun ab=>ab rfl) _).trans (aL.set (a:=⟨P,15,none⟩) (fun ab=>ab rfl) _)).trans (aL.dM (Below.refl _ _).drew)) ?_ rfl rfl rfl rfl rfl;have:=c4 (k:=P) (i:=15) (ai b) (c4 (k:=P) (i:=14) (ai a) h.pl);exact this
theorem an7(w0:bTo)(P:Nat)(p:cG)(B:Nat)(c:C)(ca:Int)(q:aya)(di:Nat)(bv:ada)(w:bTo)(H:J (lF w0 P p w))(hn:J (fa B w q c.cj))(aj:c.cj.length≤1000000000)(af:∀x∈c.cj,-4611686018427387904≤x∧x≤4611686018427387904)(ab:c.k=2∨c.k=4∨c.k=6∨c.k=15∨c.k=16∨c.k=17)(res:Except Nat cG)(dk:J (AT p c=res)):
  Calls Tryz.prog 97 #[dv P 0,kd c ca (ad q c.cj.length di) bv] w fun e w'=>fm w0 P res e w':=by
 obtain⟨R,m,L,fu,cv,ov,cx,ox,h⟩:=H.out;have H1:=U h;have VH:J (∀Z,av w w Z→Calls Tryz.prog 143 #[kd c ca (ad q c.cj.length di) bv,I (0:Nat)] Z fun e w'=>e=bb (I (jP c 0))∧av Z Z w'):=fun Z eU=>FD B c ca q di bv 0 Z (hn.out.below eU) aj (by decide) _ (Eq.refl _)
 have oG:-4611686018427387904≤jP c 0∧jP c 0≤4611686018427387904:=by
  unfold jP;rw[yt];by_cases aQ:0<c.cj.length
  ·rw[jH aQ];exact af _ (j4 _)
  ·rw[Kg (by omega)];decide
 obtain ⟨tY,zV⟩:=az (jP c 0);have an8:=U zV;rw [zV] at VH oG;obtain ⟨cN,cn,cC,db,bj,dZ,d',dO,bn,c7,hq⟩:=c;have BM:J ((if cN=2 then .ok {p with mode:=cn}
 else if cN=4 then .ok {p with ED:=true}
 else if cN=6 then (if (p.iX cn).isSome=false then .error 4 else .ok {p with pr:=cn})
 else if cN=15 then .ok {p with fe:=db}
 else if cN=16 then .ok {p with c9:={p.c9 with bz:=decide (cn=1)|| decide (cn=3),bK:=decide (cn=2)|| decide (cn=3)}}
 else if tY.tmod 90000000≠0 then .error 7 else .ok {p with c9:={p.c9 with q:=(tY.tdiv 90000000).tmod 4}})=res):=by show _=_;rw[←dk.out,←zV];rfl
 obtain⟨n,eY⟩:=az c7.length;have ac1:J (∀Z,av w w Z→Calls Tryz.prog 143 #[.agg (iy ca cN cn cC db bj dZ d' dO bn (ad q n di) bv),I 0] Z fun e w'=>e=bb (I tY)∧av Z Z w'):=by rw[←eY];exact VH
 show Calls _ _ #[dv P 0,.agg #[I ca,I cN,I cn,I cC,ai db,au ⟨bj.toArray⟩,au ⟨dZ.toArray⟩,au ⟨d'.toArray⟩,au ⟨dO.toArray⟩,au ⟨bn.toArray⟩,ad q c7.length di,bv]] w _;rw[eY];have qe:cN=2∨cN=4∨cN=6∨cN=15∨cN=16∨cN=17:=ab;clear h H hn aj af ab dk VH zV eY an8;go_enter Tryz.func97,Tryz.ntmps97;go_upto_region 1 with fail;have b9:=U (H1.out.below (ba w (aD (iy ca cN cn cC db bj dZ d' dO bn (ad q n di) bv) gP)));have aH:J (av w w (w.alloc (aD (iy ca cN cn cC db bj dZ d' dO bn (ad q n di) bv) gP))):=ba _ _;have cI:J ((w.alloc (aD (iy ca cN cn cC db bj dZ d' dO bn (ad q n di) bv) gP)).heap[w.heap.size]?=some (.cells (iy ca cN cn cC db bj dZ d' dO bn (ad q n di) bv) gP)):=cw _ _;generalize w.alloc (.cells (iy ca cN cn cC db bj dZ d' dO bn (ad q n di) bv) gP)=W at b9 aH cI⊢;obtain⟨D,bZ⟩:=az w.heap.size;rw[bZ] at cI⊢;clear bZ H1;have d1:aw W D 1 (I cN):=cell_of (i:=1) cI.out rfl;have d2:aw W D 2 (I cn):=cell_of (i:=2) cI.out rfl;have d4:aw W D 4 (ai db):=cell_of (i:=4) cI.out rfl;rcases qe with rfl|rfl|rfl|rfl|rfl|rfl
 ·have hF: .ok {p with mode:=cn}=res:=BM.out;have b:aw W P (7+4) (I p.mode):=cell_of (i:=11) b9.out.pl rfl;have g:=cP b9.out.pl 11;go_wp2_with fail;go_ret;rw[←hF];exact fm.mJ rfl (b9.out.vr (aL.set (a:=⟨P,11,none⟩) (fun ab=>ab rfl) _) (by have:=c4 (k:=P) (i:=11) (I cn) b9.out.pl;exact this) rfl rfl rfl rfl rfl)
 ·have hF: .ok {p with ED:=true}=res:=BM.out;have b:aw W P 12 (ai p.ED):=cell_of (i:=12) b9.out.pl rfl;have g:=cP b9.out.pl 12;go_wp2_with fail;go_ret;rw[←hF];exact fm.mJ rfl (b9.out.vr (aL.set (a:=⟨P,12,none⟩) (fun ab=>ab rfl) _) (by have:=c4 (k:=P) (i:=12) (ai true) b9.out.pl;exact this) rfl rfl rfl rfl rfl)
 ·obtain⟨v,la,aS⟩:=b9.out.mp.look cn;have cV:J ((if (p.iX cn).isSome=false then .error 4 else .ok {p with pr:=cn})=res):=BM.out;obtain⟨b,af⟩:=az ((p.iX cn).isSome);rw[af] at la cV
  obtain⟨ak,aq,e1,y3,y4,oo,y6,sF,sG,b3,bc,bN,ch,ep,dK,e',n3,aN,aR,cA,VI⟩:∃(ak aq e1 y3 y4 oo y6 sF sG:Int) (b3 bc:Bool) (bN ch ep:aya) (dK e' n3 aN aR cA:Nat),v=.agg #[I ak,I aq,I e1,I y3,I y4,I oo,I y6,I sF,ad bN dK aN,ad ch e' aR,I sG,ai b3,ai bc,ad ep n3 cA]:=by
   cases ha:p.iX cn with
   |none=>rw[ha] at aS;exact⟨_,_,_,_,_,_,_,_,_,_,_,_,_,_,_,_,_,_,_,_,aS⟩
   |some a=>
    rw[ha] at aS;obtain⟨pl,cl,pp,cp,l6,co,aa,_⟩:=aS;exact⟨_,_,_,_,_,_,_,_,_,_,_,_,_,_,_,_,_,_,_,_,aa⟩
  subst VI;have b1:aw W P 6 (.map (some m)):=cell_of (i:=6) b9.out.pl rfl;have qu:=lt_of_heap b9.out.pl;have qj:=lt_of_heap cI.out;have vw:m<W.heap.size:=(by obtain⟨_,_,hm⟩:=b9.out.mp.map;exact lt_of_heap hm);have mS:=la W.drew rfl;have kb:=la (W.alloc (aD (#[I 0,I 0,I 0,I 0,I 0,I 0,I 0,I 0,ay 0,ay 0,I 0,ai false,ai false,ay 0]) kf)).drew (Bo _ _ _ vw);clear la aS af BM;go_upto_region 7 with fail;go_cut [6] (fun a fT=>a=ai b∧(W.alloc (aD (#[I ak,I aq,I e1,I y3,I y4,I oo,I y6,I sF,ad bN dK aN,ad ch e' aR,I sG,ai b3,ai bc,ad ep n3 cA]) kf)).drew=fT)
  case first=>
   go_region;all_goals go_wp2_with fail
   all_goals go_meet
   all_goals exact⟨rfl,rfl⟩
  case rest=>
   obtain⟨rfl,rfl⟩:=hcut;have dx:J (av W W ((W.alloc (aD (#[I ak,I aq,I e1,I y3,I y4,I oo,I y6,I sF,ad bN dK aN,ad ch e' aR,I sG,ai b3,ai bc,ad ep n3 cA]) kf)).drew)):=(ba _ _).drew;clear mS kb b1 qu qj vw;generalize (W.alloc (aD (#[I ak,I aq,I e1,I y3,I y4,I oo,I y6,I sF,ad bN dK aN,ad ch e' aR,I sG,ai b3,ai bc,ad ep n3 cA]) kf)).drew=c6 at dx⊢;have cS:=U (b9.out.below dx.out);have kB:=U (aO cI.out dx.out);cases b with
   |false=>
    have hF: .error 4=res:=cV.out;clear d1 d2 d4;go_wp2_with fail;go_ret;rw[←hF];exact⟨cS.out.aY,rfl⟩
   |true=>
    have hF: .ok {p with pr:=cn}=res:=cV.out;have d2:aw c6 D 2 (I cn):=cell_of (i:=2) kB.out rfl;have b5:aw c6 P 7 (I p.pr):=cell_of (i:=7) cS.out.pl rfl;have g7:=cP cS.out.pl 7;go_wp2_with fail;go_ret;rw[←hF];exact fm.mJ rfl (cS.out.vr (aL.set (a:=⟨P,7,none⟩) (fun ab=>ab rfl) _) (by have:=c4 (k:=P) (i:=7) (I cn) cS.out.pl;exact this) rfl rfl rfl rfl rfl)
 ·have hF: .ok {p with fe:=db}=res:=BM.out;have b:aw W P 13 (ai p.fe):=cell_of (i:=13) b9.out.pl rfl;have g:=cP b9.out.pl 13;go_wp2_with fail;go_ret;rw[←hF];exact fm.mJ rfl (b9.out.vr (aL.set (a:=⟨P,13,none⟩) (fun ab=>ab rfl) _) (by have:=c4 (k:=P) (i:=13) (ai db) b9.out.pl;exact this) rfl rfl rfl rfl rfl)
 ·have hF: .ok {p with c9:={p.c9 with bz:=decide (cn=1)|| decide (cn=3),bK:=decide (cn=2)|| decide (cn=3)}}=res:=BM.out;have acp:aw W P 14 (ai p.c9.bz):=cell_of (i:=14) b9.out.pl rfl;have acq:aw W P 15 (ai p.c9.bK):=cell_of (i:=15) b9.out.pl rfl;have g14:=cP b9.out.pl 14;have g15:=cP b9.out.pl 15;have Ma:P≠D:=jb b9.out.pl cI.out (by decide);clear BM;go_upto_region 14 with fail;by_cases aa:cn=1
  ·subst aa;go_region
   all_goals
    go_wp2_with fail;go_ret;rw[←hF];exact fm.mJ rfl (b9.out.Qq true false rfl)
  by_cases ah:cn=2
  ·subst ah;go_region
   all_goals
    go_wp2_with fail;go_ret;rw[←hF];exact fm.mJ rfl (b9.out.Qq false true rfl)
  by_cases ax:cn=3
  ·subst ax;go_region
   all_goals
    go_wp2_with fail;go_ret;rw[←hF];exact fm.mJ rfl (b9.out.Qq true true rfl)
  ·have bP:(cn==1)=false:=beq_eq_false_iff_ne.2 aa;have a8:(cn==2)=false:=beq_eq_false_iff_ne.2 ah;have oi:(cn==3)=false:=beq_eq_false_iff_ne.2 ax;have Dw: .ok {p with c9:={p.c9 with bz:=false,bK:=false}}=res:=(by rw[←hF];simp[aa,ah,ax]);go_region
   all_goals
    go_wp2_with fail;go_ret;rw[←Dw];exact fm.mJ rfl (b9.out.Qq false false rfl)
 ·have cV:J ((if tY.tmod 90000000≠0 then .error 7 else .ok {p with c9:={p.c9 with q:=(tY.tdiv 90000000).tmod 4}})=res):=BM.out;clear BM;have d0:=cell_of (i:=0) cI.out rfl;have d3:=cell_of (i:=3) cI.out rfl;have d5:=cell_of (i:=5) cI.out rfl;have d6:=cell_of (i:=6) cI.out rfl;have d7:=cell_of (i:=7) cI.out rfl;have d8:=cell_of (i:=8) cI.out rfl;have d9:=cell_of (i:=9) cI.out rfl;have d10:=cell_of (i:=10) cI.out rfl;have d11:=cell_of (i:=11) cI.out rfl;go_wp2_with fail;go_fit (ac1.out _ aH.out);rintro e c6 ⟨rfl,e6⟩;have cS:=U (b9.out.below e6);clear d0 d1 d2 d3 d4 d5 d6 d7 d8 d9 d10 d11 e6 ac1;obtain⟨r,hr⟩:=az (tY.tmod 90000000);have bx:(90000000:Int)≠0:=(by decide);by_cases x3:r=0
  ·subst x3;obtain⟨v,aS⟩:=az ((tY.tdiv 90000000).tmod 4);have hF: .ok {p with c9:={p.c9 with q:=v}}=res:=(by rw[←cV.out,←aS,hr];rfl);have acr:aw c6 P 16 (I p.c9.q):=cell_of (i:=16) cS.out.pl rfl;have g16:=cP cS.out.pl 16;have hw:bT (tY.tdiv 90000000)=tY.tdiv 90000000:=b4 _ (by have b7:=Int.natAbs_tdiv_le_natAbs tY 90000000;omega);go_wp2_with fail;go_ret;rw[←hF];exact fm.mJ rfl (cS.out.vr (aL.set (a:=⟨P,16,none⟩) (fun ab=>ab rfl) _) (by have:=c4 (k:=P) (i:=16) (I v) cS.out.pl;exact this) rfl rfl rfl rfl rfl)
  ·have hF: .error 7=res:=(by rw[←cV.out,hr,aT x3]);have HK:(r !=0)=true:=(by rw[tt];exact x3);go_wp2_with fail;go_ret;rw[←hF];exact⟨cS.out.aY,rfl⟩
end dE
namespace dE
open Go.RowKit el
open cf (C)
open jj (kd jk fa)
open wq (lB si)
open Iz (VD IA BK Qf)
theorem an9(w0:bTo)(P:Nat)(p:cG)(ca cn cC:Int)(db:Bool)(bj dZ d' dO bn:bk)(dd bv:ada)(w:bTo)(H:J (lF w0 P p w))(res:Except Nat cG)(dk:J ((if p.formed=true∨si 1 cn cC=false then .error 4 else .ok {p with k2:=cn,fd:=cC,fO:=db,formed:=true})=res)):
  Calls Tryz.prog 96 #[dv P 0,.agg (iy ca 8 cn cC db bj dZ d' dO bn dd bv)] w fun e w'=>fm w0 P res e w':=by
 obtain⟨R,m,L,fu,cv,ov,cx,ox,h⟩:=H.out;have H1:=U h;obtain⟨b,af⟩:=az (si 1 cn cC);have rW:=U af;obtain⟨f,hf⟩:=az p.formed;have aoa:=U hf;have qP:J ((if f=true∨b=false then .error 4 else .ok {p with k2:=cn,fd:=cC,fO:=db,formed:=true})=res):=by show _=_;rw[←dk.out,af,hf]
 clear h H af hf dk;go_enter Qm,Qn;go_upto_region 4 with fail;obtain⟨W,a6⟩:=az ((w.alloc (aD (iy ca 8 cn cC db bj dZ d' dO bn dd bv) gP)).alloc (aD (#[I 1,I cn,I cC,ai db]) DG));have aH:J (av w w W):=by show Below _ _ _;rw[←a6];exact (ba _ _).trans ((ba _ _).mono (ba _ _).size)
 have aE:J (bo W (w.heap.size+1) (#[I 1,I cn,I cC,ai db]) DG):=by show _=_;rw[←a6,show w.heap.size+1=(w.alloc (aD (iy ca 8 cn cC db bj dZ d' dO bn dd bv) gP)).heap.size from (qo _).symm];exact cw _ _
 rw[a6];clear a6;obtain⟨D,bZ⟩:=az w.heap.size;have b9:=U (H1.out.below aH.out);have Ma:P<D:=by rw[←bZ];exact lt_of_heap H1.out.pl
 rw[bZ] at aE⊢;clear bZ aH H1;have f0:=cell_of (i:=0) aE.out rfl;have f1:=cell_of (i:=1) aE.out rfl;have f2:=cell_of (i:=2) aE.out rfl;have f3:=cell_of (i:=3) aE.out rfl;have c5:aw W P 5 (ai f):=by rw[←aoa.out];exact cell_of (i:=5) b9.out.pl rfl
 cases f with
 |true=>
  have hF: .error 4=res:=qP.out;go_wp2_with fail;go_ret;rw[←hF];exact⟨b9.out.aY,rfl⟩
 |false=>
  go_wp2_with fail;go_fit (Qf 1 cn cC db b rW _);rintro e bQ ⟨rfl,k6⟩;have e5:av W W bQ:=(by rw[←k6];exact ba _ _);have cS:=U (b9.out.below e5);have p7:=U (aO aE.out e5);clear f0 f1 f2 f3 c5 k6 e5 b9 aE;cases b with
  |false=>
   have hF: .error 4=res:=qP.out;go_wp2_with fail;go_ret;rw[←hF];exact⟨cS.out.aY,rfl⟩
  |true=>
   have hF: .ok {p with k2:=cn,fd:=cC,fO:=db,formed:=true}=res:=qP.out;have f0:=cell_of (i:=0) p7.out rfl;have f1:=cell_of (i:=1) p7.out rfl;have f2:=cell_of (i:=2) p7.out rfl;have f3:=cell_of (i:=3) p7.out rfl;have b3:aw bQ P 1 (I fu):=cell_of (i:=1) cS.out.pl rfl;have bc:aw bQ P 2 (I p.k2):=cell_of (i:=2) cS.out.pl rfl;have ev:aw bQ P 3 (I p.fd):=cell_of (i:=3) cS.out.pl rfl;have F1:aw bQ P 4 (ai p.fO):=cell_of (i:=4) cS.out.pl rfl;have aw4:aw bQ P 5 (ai p.formed):=cell_of (i:=5) cS.out.pl rfl;have g1:=cP cS.out.pl 1;have g2:=cP cS.out.pl 2;have g3:=cP cS.out.pl 3;have g4:=cP cS.out.pl 4;have g5:=cP cS.out.pl 5;have hne:P≠D+1:=(by omega);have HY:D+1≠P:=(by omega);go_wp2_with fail;go_ret;rw[←hF];refine fm.mJ (R:=R) (m:=m) (L:=L) (fu:=1) (cv:=cv) (ov:=ov) (cx:=cx) (ox:=ox) rfl ?_;have ab:=((((aL.set (a:=⟨P,1,none⟩) (S:=fun k=>k≠P) (w:=bQ) (fun ab=>ab rfl) (I 1)).trans (aL.set (a:=⟨P,2,none⟩) (fun ab=>ab rfl) (I cn))).trans (aL.set (a:=⟨P,3,none⟩) (fun ab=>ab rfl) (I cC))).trans (aL.set (a:=⟨P,4,none⟩) (fun ab=>ab rfl) (ai db))).trans (aL.set (a:=⟨P,5,none⟩) (fun ab=>ab rfl) (ai true));exact cS.out.vr ab (by have:=c4 (k:=P) (i:=5) (ai true) (c4 (k:=P) (i:=4) (ai db) (c4 (k:=P) (i:=3) (I cC) (c4 (k:=P) (i:=2) (I cn) (c4 (k:=P) (i:=1) (I 1) cS.out.pl))));exact this) rfl rfl rfl rfl rfl
theorem aob(w0:bTo)(P:Nat)(p:cG)(ca cn cC:Int)(db:Bool)(bj dZ d' dO bn:bk)(dd bv:ada)(w:bTo)(H:J (lF w0 P p w))(res:Except Nat cG)(dk:J ((if p.unit≠0 then .error 4 else .ok {p with unit:=cn})=res)):
  Calls Tryz.prog 96 #[dv P 0,.agg (iy ca 9 cn cC db bj dZ d' dO bn dd bv)] w fun e w'=>fm w0 P res e w':=by
 obtain⟨R,m,L,fu,cv,ov,cx,ox,h⟩:=H.out;have H1:=U h;clear h H;go_enter Qm,Qn;go_upto_region 8 with fail;have b9:=U (H1.out.below (ba w (aD (iy ca 9 cn cC db bj dZ d' dO bn dd bv) gP)));have cI:J ((w.alloc (aD (iy ca 9 cn cC db bj dZ d' dO bn dd bv) gP)).heap[w.heap.size]?=some (.cells (iy ca 9 cn cC db bj dZ d' dO bn dd bv) gP)):=cw _ _;generalize w.alloc (.cells (iy ca 9 cn cC db bj dZ d' dO bn dd bv) gP)=W at b9 cI⊢;obtain⟨u,hu⟩:=az p.unit;have qP:J ((if u≠0 then .error 4 else .ok {p with unit:=cn})=res):=by show _=_;rw[←dk.out,hu]
 have aJ:aw W P 0 (I u):=by rw[←hu];exact cell_of (i:=0) b9.out.pl rfl
 have g0:=cP b9.out.pl 0;have d2:=cell_of (i:=2) cI.out rfl;clear dk hu;by_cases yD:u=0
 ·subst yD;have hF: .ok {p with unit:=cn}=res:=qP.out;go_wp2_with fail;go_ret;rw[←hF];exact fm.mJ rfl (b9.out.vr (aL.set (a:=⟨P,0,none⟩) (fun ab=>ab rfl) _) (by have:=c4 (k:=P) (i:=0) (I cn) b9.out.pl;exact this) rfl rfl rfl rfl rfl)
 ·have hF: .error 4=res:=(by rw[←qP.out,aT yD]);have VE:(u !=0)=true:=(by rw[tt];exact yD);go_wp2_with fail;go_ret;rw[←hF];exact⟨b9.out.aY,rfl⟩
end dE
namespace dE
open Go.RowKit el
open cf (C eI)
open jj (kd jk fa hB)
abbrev sZ(p:cG):List qH:=(p.top::p.levels).reverse
theorem o2.at{R:Jp}{B:Nat}{w:bTo}:∀{l:List qH} {ix:bTv} {hs:List Nat},o2 R B w l ix hs→∀i (hi:i<l.reverse.length),∃(q:aya) (e d:Nat),∀j,j<7→ix[i *7+j]?=(Du (l.reverse[i]) (ad q e d))[j]?
 |[],_,_,_,i,hi=>absurd hi (l7 _)
 |v::l,ix,hs,⟨sQ,gs,ov,ox,aa,ah,ax,bg,b7⟩,i,hi=>by
  have hlen:=o2.len b7;rw[y9,fK] at hi;by_cases b0:i<l.length
  ·obtain⟨q,e,d,bl⟩:=o2.at b7 i (by rw[y9];exact b0);refine⟨q,e,d,fun j cB=>?_⟩;rw[aa,Iq (by omega),bl j cB];simp only[Qo];rw[Km (by rw[y9];exact b0)]
  ·have e:i=l.length:=(by omega);obtain⟨q,d,rfl⟩:=ik ax;refine⟨q,v.fk.length,d,fun j cB=>?_⟩;rw[aa,zO (by omega),show i *7+j-sQ.length=j by omega];simp only[Qo];rw[Oj (by rw[y9];omega)];simp
theorem eR.rowAt{w0:bTo}{P:Nat}{R:Jp}{m:Nat}{L:o3}{fu:Int}{cv ov:ada}{cx ox:bTv}{p:cG}{w:bTo}(h:eR w0 P R m L fu cv ov cx ox p w)(i:Nat)(hi:i<(sZ p).length):∃(q:aya) (e d:Nat),∀j,j<7→w.cell? ⟨L.b,i *7+j,none⟩=(Du ((sZ p)[i]) (ad q e d))[j]?:=by
 have hlen:=h.jv.len;have hn:=h.nU;have sq:i<p.levels.length+1:=by rw[y9] at hi;exact hi
 by_cases b0:i<p.levels.length
 ·obtain⟨q,e,d,bl⟩:=h.jv.at i (by rw[y9];exact b0);refine⟨q,e,d,fun j cB=>?_⟩;rw[h.e3.cellAt (i *7+j) (by omega),Iq (by omega),bl j cB];simp only[sZ,Qo];rw[Km (by rw[y9];exact b0)]
 ·have e:i=p.levels.length:=(by omega);obtain⟨q,d,rfl⟩:=ik h.an;refine⟨q,p.top.fk.length,d,fun j cB=>?_⟩;rw[h.e3.cellAt (i *7+j) (by omega),zO (by omega),show i *7+j-L.ix.length=j by omega];simp only[sZ,Qo];rw[Oj (by rw[y9];omega)];simp
def Qr(code:Int)(v:qH):Bool:=!v.step&&decide (v.code=code)
theorem aoc(p:cG)(code:Int):EE p code=((p.iX code).isSome ||((sZ p).drop 1).any (Qr code)):=by
 unfold EE
 congr 1
 have:(sZ p).drop 1=((p.top::p.levels).dropLast).reverse:=by unfold sZ;rw[List.drop_one,List.tail_reverse]
 rw[this,List.any_reverse];rfl
variable{j:Nat}
theorem aod{a:Bool}{f:qH→Bool}{l:List qH}(cB:j<l.length):(a ||(l.take (j+1)).any f)=((a ||(l.take j).any f)|| f l[j]):=by rw[x4 cB,List.any_append];simp[Bool.or_assoc]
theorem aoe(w0:bTo)(P:Nat)(p:cG)(code:Int)(w:bTo)(H:J (lF w0 P p w))(sy:p.levels.length≤1000)(t:Bool)(bH:J (EE p code=t)):
    Calls Tryz.prog 141 #[dv P 0,I code] w fun e w'=>e=bb (ai t)∧av w w w':=by
  obtain⟨R,m,⟨eL,lY,lc,ix,hs,fj,bz⟩,fu,cv,ov,cx,ox,h⟩:=H.out;have H1:=U h;have dF:J (((p.iX code).isSome ||((sZ p).drop 1).any (Qr code))=t):=(by show _=_;rw[←aoc];exact bH);obtain⟨v,la,aS⟩:=h.mp.look code;obtain⟨b,af⟩:∃b,(p.iX code).isSome=b:=⟨_,rfl⟩
  obtain⟨ak,aq,e1,y3,y4,oo,y6,sF,sG,b3,bc,bN,ch,ep,dK,e',n3,aN,aR,cA,VI⟩:∃(ak aq e1 y3 y4 oo y6 sF sG:Int) (b3 bc:Bool) (bN ch ep:aya) (dK e' n3 aN aR cA:Nat),v=.agg #[I ak,I aq,I e1,I y3,I y4,I oo,I y6,I sF,ad bN dK aN,ad ch e' aR,I sG,ai b3,ai bc,ad ep n3 cA]:=by
    cases ha:p.iX code with
    |none=>rw[ha] at aS;exact⟨_,_,_,_,_,_,_,_,_,_,_,_,_,_,_,_,_,_,_,_,aS⟩
    |some a=>
      rw[ha] at aS;obtain⟨pl,cl,pp,cp,l6,co,aa,_⟩:=aS;exact⟨_,_,_,_,_,_,_,_,_,_,_,_,_,_,_,_,_,_,_,_,aa⟩
  subst VI;rw[af] at la dF;have b1:w.cell? ⟨P,6,none⟩=some (.map (some m)):=cell_of (i:=6) h.pl rfl;have qu:=lt_of_heap h.pl;have vw:m<w.heap.size:=(by obtain⟨_,_,hm⟩:=h.mp.map;exact lt_of_heap hm);have mS:=la w.drew rfl;have kb:=la (w.alloc (aD (#[I 0,I 0,I 0,I 0,I 0,I 0,I 0,I 0,ay 0,ay 0,I 0,ai false,ai false,ay 0]) kf)).drew (Bo _ _ _ vw);have J4:=la w rfl;have sS:lY=p.levels.length+1:=h.nU;have iO:J ((sZ p).length=lY):=(by show _=_;rw[y9,fK,sS]);have aw5:1≤lY∧lY≤1001:=by omega
  have VJ:lY≤lc:=by
    have b7:=h.e3;rcases b7.2 with ⟨c0,ea⟩|⟨k,cap,cur,c0,_,_,ea,_⟩
    · cases c0
    · injection c0 with _ _ eO
      have eO:lc=cap:=eO;have ea:lY≤cap:=ea;omega
  clear la aS af h H bH sy sS;go_enter Tryz.func141,Tryz.ntmps141;go_upto_region 2 with fail;have aH:J (av w w (w.alloc (aD (#[I ak,I aq,I e1,I y3,I y4,I oo,I y6,I sF,ad bN dK aN,ad ch e' aR,I sG,ai b3,ai bc,ad ep n3 cA]) kf))):=ba _ _;clear mS kb J4 b1 qu vw;generalize w.alloc (.cells #[I ak,I aq,I e1,I y3,I y4,I oo,I y6,I sF,ad bN dK aN,ad ch e' aR,I sG,ai b3,ai bc,ad ep n3 cA] kf)=W at aH⊢;have b9:=U (H1.out.below aH.out);have LG:W.cell? ⟨P,21,none⟩=some (ad (some (ag eL 0)) lY lc):=cell_of (i:=21) b9.out.pl rfl;obtain⟨n,hn⟩:∃n,lY=n+1:=⟨lY-1,by omega⟩;subst hn;obtain⟨d,hd⟩:∃d,lc=d+1:=⟨lc-1,by omega⟩;subst hd;have bP:(1:Int)≤(n:Int)+1:=(by omega);have a8:(n:Int)+1≤(d:Int)+1:=(by omega);have acX:J (lF w0 P p W):=⟨_,_,_,_,_,_,_,_,b9.out⟩;go_upto_region 3 with fail
  all_goals
    clear LG bP a8
    go_loopw [6,24] (fun f i wr=>∃(j:Nat) (a:Bool) (aG:bTo),aG=wr∧j≤n∧i=I j∧f=ai a∧J (a=(b ||(((sZ p).drop 1).take j).any (Qr code)))∧J (Below W.heap.size W aG)) (fun _ i _=>n -(intOf i).toNat)
    case atStart=>exact⟨0,b,_,rfl,eC _,rfl,rfl,by show _=_;simp,Below.refl _ _⟩
    case round=>
    obtain⟨j,a,aG,rfl,cB,rfl,rfl,b8,jM⟩:=hrel;by_cases b0:j<n
    · first
        |(exfalso;omega)
        | (have ib:(j:Int)<(n:Int):=by omega
           have Bi:(0:Int)≤(j:Int):=(by omega);have mS:j+1<(sZ p).length:=(by rw[iO.out];omega);have cS:=U (b9.out.below jM.out);obtain⟨ac2,on,od,bl⟩:=cS.out.rowAt (j+1) mS;obtain⟨⟨vs,IG,ac3,ac4,⟨de,df⟩,fx⟩,aS⟩:∃v,(sZ p)[j+1]=v:=⟨_,rfl⟩;rw[aS,show (j+1) *7=7+j *7 by omega] at bl;have jD:aG.cell? ⟨eL,7+j *7,none⟩=some (ai vs):=bl 0 (by decide);have ie:aG.cell? ⟨eL,7+j *7+1,none⟩=some (I IG):=bl 1 (by decide);have ly:aG.cell? ⟨eL,7+j *7+2,none⟩=some (I ac3):=bl 2 (by decide);have qD:aG.cell? ⟨eL,7+j *7+3,none⟩=some (I ac4):=bl 3 (by decide);have sf:aG.cell? ⟨eL,7+j *7+4,none⟩=some (I de):=bl 4 (by decide);have uE:aG.cell? ⟨eL,7+j *7+5,none⟩=some (I df):=bl 5 (by decide);have qE:aG.cell? ⟨eL,7+j *7+6,none⟩=some (ad ac2 on od):=bl 6 (by decide)
           have qb:J ((a ||(!vs&&decide (IG=code)))=(b ||(((sZ p).drop 1).take (j+1)).any (Qr code))):=by
             show _=_;rw[aod (by rw[gZ,iO.out];omega),←b8.out,Oi]
             congr 1
             have aN:(sZ p)[1+j]'(by omega)=(sZ p)[j+1]:=(by congr 1;omega);rw[aN,aS];rfl
           have gE:J (av W W (aG.alloc (aD (#[ai vs,I IG,I ac3,I ac4,I de,I df,ad ac2 on od]) nT))):=jM.out.alloc jM.out.size _;have he:(IG==code)=decide (IG=code):=rfl;generalize decide (IG=code)=e at qb he;clear bl aS cS;cases a<;>cases vs
           all_goals
             have Kz:=qb;simp only[Bool.false_or,Bool.true_or,Bool.not_true,Bool.not_false,NI,JM,Ot] at Kz;go_wp2_with fail;go_round<;>first|exact⟨j+1,_,_,rfl,by omega,by go_num,rfl,Kz.out,gE.out⟩|(simp[intOf]<;>omega))
    · have iH:j=n:=by omega
      subst iH;have hF:a=t:=(by rw[b8.out,←dF.out,zS (by rw[gZ,iO.out];omega)]);subst hF;go_wp2_with fail;go_ret;exact⟨rfl,aH.out.trans (jM.out.mono aH.out.size)⟩
theorem aof:(Tryz.prog.info? 266).map (fun i=>(i.zero,i.size,i.bytes))=some (some (.agg #[au ⟨#[]⟩,ay 0]),2,40):=by kernel_rfl
theorem eR.aog{w0:bTo}{P:Nat}{R:Jp}{m:Nat}{L:o3}{fu:Int}{cv ov:ada}{cx ox:bTv}{p:cG}{X Y cb:bTo}{n gg c:Nat}{a:ma}{q:aya}{d:Nat}
  (h:eR w0 P R m L fu cv ov cx ox p X) (hn:p.gd.length=n) (pF:av X X Y) (aX:Y.grownBy cb L.fj.ownBlock) (cM:cb.ownsRow w0.heap.size rQ 2 (bG gg 0 (n+1) c) (n+1) (L.bz++[au ⟨a.name.toArray⟩,ad q a.b.length d])) (hw:some gg=L.fj.ownBlock∨Y.heap.size≤gg) (af:hB 0 w0 q a.b):
  eR w0 P R m {L with fj:=ad (some (ag gg 0)) (n+1) c,bz:=L.bz++[au ⟨a.name.toArray⟩,ad q a.b.length d]} fu cv ov cx ox {p with gd:=p.gd++[a]} (cb.setCell (ag P 8) (bG gg 0 (n+1) c)):=by
 have ih:=h.below pF;obtain⟨tO,cur,gv⟩:=o1 cM;have hne:∀k cs t ef,X.heap[k]?=some (.cells cs t ef)→t≠rQ→t≠rP→L.fj.ownBlock≠some k∧k≠P:=fun k cs t ef ab aa ah=>⟨ni h.fl ab (fN aa),jb ab h.pl ah⟩;have hK:aL (fun k=>L.fj.ownBlock≠some k∧k≠P) X (cb.setCell (ag P 8) (bG gg 0 (n+1) c)):=((aL.dM pF).trans (aL.grown aX fun k e ab=>ab.1 e)).trans (aL.set (a:=⟨P,8,none⟩) (fun ab=>ab.2 rfl) _);have aoh:=ni h.fl h.pl (by decide);have vv:bo cb P (LC p fu m L cv) rP:=(aX.block P (lt_of_heap ih.pl) (fN aoh)).trans ih.pl;have hR:∀k,R k→L.fj.ownBlock≠some k∧k≠P:=fun k ab=>⟨(h.jK k ab).abN,(h.jK k ab).FJ⟩;obtain⟨es,BD,o4⟩:=h.mp.map;have qq:∀{e:aui} {bn n:Nat} {v:ada} {xs:bTv},X.ownsRow w0.heap.size e bn v n xs→e≠rQ→e≠rP→∀k,v.ownBlock=some k→L.fj.ownBlock≠some k∧k≠P:=by intro e bn n v xs hr aa ah k ab;obtain⟨_,_,c,hc⟩:=qS hr ab;exact hne _ _ _ _ hc aa ah
 have U7:∀k,R k→gg≠k:=by
  intro k ab e;subst e;rcases hw with e|e
  ·exact (h.jK gg ab).abN e.symm
  ·have:=(h.jJ gg ab).2;have:=pF.size;omega
 exact {
  pl:=by have:=c4 (k:=P) (i:=8) (bG gg 0 (n+1) c) vv;exact this
  mp:=h.mp.keep hK ⟨PV h.fl o4,(sP h.pl o4).symm⟩ hR
  nU:=h.nU
  e3:=ke h.e3 hK (qq h.e3 (by decide) (by decide))
  jv:=h.jv.keep hK hR fun k hm=>by obtain⟨_,_,c,hc⟩:=h.jv.Aa k hm;exact hne _ _ _ _ hc (by decide) (by decide)
  rR:=h.rR
  sR:=h.sR
  bj:=h.bj.keep hK hR (fun k cur t aF bH=>hne _ _ _ _ aF (by rcases bH with rfl|rfl<;>decide) (by rcases bH with rfl|rfl<;>decide))
  an:=ke h.an hK (qq h.an (by decide) (by decide))
  nV:=h.nV.keep (hK.mono fun k _ ab=>hR k ab)
  fl:=by show World.ownsRow _ _ _ _ _ (p.gd++[a]).length _;rw[show (p.gd++[a]).length=n+1 by rw[gh,hn];rfl];exact ke cM (aL.set (S:=fun k=>k≠P) (a:=⟨P,8,none⟩) (fun ab=>ab rfl) _) fun k e=>by have aR:gg=k:=(by simpa[Value.ownBlock] using e);rw[←aR];exact jb gv vv (by decide)
  qT:=h.qT.snoc af
  jJ:=fun k ab=>⟨(h.jJ k ab).1,jl (h.jJ k ab).2 hK.size⟩
  jK:=fun k ab=>
   have hc:=h.jK k ab
   ⟨hc.FJ,hc.tY,hc.abM,hc.Ig,hc.LF,fun e=>U7 k ab (by simpa[Value.ownBlock] using e),hc.ams⟩
  pK:=h.pK
  rS:=h.rS
  aY:=h.aY.trans (hK.below _ h.aY.size fun k ab=>⟨fun e=>by have:=(qS h.fl e).1;omega,by have:=h.pK;omega⟩)}
theorem aoi{f:ma→Bool}{l:List ma}(cB:j<l.length)(h:(l.take j).any f=false)(hf:f l[j]=false):(l.take (j+1)).any f=false:=by rw[x4 cB,List.any_append,h];simp[hf]
theorem aoj{f:ma→Bool}{l:List ma}(cB:j<l.length)(hf:f l[j]=true):l.any f=true:=List.any_eq_true.2 ⟨_,j4 cB,hf⟩
theorem aok(a b:bk):((⟨a.toArray⟩:aia).toList==b)=(a==b):=by rw[oY]
theorem aol(w0:bTo)(P:Nat)(p:cG)(ca cn cC:Int)(db:Bool)(bj dZ d' dO bn:bk)(dd:ada)(hq:List eI)(mr:aya)(w5:Nat)(w:bTo)(H:J (lF w0 P p w))(lG:J (hB 0 w0 mr hq))(oU:p.gd.length≤1000000)(res:Except Nat cG)(dk:J ((if p.gd.any (fun m=>m.name==bj)=true then .error 4 else .ok {p with gd:=p.gd++[⟨bj,hq⟩]})=res)):
  Calls Tryz.prog 96 #[dv P 0,.agg (iy ca 19 cn cC db bj dZ d' dO bn dd (ad mr hq.length w5))] w fun e w'=>fm w0 P res e w':=by
 obtain⟨R,m,⟨eL,lY,lc,ix,hs,fj,bz⟩,fu,cv,ov,cx,ox,h⟩:=H.out;have H1:=U h;obtain⟨vC,oG⟩:=az hq.length;have aom:=U oG;obtain⟨n,hn⟩:=az p.gd.length;have a1:=U hn;have aw6:n≤1000000:=by rw[←hn];exact oU
 have cM:w.ownsRow w0.heap.size rQ 2 fj p.gd.length bz:=h.fl;rw[hn] at cM;obtain⟨pm,IH,rfl⟩:=ik cM;have rC:=U cM;have Dy:J (yv w0 p.gd bz):=h.qT;rw[oG];clear h H cM hn oG oU;go_enter Qm,Qn;go_upto_region 12 with fail;have b9:=U (H1.out.below (ba w (aD (iy ca 19 cn cC db bj dZ d' dO bn dd (ad mr vC w5)) gP)));have cI:J ((w.alloc (aD (iy ca 19 cn cC db bj dZ d' dO bn dd (ad mr vC w5)) gP)).heap[w.heap.size]?=some (.cells (iy ca 19 cn cC db bj dZ d' dO bn dd (ad mr vC w5)) gP)):=cw _ _;have aH:J (av w w (w.alloc (aD (iy ca 19 cn cC db bj dZ d' dO bn dd (ad mr vC w5)) gP))):=ba _ _;generalize w.alloc (.cells (iy ca 19 cn cC db bj dZ d' dO bn dd (ad mr vC w5)) gP)=W at b9 cI aH⊢;obtain⟨D,bZ⟩:=az w.heap.size;rw[bZ] at cI⊢;clear bZ;have c5:aw W P 8 (ad pm n IH):=cell_of (i:=8) b9.out.pl rfl;go_upto_region 13 with fail;clear c5
 go_loopw [57] (fun i wr=>∃(j:Nat) (aG:bTo),aG=wr∧j≤n∧i=I j∧J ((p.gd.take j).any (fun m=>m.name==bj)=false)∧J (av W W aG)) (fun i _=>n -(intOf i).toNat)
 case atStart=>exact⟨0,_,rfl,eC _,rfl,rfl,Below.refl _ _⟩
 case round=>
 obtain⟨j,aG,rfl,cB,rfl,ac5,jM⟩:=hrel;have cS:=U (b9.out.below jM.out);have kB:=U (aO cI.out jM.out);by_cases b0:j<n
 ·have ib:(j:Int)<(n:Int):=(by omega);have Bi:(0:Int)≤(j:Int):=(by omega);have fs:j<p.gd.length:=(by rw[a1.out];exact b0);obtain⟨ac6,md,kZ,iJ,_⟩:=Dy.out.get j fs;have eh:=fE rC.out (aH.out.trans (jM.out.mono aH.out.size))
  obtain⟨nC,rfl⟩:∃b,pm=some ⟨b,0,none⟩:=by
   rcases eh.2 with ⟨_,aQ⟩|⟨g,_,_,aX,_⟩
   ·omega
   ·injection aX with aX;exact⟨g,aX⟩
  have jD:aw aG nC (j *2) (au ⟨(p.gd[j]).name.toArray⟩):=(eh.cellAt (j *2) (by omega)).trans kZ;have ie:aw aG nC (j *2+1) (ad ac6 (p.gd[j]).b.length md):=(eh.cellAt (j *2+1) (by omega)).trans iJ;have HF:=aok (p.gd[j]).name bj;have d5:aw aG D 5 (au ⟨bj.toArray⟩):=cell_of (i:=5) kB.out rfl;have qj:=lt_of_heap kB.out;obtain⟨e,he⟩:=az ((p.gd[j]).name==bj);have bm:=U he;rw[he] at HF;generalize (⟨(p.gd[j]).name.toArray⟩:aia)=aon at jD HF;generalize (p.gd[j]).b.length=aoo at ie;clear kZ iJ eh he;have gE:J (av W W (aG.alloc (aD (#[au aon,ad ac6 aoo md]) rQ))):=jM.out.alloc jM.out.size _;cases e with
  |true=>
   have hF: .error 4=res:=(by rw[←dk.out,aT (aoj fs bm.out)]);go_wp2_with fail;go_ret;rw[←hF];exact⟨b9.out.aY.trans (gE.out.mono b9.out.aY.size),rfl⟩
  |false=>
   have VK:=U (aoi fs ac5.out bm.out);go_wp2_with fail;go_round<;>first|exact⟨j+1,_,rfl,by omega,by go_num,VK.out,gE.out⟩|(simp[intOf]<;>omega)
 ·have iH:j=n:=(by omega);subst iH;have hF: .ok {p with gd:=p.gd++[⟨bj,hq⟩]}=res:=(by have aa:=ac5.out;rw[zS (by rw[a1.out];exact bD _)] at aa;rw[←dk.out,aa];rfl);have aE:=U hF;have d5:aw aG D 5 (au ⟨bj.toArray⟩):=cell_of (i:=5) kB.out rfl;have d11:aw aG D 11 (ad mr vC w5):=cell_of (i:=11) kB.out rfl;have c5:aw aG P 8 (ad pm j IH):=cell_of (i:=8) cS.out.pl rfl;have f5:=cP cS.out.pl 8;have qj:=lt_of_heap kB.out;have qu:=lt_of_heap cS.out.pl;have hh:=cS.out.aY.size;have eh:=fE rC.out (aH.out.trans (jM.out.mono aH.out.size));have hP:J ((aG.drew.alloc (aD (#[au ⟨bj.toArray⟩,ad mr vC w5]) rQ)).ownsRow w0.heap.size rQ 2 (ad pm j IH) j bz):=eh.drew.alloc _;have kL:J (av aG aG (aG.drew.alloc (aD (#[au ⟨bj.toArray⟩,ad mr vC w5]) rQ))):=(Below.refl _ _).drew.alloc (bD _) _;have ju:∀(cb:bTo),(aG.drew.alloc (aD (#[au ⟨bj.toArray⟩,ad mr vC w5]) rQ)).grownBy cb (Value.slice pm j IH).ownBlock→aw cb P 8 (ad pm j IH)∧cb.frozen? ⟨P,8,none⟩=false:=(by intro cb pB;have vv:=aO cS.out.pl kL.out;have aa:=(pB.block _ (lt_of_heap vv) (fN (ni hP.out vv (by decide)))).trans vv;exact⟨cell_of aa rfl,cP aa 8⟩);obtain⟨i0,hi,cU,cW,dz⟩:=info_parts aof;have bY:=U (And.intro hi (And.intro cU (And.intro cW dz)));clear hi cU cW dz eh hF;go_upto_region 18 with fail
  go_region_law (first|(refine x5 _ (by rfl) _ _ _ (by rfl) w0.heap.size rQ i0 (.agg #[au ⟨#[]⟩,ay 0]) 2 40 Tryz.underlying162 bY.out.1 bY.out.2.1 bY.out.2.2.1 bY.out.2.2.2 rfl (by omega) (ad pm j IH) j _ (by rfl) hP.out (ag aG.heap.size 0) 1 1 [au ⟨bj.toArray⟩,ad mr vC w5] (by rfl) (by rfl) (jW (cs:= #[au ⟨bj.toArray⟩,ad mr vC w5]) (t:=rQ) (fr:=(0,0)) (gi aG _)) (by simp[Value.oneCell']) (by omega) (by unfold maxLen;omega) (by omega) (by simp;omega) (aG.heap.size+1) (by simp) ?_;intro gg il bt cM dW e0 h5;obtain⟨bN,ch⟩:=ju bt dW)|fail)
  all_goals
   have i6:=eR.aog (a:=⟨bj,hq⟩) cS.out a1.out kL.out dW (by rw[aom.out];exact cM) (e0.imp HZ (fun h=>by rw[h];exact UU (qo _))) lG.out;clear cM dW e0 h5 bN ch d5 d11 c5 f5 ju;go_wp2_with fail;go_ret;rw[←aE.out];exact fm.mJ rfl i6
end dE
