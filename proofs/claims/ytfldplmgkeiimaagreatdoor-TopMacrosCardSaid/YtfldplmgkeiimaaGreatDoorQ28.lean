/- Lemmas. -/
import Derived.Test.YtfldplmgkeiimaaGreatDoorQ27
set_option linter.all false
set_option maxRecDepth 100000
set_option maxHeartbeats 12800000
namespace Go.Proofs.YtfldplmgkeiimaaGreatDoor
abbrev Bq:=@Proofs.Tryz.underlying268
abbrev P':=@Nat.le_succ_of_le
abbrev L8:=@Proofs.Tryz.results180
namespace c4
open Go.RowKit dH
open bS (eg)
open gT (fG)
abbrev Br:Obj:=.cells #[I 0,I 0,I 0,I 0,I 0,I 0,I 0,I 0,J 0,J 0,I 0] nm
abbrev adL(b:cJ)(iP cq:ada)(r:Int):List Value:=[I b.k,I b.a.1,I b.a.2,I b.b.1,I b.b.2,I b.c.1,I b.c.2,I b.r,iP,cq,I r]
theorem aqs{w w':aeo}{s:dK}{v Df:ada}{pp:Ja}{cp:Nat}(ay:ao w w w')(aT:s.b.l=[])(aS:v=.agg (nQ s.b dr (ad pp s.p.len cp) 0))(ax:Df=I 0)(hs:dv (fun k=>w.heap.size≤k) w' none 0 pp cp s):tP w (.ok (s,0)) (ab (.tuple #[v,Df])) w':=by subst aS ax;refine⟨ay,none,0,pp,cp,?_,hs⟩;simp only;rw[aT];rfl
theorem aqt(ms:List hE)(hm:∀m∈ms,hE.e7 m)(aA:ms.length≤6)(nq:Ja)(bA:Nat)(eK:ada)(bD:aev)(D:Nat)(w0 w:aeo)(d':w.ownsRow D qK 2 eK 1 bD)(Bs:vf w0 [⟨[84],ms.map hE.hL⟩] bD)(ay:ao w0 w0 w):
  Calls Tryz.prog 182 #[aa ⟨#[84]⟩,ad nq 0 bA,I 1,eK] w (tP w (.ok (⟨ew,ie ms⟩,0))):=by
 obtain⟨q,c,fw,rfl,qh,rfl⟩:=Bs;have qk:fG 0 w q (ms.map hE.hL):=c4.fG.aZ qh ay;obtain⟨aT,⟨rfl,av⟩|⟨g,cap,cur,rfl,_,aJ,hle,_,hs,bB⟩⟩:=d'
 ·cases av
 obtain⟨n,hn⟩:=ar ((List.map hE.hL ms).length);have gS:ms.length=n:=by rw[←hn,e6]
 have tK:cur.toList.take 2=[Value.string ⟨#[84]⟩,ad q n c]:=by rw[←hn];exact bB
 have hc:∀i,i<2→cur[i]?=[Value.string ⟨#[84]⟩,ad q n c][i]?:=fun i hi=>by rw[←tK,s6,a8 hi,xP]
 have aN:ak w g 0 (aa ⟨#[84]⟩):=cell_of aJ (hc 0 (by decide));have aL:ak w g 1 (ad q n c):=cell_of aJ (hc 1 (by decide));have b7:af (∀(Z:aeo) (cj:Ja) (d2:Nat),ao w w Z→Calls Tryz.prog 226 #[ad q n c,ad cj 0 d2,I 1] Z fun e w'=>Below Z.heap.size Z w'∧∃pp cp,e=ab (.tuple #[iD ew dr (ad pp (ie ms).len cp),I 0])∧dv (fun k=>Z.heap.size≤k) w' none 0 pp cp ⟨ew,ie ms⟩):=fun Z cj d2 eG=>by rw[←gS];exact aqf ms (aq hm) aA q c cj d2 Z (aq (c4.fG.aZ qk eG))
 have hh:=lt_of_heap aJ;have ax6:∀Z:aeo,(Instr.makeSlice 349 (I 0) (I 0)).run Tryz.prog Z=.ok (ag Z.heap.size 0 0 0) (Z.alloc (ai (madeCells #[I 0,I 0] 0) mf)):=fun Z=>AF _ _ _ 2 16 LN PS 0 (by decide) (by decide) Z;have bq:=aq (cd w Br);clear qh qk aJ hle hs bB tK hc aT hn gS ay hm;go_enter Tryz.func182,Tryz.ntmps182;go_wp2_with fail;have l2:=aq aN;have oi:=aq aL
 go_loopw [10] (fun i wr=>i=I 0∧wr=w.alloc Br) (fun _ _=>0)
 case atStart=>exact⟨rfl,rfl⟩
 case round=>
 obtain⟨rfl,rfl⟩:=hrel;go_wp2_with fail
 go_loopw [42] (fun i wr=>i=I 0∧wr=(w.alloc Br).alloc (ai (madeCells #[I 0,I 0] 0) mf)) (fun _ _=>0)
 case atStart=>exact⟨rfl,rfl⟩
 case round=>
 obtain⟨rfl,rfl⟩:=hrel;have cP:=aq (nI w Br (ai (madeCells #[I 0,I 0] 0) mf));have eF:=aq (aU bq.out (a' (w.alloc Br) (ai (madeCells #[I 0,I 0] 0) mf)));go_wp2_with fail;with_reducible refine (b7.out _ _ _ cP.out).mono ?_
 rintro e dp ⟨eA,pp,cp,rfl,hs⟩;have dk:=aq (cP.out.trans (eA.mono cP.out.size));have kP:=aq (aU eF.out eA);have L7:=aq hs;obtain⟨z0,z1,z2,z3,z4,z5,hZ,hO,ib,z9,kU⟩:=pE kP.out;have nR:=cR kP.out;have ax7:=lt_of_heap kP.out;clear eA hs b7;go_wp2_with fail;have dq:w.heap.size+2≤((w.alloc Br).alloc (ai (madeCells #[I 0,I 0] 0) mf)).heap.size:=by rw[pz,pz];omega
 refine qi (P:=fun X=>bodyPost _ _ _ _ _ (X.alloc (ai (q6 ew dr (ad pp (ie ms).len cp)) dz))) (adL ew dr (ad pp (ie ms).len cp) 0) kP.out rfl fun et g1 g2=>?_;exact dC (l6 rfl _ _ w.heap.size _ _ _ _ rfl (aU g1 (a' _ _)) Bq rfl (by kernel_rfl)) rfl (aqs ((g2.aZ dk.out (bx _) dk.out.size).trans ((a' _ _).mono (dB dk.out.size g2.size))) rfl rfl rfl (((L7.out.keep (g2.mono fun k _ ax=>by omega)).below (a' _ _)).mono fun k _ ax=>by omega))
theorem aqu(ms:List hE)(hm:∀m∈ms,hE.e7 m)(aA:ms.length≤6)(nq:Ja)(bA:Nat)(eK:ada)(bD:aev)(D:Nat)(w0 w:aeo)(d':w.ownsRow D qK 2 eK 1 bD)(Bs:vf w0 [⟨[84],ms.map hE.hL⟩] bD)(ay:ao w0 w0 w):
  Calls Tryz.prog 142 #[aa ⟨#[84]⟩,ad nq 0 bA,I 1,eK] w (tP w (.ok (⟨ew,ie ms⟩,0))):=by
 have di:=aq (fun Z (eG:ao w w Z)=>aqt ms hm aA nq bA eK bD D w0 Z (e9 d' eG) Bs (ay.trans (eG.mono ay.size)));have bq:=aq (cd w Br);clear hm aA d' Bs ay;go_enter Tryz.func142,Tryz.ntmps142;go_wp2_with fail;have cc:=aq (a' w Br);with_reducible refine (di.out _ cc.out).mono ?_
 intro e bY az;obtain⟨dA,pl,cl,pp,cp,rfl,hs⟩:=az.get;have cP:=aq (cc.out.trans (dA.mono cc.out.size));have eF:=aq (aU bq.out dA);have L7:=aq hs;obtain⟨z0,z1,z2,z3,z4,z5,hZ,hO,ib,z9,kU⟩:=pE eF.out;have nR:=cR eF.out;clear dA hs az di;go_wp2_with fail;refine qi (P:=bodyPost _ _ _ _ _) (adL ew (ad pl ew.l.length cl) (ad pp (ie ms).len cp) 0) eF.out rfl fun et g1 g2=>?_;have dq:w.heap.size+1≤(w.alloc Br).heap.size:=by rw[pz];omega
 exact dC (l6 rfl _ _ w.heap.size _ _ _ _ rfl g1 Bq rfl (by kernel_rfl)) rfl ⟨g2.aZ cP.out (bx _) cP.out.size,pl,cl,pp,cp,rfl,(L7.out.keep (g2.mono fun k _ ax=>by omega)).mono fun k _ ax=>by omega⟩
end c4
namespace c4
open Go.RowKit dH
open bS (C eg)
open gT (kS iX eW fG)
theorem aqv(w0:aeo)(P:Nat)(p:cH)(ca e1 cn cQ:Int)(dJ:Bool)(bF ed ee ef bG:au)(da:List Int)(h':List eg)(c7 bv:ada)(w:aeo)(H:af (o' w0 P p w))(zK:p.region=false)
  (FN:(e1=8∨e1=9∨e1=10∨e1=19)→∀Z,ao w w Z→Calls Tryz.prog 96 #[ah P 0,.agg (iZ ca e1 cn cQ dJ bF ed ee ef bG c7 bv)] Z fun e w'=>jK w0 P (Ai p ⟨e1,cn,cQ,dJ,bF,ed,ee,ef,bG,da,h'⟩) e w')
  (FO:e1=6→∀Z,ao w w Z→Calls Tryz.prog 97 #[ah P 0,.agg (iZ ca e1 cn cQ dJ bF ed ee ef bG c7 bv)] Z fun e w'=>jK w0 P (DW p ⟨e1,cn,cQ,dJ,bF,ed,ee,ef,bG,da,h'⟩) e w')
  (sx:e1=7→∀Z,ao w w Z→Calls Tryz.prog 99 #[ah P 0,.agg (iZ ca e1 cn cQ dJ bF ed ee ef bG c7 bv)] Z fun e w'=>jK w0 P (q0 p ⟨e1,cn,cQ,dJ,bF,ed,ee,ef,bG,da,h'⟩) e w')
  (ax:(e1=8∨e1=9∨e1=10∨e1=19)∨e1=6∨e1=7∨e1=5) (res:Except Nat cH) (dQ:af (j' p ⟨e1,cn,cQ,dJ,bF,ed,ee,ef,bG,da,h'⟩=res)):
  Calls Tryz.prog 64 #[ah P 0,.agg (iZ ca e1 cn cQ dJ bF ed ee ef bG c7 bv)] w fun e w'=>jK w0 P res e w':=by
 have FN:=aq FN;have FO:=aq FO;have sx:=aq sx;obtain⟨R,m,L,fu,cv,ov,cx,ox,h⟩:=H.out;have H1:=aq h;have dn:=aq ax;obtain⟨jY,ID⟩:=ar p.ended;have bm:=aq ID;have CY:=aq zK;clear h H ax ID zK;go_enter Tryz.func64,Tryz.ntmps64;go_upto_region 1 with fail;have c1:=aq (H1.out.below (a' w (ai (iZ ca e1 cn cQ dJ bF ed ee ef bG c7 bv) ic)));have di:af ((w.alloc (ai (iZ ca e1 cn cQ dJ bF ed ee ef bG c7 bv) ic)).heap[w.heap.size]?=some (.cells (iZ ca e1 cn cQ dJ bF ed ee ef bG c7 bv) ic)):=cd _ _;have aO:af (ao w w (w.alloc (ai (iZ ca e1 cn cQ dJ bF ed ee ef bG c7 bv) ic))):=a' _ _;generalize w.alloc (.cells (iZ ca e1 cn cQ dJ bF ed ee ef bG c7 bv) ic)=W at c1 di aO⊢;obtain⟨D,cb⟩:=ar w.heap.size;rw[cb] at di⊢;clear cb H1;have Qa:ak W P 24 (U jY):=by rw[←bm.out];exact cell_of (i:=24) c1.out.pl rfl
 have Fy:ak W P 19 (U false):=by rw[←CY.out];exact cell_of (i:=19) c1.out.pl rfl
 cases jY with
 |true=>
  have hF: .error 4=res:=(by rw[←dQ.out];unfold j';rw[bm.out];rfl);go_wp2_with fail;go_ret;rw[←hF];exact⟨c1.out.aZ,rfl⟩
 |false=>
  have d0:=cell_of (i:=0) di.out rfl;have d1:=cell_of (i:=1) di.out rfl;have d2:=cell_of (i:=2) di.out rfl;have d3:=cell_of (i:=3) di.out rfl;have d4:=cell_of (i:=4) di.out rfl;have d5:=cell_of (i:=5) di.out rfl;have d6:=cell_of (i:=6) di.out rfl;have d7:=cell_of (i:=7) di.out rfl;have d8:=cell_of (i:=8) di.out rfl;have d9:=cell_of (i:=9) di.out rfl;have d10:=cell_of (i:=10) di.out rfl;have d11:=cell_of (i:=11) di.out rfl;rcases dn.out with ba|ba|ba|ba
  ·have bz:=aq (FN.out ba);have aP:af (Ai p ⟨e1,cn,cQ,dJ,bF,ed,ee,ef,bG,da,h'⟩=res):=by show _=_;rw[←dQ.out];unfold j';rw[bm.out];rcases ba with rfl|rfl|rfl|rfl<;>simp
   rw[aP.out] at bz;clear FN FO sx dn dQ aP;rcases ba with rfl|rfl|rfl|rfl
   all_goals
    go_wp2_with fail;with_reducible refine (bz.out _ aO.out).mono ?_
    intro e cZ mJ;obtain⟨v6,rfl⟩:=mJ.ret;clear Qa Fy d0 d1 d2 d3 d4 d5 d6 d7 d8 d9 d10 d11;go_wp2_with fail;go_ret;exact mJ
  ·have bz:=aq (FO.out ba);have aP:af (DW p ⟨e1,cn,cQ,dJ,bF,ed,ee,ef,bG,da,h'⟩=res):=(by show _=_;rw[←dQ.out];unfold j';rw[bm.out,CY.out];subst ba;simp);rw[aP.out] at bz;clear FN FO sx dn dQ aP;subst ba;go_wp2_with fail;with_reducible refine (bz.out _ aO.out).mono ?_
   intro e cZ mJ;obtain⟨v6,rfl⟩:=mJ.ret;clear Qa Fy d0 d1 d2 d3 d4 d5 d6 d7 d8 d9 d10 d11;go_wp2_with fail;go_ret;exact mJ
  ·have bz:=aq (sx.out ba);have aP:af (q0 p ⟨e1,cn,cQ,dJ,bF,ed,ee,ef,bG,da,h'⟩=res):=(by show _=_;rw[←dQ.out];unfold j';rw[bm.out,CY.out];subst ba;simp);rw[aP.out] at bz;clear FN FO sx dn dQ aP;subst ba;go_wp2_with fail;with_reducible refine (bz.out _ aO.out).mono ?_
   intro e cZ mJ;obtain⟨v6,rfl⟩:=mJ.ret;clear Qa Fy d0 d1 d2 d3 d4 d5 d6 d7 d8 d9 d10 d11;go_wp2_with fail;go_ret;exact mJ
  ·subst ba;have aP:af ((if p.levels≠[] then .error 4 else .ok {p with ended:=true})=res):=(by show _=_;rw[←dQ.out];unfold j';rw[bm.out,CY.out];simp);clear FN FO sx dn dQ;obtain⟨ey,lM,lc,hY,hs,eK,bD⟩:=L;have sr:lM=p.levels.length+1:=c1.out.rq;have Lk:ak W P 21 (ad (some (aj ey 0)) lM lc):=cell_of (i:=21) c1.out.pl rfl;have g24:=cR c1.out.pl 24;by_cases aA:p.levels=[]
   ·have hF: .ok {p with ended:=true}=res:=(by rw[←aP.out,aR (by simp[aA])]);have av:lM=1:=(by rw[sr,aA];rfl);subst av;clear sr;go_wp2_with fail;go_ret;rw[←hF];exact jK.CR rfl (c1.out.HX (aQ.set (a:=⟨P,24,none⟩) (fun ax=>ax rfl) _) (by have:=dL (k:=P) (i:=24) (U true) c1.out.pl;exact this) rfl rfl rfl rfl rfl)
   ·have hF: .error 4=res:=by rw[←aP.out,a8 aA]
    have av:1<lM:=by
     cases hc:p.levels with
     |nil=>exact absurd hc aA
     |cons a l=>rw[sr,hc,eP];omega
    have K6:(lM:Int)> 1:=(by omega);clear sr;go_wp2_with fail;go_ret;rw[←hF];exact⟨c1.out.aZ,rfl⟩
abbrev yz(k n:Int):Prop:=(k=8∨k=9∨k=10∨k=19)∨k=6∨(k=7∧n=3)∨k=5
structure Inv(n:Nat)(p:cH):Prop where
 bG:pa p
 hC:p.fB.length≤n
 gG:p.levels=[]
 rg:p.region=false
variable{n:Nat}{p q:cH}
theorem Inv.up(h:Inv n p):Inv (n+1) p:=⟨h.bG,P' h.hC,h.gG,h.rg⟩
theorem Inv.same(h:Inv n p)(av:q.top=p.top)(az:q.levels=p.levels)(aF:q.jA=p.jA)(bk:q.made=p.made)(b9:q.budget=p.budget)(cW:q.fB=p.fB)(eN:q.region=p.region)(ff:CX q.at_):Inv n q:=by
 refine⟨⟨?_,?_,?_,?_,?_,?_,ff,?_⟩,?_,?_,?_⟩
 ·rw[av,az,bk];exact h.bG.gG
 ·rw[aF,bk];exact h.bG.ap
 ·rw[bk];exact h.bG.H4
 ·rw[bk];exact h.bG.md
 ·rw[b9];exact h.bG.bu
 ·rw[az];exact h.bG.iK
 ·rw[cW];exact h.bG.hC
 ·rw[cW];exact h.hC
 ·rw[az];exact h.gG
 ·rw[eN];exact h.rg
theorem Inv.oK{n:Nat}{p q:cH}{d:Bool}{s:dK}(h:Inv n p)(aH:dH.oK p d s=.ok q):Inv n q:=by have bn:=h.bG.oK aH;obtain⟨rfl,_⟩:=Uk aH;exact⟨bn,h.hC,h.gG,h.rg⟩
theorem Inv.kt{n:Nat}{p q:cH}{d:Bool}{s:dK}{t:fR}(h:Inv n p)(aH:dH.kt p d s t=.ok q):Inv n q:=by
 unfold dH.kt at aH;split at aH
 ·cases aH
 ·exact h.oK aH
theorem Inv.lW{n:Nat}{f:Bool→Bool}{t:fR}:∀{l:List dx} {p q:cH},Inv n p→dH.lW f t l p=.ok q→Inv n q
 |[],p,q,h,aH=>by unfold dH.lW at aH;injection aH with aH;exact aH ▸ h
 |o::l,p,q,h,aH=>by
  unfold dH.lW at aH;split at aH
  ·cases aH
  ·rename_i r hr;exact Inv.lW (h.kt hr) aH
theorem Inv.aqw{t:bK}(h:Inv n p)(aH:sV p t=.ok q):Inv n q:=by
 unfold sV at aH;split at aH
 ·cases aH
 ·split at aH
  ·cases aH
  ·split at aH
   ·exact h.kt aH
   ·exact h.lW aH
variable{c:C}
theorem Inv.oper(h:Inv n p)(hn:c.n=3)(aH:q0 p c=.ok q):Inv (n+1) q:=by
 by_cases hu:p.unit=0∨p.formed=false
 ·unfold q0 at aH;rw[a8 hu] at aH;cases aH
 have key:∃ec:Nat→Int,wK p c ec 4:=by
  unfold q0 at aH;rw[aR hu] at aH;cases aT:iz p c.x p.at_.1 with
  |none=>rw[aT] at aH;cases aH
  |some a=>
   cases av:iz p c.y p.at_.2 with
   |none=>rw[aT,av] at aH;cases aH
   |some b=>
    cases az:iz p c.i 0 with
    |none=>rw[aT,av,az] at aH;cases aH
    |some d=>
     cases aF:iz p c.j 0 with
     |none=>rw[aT,av,az,aF] at aH;cases aH
     |some e=>
      refine⟨fun|0=>a|1=>b|2=>d|3=>e|_=>0,fun i hi=>?_,fun i hi=>?_⟩
      ·rcases (show i=0∨i=1∨i=2∨i=3 by omega) with rfl|rfl|rfl|rfl
       ·exact aT
       ·exact av
       ·exact az
       ·exact aF
      ·match i,hi with
       |i+4,_=>rfl
 obtain⟨ec,ba⟩:=key;have mc:=ba.CX h.bG.at_;rw[acL hn hu ba] at aH;have hF:∀r,Inv (n+1) r→Inv (n+1) {r with at_:=(ec 0,ec 1)}:=fun r hr=>hr.same rfl rfl rfl rfl rfl rfl rfl ⟨(mc 0 (by decide)).1,(mc 0 (by decide)).2,(mc 1 (by decide)).1,(mc 1 (by decide)).2⟩;cases hx:sV p (ec 0,ec 1) with
 |error k=>rw[hx] at aH;cases aH
 |ok r=>
  rw[hx] at aH;have aH:Except.ok {r with at_:=(ec 0,ec 1)}=.ok q:=aH;injection aH with aH;rw[←aH];exact hF _ (h.aqw hx).up
theorem Inv.define(h:Inv n p)(hn:n<1000000)(aH:Ai p c=.ok q):Inv (n+1) q:=by
 have sm:∀r:cH,r.top=p.top→r.levels=p.levels→r.jA=p.jA→r.made=p.made→r.budget=p.budget→r.fB=p.fB→r.region=p.region→r.at_=p.at_→Inv (n+1) r:=fun r av az aF bk b9 cW eN ff=>h.up.same av az aF bk b9 cW eN (by rw[ff];exact h.bG.at_);have av:=h.up;unfold Ai at aH;split at aH
 ·split at aH
  ·cases aH
  ·injection aH with aH;subst aH;exact sm _ rfl rfl rfl rfl rfl rfl rfl rfl
 split at aH
 ·split at aH
  ·cases aH
  ·injection aH with aH;subst aH;exact sm _ rfl rfl rfl rfl rfl rfl rfl rfl
 split at aH
 ·split at aH
  ·cases aH
  ·injection aH with aH;subst aH;have hm:(p.fB++[(⟨c.t,c.blocks⟩:jz)]).length≤n+1:=(by rw[hl];have:=h.hC;show _+1≤n+1;omega);exact⟨⟨h.bG.gG,h.bG.ap,h.bG.H4,h.bG.md,h.bG.bu,h.bG.iK,h.bG.at_,by show (p.fB++[(⟨c.t,c.blocks⟩:jz)]).length≤1000000;omega⟩,hm,h.gG,h.rg⟩
 ·unfold mO at aH;split at aH
  ·cases aH
  ·split at aH
   ·cases aH
   ·injection aH with aH;subst aH;refine⟨⟨h.bG.gG,fun k a ha=>?_,h.bG.H4,h.bG.md,h.bG.bu,h.bG.iK,h.bG.at_,h.bG.hC⟩,av.hC,h.gG,h.rg⟩;simp only at ha;split at ha
    ·injection ha with ha;subst ha;exact h.bG.H4
    ·exact h.bG.ap k a ha
theorem Inv.do(h:Inv n p)(hn:n<1000000)(ax:yz c.k c.n)(aH:j' p c=.ok q):Inv (n+1) q:=by
 have sm:∀r:cH,r.top=p.top→r.levels=p.levels→r.jA=p.jA→r.made=p.made→r.budget=p.budget→r.fB=p.fB→r.region=p.region→r.at_=p.at_→Inv (n+1) r:=fun r av az aF bk b9 cW eN ff=>h.up.same av az aF bk b9 cW eN (by rw[ff];exact h.bG.at_);unfold j' at aH;rw[h.rg] at aH;by_cases aL:p.ended=true
 ·rw[a8 aL] at aH;cases aH
 rw[aR aL,aR (by simp),aR (by omega)] at aH;rcases ax with ax|ax|ax|ax
 ·rw[a8 ax] at aH;exact h.define hn aH
 ·rw[aR (by omega),a8 (by omega)] at aH;unfold DW at aH;rw[aR (by omega),aR (by omega),a8 ax] at aH;split at aH
  ·cases aH
  ·injection aH with aH;subst aH;exact sm _ rfl rfl rfl rfl rfl rfl rfl rfl
 ·rw[aR (by omega),aR (by omega),aR (by omega),a8 ax.1] at aH;exact h.oper ax.2 aH
 ·rw[aR (by omega),aR (by omega),aR (by omega),aR (by omega),aR (by omega),aR (by omega),aR (by omega),aR (by omega),a8 ax] at aH;split at aH
  ·cases aH
  ·injection aH with aH;subst aH;exact sm _ rfl rfl rfl rfl rfl rfl h.rg.symm rfl
theorem FE.below{w0 w w':aeo}{bF:au}{da:List Int}{nq:Ja}{bA:Nat}{u:Int}{ms:List jz}(h:FE w0 w bF da nq bA u ms)(ay:ao w w w'):FE w0 w' bF da nq bA u ms:=fun Z eK bD av az aF bk=>h Z eK bD (ay.trans (av.mono ay.size)) az aF bk
theorem aqx(w0:aeo)(P:Nat)(p:cH)(B n:Nat)(c:C)(ca:Int)(nq:Ja)(mK:Nat)(me:Ja)(zS:Nat)(w:aeo)(H:af (o' w0 P p w))(hi:Inv n p)(hn:n<1000000)(Bi:af (eW B w nq c.b6))(gF:c.b6.length≤1000000000)(uI:∀x∈c.b6,-4611686018427387904≤x∧x≤4611686018427387904)(ll:af (fG 0 w0 me c.blocks))(kQ:af (∀i,(nk c.x c.y c.i c.j i).length≤1000000000))(PI:c.k=10→FE w0 w c.t c.b6 nq mK p.unit p.fB)(ax:yz c.k c.n)(res:Except Nat cH)(dQ:af (j' p c=res)):
  Calls Tryz.prog 64 #[ah P 0,kS c ca (ad nq c.b6.length mK) (ad me c.blocks.length zS)] w fun e w'=>jK w0 P res e w':=by
 obtain⟨e1,cn,cQ,dJ,bF,ed,ee,ef,bG,da,h'⟩:=c;refine aqv w0 P p ca e1 cn cQ dJ bF ed ee ef bG da h' (ad nq da.length mK) (ad me h'.length zS) w H hi.rg ?_ ?_ ?_ (by have ax:yz e1 cn:=ax;omega) res dQ
 ·intro ba Z eG;have aX:=aq (H.out.below eG);rcases ba with rfl|rfl|rfl|rfl
  ·exact aoB w0 P p ca cn cQ dJ bF ed ee ef bG _ _ Z aX _ (aq (Eq.refl _))
  ·exact aoD w0 P p ca cn cQ dJ bF ed ee ef bG _ _ Z aX _ (aq (Eq.refl _))
  ·refine aoX w0 P p B ca cn cQ dJ bF ed ee ef bG da nq mK _ Z aX (Bi.out.below eG) gF ((PI rfl).below eG) hi.bG.Uj _ ?_;show _=mO p _;unfold mO;simp only;split
   ·rfl
   ·cases hx:j9 bF da p.unit p.fB with
    |error e=>rfl
    |ok x=>rfl
  ·exact aoO w0 P p ca cn cQ dJ bF ed ee ef bG _ h' me zS Z aX ll hi.bG.hC _ (aq (Eq.refl _))
 ·intro ba Z eG;exact aoA w0 P p ⟨e1,cn,cQ,dJ,bF,ed,ee,ef,bG,da,h'⟩ ca _ _ Z (H.out.below eG) ba _ (aq (Eq.refl _))
 ·intro ba Z eG;exact aov w0 P p ⟨e1,cn,cQ,dJ,bF,ed,ee,ef,bG,da,h'⟩ ca _ _ Z (H.out.below eG) (by have ax:yz e1 cn:=ax;show cn=3;omega) hi.bG kQ _ (aq (Eq.refl _))
end c4
namespace gT
open Go.RowKit ny j6 px Mem p1 bS
abbrev Qb:Obj:=.cells #[I 0,I 0,aa ⟨#[]⟩,J 0] 259
def yA(b:eg)(kE:ada):Array Value:= #[I b.k,I b.n,aa ⟨b.t.toArray⟩,kE]
abbrev kF(b:eg)(kE:ada):Value:=.agg (yA b kE)
abbrev aqy(b:eg)(kE:ada):Obj:=.cells (yA b kE) 259
variable{x w W:aeo}{b:Nat}{v0 v1 v2 v3:ada}{t:aai}
theorem hj(h:an x b (#[v0,v1,v2,v3]) t):
  (ak x b 0 v0∧ak x b 1 v1∧ak x b 2 v2∧ak x b 3 v3)∧(x.frozen? ⟨b,0,none⟩=false∧x.frozen? ⟨b,1,none⟩=false∧x.frozen? ⟨b,2,none⟩=false∧x.frozen? ⟨b,3,none⟩=false):=by
 refine⟨⟨?_,?_,?_,?_⟩,?_,?_,?_,?_⟩<;>simp[World.cell?,World.frozen?,h]
def h0(w:aeo)(b:Nat)(x:eg)(kE:ada):World:=
 (((w.setCell (aj b 0) (I x.k)).setCell (aj b 1) (I x.n)).setCell (aj b 2) (aa ⟨x.t.toArray⟩)).setCell (aj b 3) kE
theorem aqz(h:an x b (#[v0,v1,v2,v3]) t)(u:ada):(x.setCell (aj b 0) u).heap[b]?=some (.cells #[u,v1,v2,v3] t):=kd h 0 u
theorem aqA(h:an x b (#[v0,v1,v2,v3]) t)(u:ada):(x.setCell (aj b 1) u).heap[b]?=some (.cells #[v0,u,v2,v3] t):=kd h 1 u
theorem aqB(h:an x b (#[v0,v1,v2,v3]) t)(u:ada):(x.setCell (aj b 2) u).heap[b]?=some (.cells #[v0,v1,u,v3] t):=kd h 2 u
theorem aqC(h:an x b (#[v0,v1,v2,v3]) t)(u:ada):(x.setCell (aj b 3) u).heap[b]?=some (.cells #[v0,v1,v2,u] t):=kd h 3 u
structure wV(w W:aeo):Prop where
 a:W.heap[w.heap.size]?=some Qb
 b:ao w w W
theorem wV.below{ng:aeo}(h:wV w W)(ay:ao W W ng):wV w ng:=⟨aU h.a ay,h.b.trans (ay.mono h.b.size)⟩
theorem Vp(w:aeo):wV w (w.alloc Qb):=⟨ga w _,(Below.refl _ _).alloc (bx _) _⟩
theorem qn(h:wV w W)(x:eg)(kE:ada):(h0 W w.heap.size x kE).heap[w.heap.size]?=some (aqy x kE)∧ao w w (h0 W w.heap.size x kE):=
 ⟨aqC (aqB (aqA (aqz h.a _) _) _) _,(((h.b.setCell (bx _) _).setCell (bx _) _).setCell (bx _) _).setCell (bx _) _⟩
theorem IE{cs:ajv}(h:an W b cs 259)(x:eg)(kE:ada):kD 259 W (h0 W b x kE):=by have step:∀{V:aeo} {cs:ajv} (i:Nat) (u:ada),an V b cs 259→kD 259 V (V.setCell (aj b i) u)∧∃hX,(V.setCell (aj b i) u).heap[b]?=some (.cells hX 259):=fun i u aS=>⟨.set aS u,_,kd aS i u⟩;obtain⟨bQ,_,aT⟩:=step 0 (I x.k) h;obtain⟨bU,_,av⟩:=step 1 (I x.n) aT;obtain⟨a7,_,az⟩:=step 2 (aa ⟨x.t.toArray⟩) av;obtain⟨il,_,aF⟩:=step 3 kE az;exact ((bQ.trans bU).trans a7).trans il
def Vq(res:Except Nat eg)(w:aeo)(e:Ending)(w':aeo):Prop:=Below w.heap.size w w'∧match res with
 |.ok b=>∃q k,e=ab (.tuple #[kF b (ad q b.args.length k),I 0])∧lk w.heap.size w' q b.args
 |.error n=>e=ab (.tuple #[kF bS.cy b3,I (n:Int)])
theorem Vr(l:au){c:UInt8}(hc:c≠0):decide (l.take 1=[c])=decide (l.headD 0=c):=by
 cases l with
 |nil=>rw[eT (by simp),eT (by simpa using hc.symm)]
 |cons a l=>simp
theorem aqD(l:List (Int×Int))(i:Nat)(hi:i<l.length):(rT l)[i *2]?=some (I l[i].1)∧(rT l)[i *2+1]?=some (I l[i].2):=by
 induction l generalizing i with
 |nil=>exact absurd hi (nB _)
 |cons o l cT=>
  have e:rT (o::l)=[I o.1,I o.2] ++rT l:=rfl;cases i with
  |zero=>rw[e];exact⟨rfl,rfl⟩
  |succ i=>
   have:=cT i (A9 hi);rw[e,show (i+1) *2=i *2+1+1 by omega,show i *2+1+1+1=(i *2+1)+1+1 by omega];simpa using this
theorem adM{B:Nat}{v:ada}{l:List (Int×Int)}(h:w.ownsRow B 413 2 v l.length (rT l)):∃p c,v=ad p l.length c∧ow B w p l:=by
 rcases h.2 with ⟨av,az⟩|⟨g,c,cur,av,az,aF,bk,b9,cW,eN⟩
 ·exact⟨none,0,by rw[av,az],fun aA=>absurd aA (by omega)⟩
 ·refine⟨_,c,av,fun aA=>⟨g,0,cur,rfl,az,aF,fun i hi=>?_⟩⟩;have key:∀j,j<l.length *2→cur[j]?=(rT l)[j]?:=(fun j cr=>by rw[←eN,Iy cr,xP]);obtain⟨g1,g2⟩:=aqD l i hi;rw[kr,key _ (by omega),key _ (by omega)];exact⟨g1,g2⟩
theorem aqE(S:Ua)(hs:S.size≤1000000000)(res:Except Nat eg)(hr:af (JI S.data.toList=res))(w:aeo):
  Calls Tryz.prog 180 #[aa S] w (Vq res w):=by
 have b7:=aq hs;have aA:=hr.out;unfold JI at aA;obtain⟨o,bl⟩:=adq S.data.toList;rw[bl] at aA;have b5:=aq bl;clear hr hs;have aX:af (wV w (w.alloc (ai (#[I 0,I 0,aa ⟨#[]⟩,J 0]) 259))):=Vp w;go_enter Tryz.func180,Tryz.ntmps180;go_upto_region 1 with fail;generalize w.alloc (.cells #[I 0,I 0,aa ⟨#[]⟩,J 0] 259)=W at aX⊢;go_wp2_with fail;with_reducible refine (Lb S b7.out o b5 _).mono ?_
 rintro e cm ⟨he,hd⟩;have eX:=aq (aX.out.below (ma hd));clear hd aX;have aX:=eX;clear eX;cases o with
 |none=>
  have bd:af (Except.error 3=res):=aA;unfold L4 at he;simp only[] at he;subst he;clear aA bl b5;obtain⟨⟨aN,aL,aI,c3⟩,f0,f1,f2,f3⟩:=hj aX.out.a;have aP:=aq (qn aX.out bS.cy b3);go_wp2_with fail;refine dC (w:=h0 cm w.heap.size bS.cy b3) (v:=.tuple #[kF bS.cy b3,I 3]) ?_ rfl ?_
  ·clear aN aL aI c3 f0 f1 f2 f3;generalize h0 cm w.heap.size bS.cy b3=et at aP⊢;obtain⟨⟨aN,aL,aI,c3⟩,_⟩:=hj aP.out.1;simp[results,L8,go_sem,aN,aL,aI,c3]<;>rfl
  ·rw[←bd.out];exact⟨aP.out.2,rfl⟩
 |some x=>
  obtain⟨D,R⟩:=x;unfold L4 at he;simp only[] at he;subst he;obtain⟨uv,hQ,gL,qj⟩:=ads bl;rw[cG,cG] at gL qj;have gL:D.size≤S.size:=gL;have qj:R.size≤S.size:=qj;simp only[Cp] at aA;rw[cG] at aA;clear bl b5;by_cases az:2<D.size
  ·rw[a8 (.inl az)] at aA;have bd:af (Except.error 3=res):=aA;have Vi:(2:Int)<(D.size:Int):=(by omega);clear aA uv hQ gL qj az;obtain⟨⟨aN,aL,aI,c3⟩,f0,f1,f2,f3⟩:=hj aX.out.a;have aP:=aq (qn aX.out bS.cy b3);go_wp2_with fail;refine dC (w:=h0 cm w.heap.size bS.cy b3) (v:=.tuple #[kF bS.cy b3,I 3]) ?_ rfl ?_
   ·clear aN aL aI c3 f0 f1 f2 f3;generalize h0 cm w.heap.size bS.cy b3=et at aP⊢;obtain⟨⟨aN,aL,aI,c3⟩,_⟩:=hj aP.out.1;simp[results,L8,go_sem,aN,aL,aI,c3]<;>rfl
   ·rw[←bd.out];exact⟨aP.out.2,rfl⟩
  ·have Vi:¬(2:Int)<(D.size:Int):=(by omega);have hB:af (decide (R.data.toList.take (⟨#[61]⟩:Ua).data.toList.length=(⟨#[61]⟩:Ua).data.toList)=decide (R.data.toList.headD 0=61)):=Vr _ (by decide);by_cases Dg:R.data.toList.headD 0=61
   ·rw[aR (by rintro (h|h);exact az h;exact h Dg)] at aA
    have Bt:0<R.size:=by
     rw[←cG];cases aH:R.data.toList with
     |nil=>rw[aH] at Dg;exact absurd Dg (by decide)
     |cons a b=>simp
    have dd:R.data.toList.drop 1=(R.extract 1 R.size).data.toList:=(mS R 1).symm;rw[dd] at aA;have yw:af ((R.extract 1 R.size).size≤maxLen):=(by show _≤_;rw[←cG,mS,gI,cG];have:=b7.out;unfold maxLen;omega);obtain⟨⟨l,a,e⟩,hp⟩:=ar (vF.vH (R.extract 1 R.size).data.toList);have bN:=aq hp;rw[hp] at aA;simp only[] at aA;obtain⟨n,hn⟩:=ar (val D.data.toList:Int);have di:=aq (And.intro uv (And.intro hQ (And.intro (show D.size≤18 by omega) hn)));have jd:(1:Int)≤(R.size:Int):=(by omega);rw[hn] at aA;have dT:=aq aA;rw[e' Dg] at hB;clear aA uv hQ gL qj az Dg dd hp hn Bt;go_wp2_with fail;with_reducible refine (x7 _ _ _ hB _).mono ?_
    rintro e dp ⟨rfl,rfl⟩;go_wp2_with fail;with_reducible refine (aqa D di.out.1 di.out.2.1 di.out.2.2.1 n di.out.2.2.2 _).mono ?_
    rintro e cA ⟨rfl,iU⟩;have Vs:=aq (aX.out.below iU);clear iU aX;go_wp2_with fail;with_reducible refine (abR (R.extract 1 R.size) yw.out _ l a e bN).mono ?_
    rintro jY bt ⟨v,rfl,aS,dS⟩;obtain⟨p,c,rfl,L9⟩:=adM aS;have aX:=aq (Vs.out.below dS);have Vt:=aq (L9.mono Vs.out.b.size);clear dS aS L9 Vs;by_cases he:e=0
    ·subst he;have bd:af (Except.ok ⟨2,n,[],[l]⟩=res):=dT.out;clear dT;have yu:af (wV w (bt.alloc (ai (#[ad p l.length c]) 345))):=aX.out.below ((Below.refl _ _).alloc (bx _) _);have L3:af (lk w.heap.size (bt.alloc (ai (#[ad p l.length c]) 345)) (some (aj bt.heap.size 0)) [l]):=(by intro _;refine⟨bt.heap.size,0,_,rfl,aX.out.b.size,ga bt _,fun i hi=>?_⟩;have aF:i=0:=(by simp at hi;omega);subst aF;exact⟨p,c,rfl,Vt.out.keep (T:=0) (.dI ((Below.refl _ _).alloc (bx _) _)) (by decide)⟩);have pL:=aq (IE yu.out.a ⟨2,n,[],[l]⟩ (ag bt.heap.size 0 1 1));have aP:=aq (qn yu.out ⟨2,n,[],[l]⟩ (ag bt.heap.size 0 1 1));obtain⟨⟨aN,aL,aI,c3⟩,f0,f1,f2,f3⟩:=hj yu.out.a;clear aX;go_wp2_with fail;refine dC (w:=h0 (bt.alloc (ai (#[ad p l.length c]) 345)) w.heap.size ⟨2,n,[],[l]⟩ (ag bt.heap.size 0 1 1)) (v:=.tuple #[kF ⟨2,n,[],[l]⟩ (ag bt.heap.size 0 1 1),I 0]) ?_ rfl ?_
     ·clear aN aL aI c3 f0 f1 f2 f3 pL;generalize h0 (bt.alloc (ai (#[ad p l.length c]) 345)) w.heap.size ⟨2,n,[],[l]⟩ (ad (some (aj bt.heap.size 0)) 1 1)=et at aP⊢;obtain⟨⟨aN,aL,aI,c3⟩,_⟩:=hj aP.out.1;simp[results,L8,go_sem,aN,aL,aI,c3]<;>rfl
     ·rw[←bd.out];exact⟨aP.out.2,_,_,rfl,L3.out.keep pL.out (by decide) (by decide)⟩
    ·have L':((e:Int) !=0)=true:=(by simp;omega);have bd:af (Except.error e=res):=(by show _=_;rw[←dT.out,a8 he]);clear dT he;obtain⟨⟨aN,aL,aI,c3⟩,f0,f1,f2,f3⟩:=hj aX.out.a;have aP:=aq (qn aX.out bS.cy b3);go_wp2_with fail;refine dC (w:=h0 bt w.heap.size bS.cy b3) (v:=.tuple #[kF bS.cy b3,I (e:Int)]) ?_ rfl ?_
     ·clear aN aL aI c3 f0 f1 f2 f3;generalize h0 bt w.heap.size bS.cy b3=et at aP⊢;obtain⟨⟨aN,aL,aI,c3⟩,_⟩:=hj aP.out.1;simp[results,L8,go_sem,aN,aL,aI,c3]<;>rfl
     ·rw[←bd.out];exact⟨aP.out.2,rfl⟩
   ·rw[a8 (.inr Dg)] at aA;have bd:af (Except.error 3=res):=aA;rw[eT Dg] at hB;clear aA uv hQ gL qj az Dg;go_wp2_with fail;with_reducible refine (x7 _ _ _ hB _).mono ?_
    rintro e dp ⟨rfl,rfl⟩;obtain⟨⟨aN,aL,aI,c3⟩,f0,f1,f2,f3⟩:=hj aX.out.a;have aP:=aq (qn aX.out bS.cy b3);go_wp2_with fail;refine dC (w:=h0 cm w.heap.size bS.cy b3) (v:=.tuple #[kF bS.cy b3,I 3]) ?_ rfl ?_
    ·clear aN aL aI c3 f0 f1 f2 f3;generalize h0 cm w.heap.size bS.cy b3=et at aP⊢;obtain⟨⟨aN,aL,aI,c3⟩,_⟩:=hj aP.out.1;simp[results,L8,go_sem,aN,aL,aI,c3]<;>rfl
    ·rw[←bd.out];exact⟨aP.out.2,rfl⟩
end gT
