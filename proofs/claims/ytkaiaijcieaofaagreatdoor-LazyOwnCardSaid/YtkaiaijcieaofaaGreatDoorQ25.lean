/- Lemmas. -/
import Derived.Test.YtkaiaijcieaofaaGreatDoorQ24
set_option linter.all false
set_option maxRecDepth 100000
set_option maxHeartbeats 12800000
namespace Go.Proofs.YtkaiaijcieaofaaGreatDoor
abbrev Vn:=@List.dropLast_concat
abbrev Vo:=@Nat.add_le_add
namespace c1
open Go.RowKit ef
open n2 (iq dG ec vu uc)
section
variable(T V:Nat)(vs:List (Int×Int))(u:Int)(k e:Nat)
theorem aoe(a b x y:Int×Int)(w:aeo)(H:af (e3 T V vs u k e w))(ha:af (vs[k]?=some a))(ay:af (vs[k+1]?=some b))(hx:af (vs[k+1+1]?=some x))(hy:af (vs[k+1+1+1]?=some y))(az:vs.length≤100000):
  Calls Tryz.prog 224 #[ah T 0] w (LX T V vs u (k+1+1+1+1) (qq u (kg (kg e (ic u a)) (ic u b)) x y) w (mZ [xb (pU u x y) (jq u a) (jq u b)]) (decide (0<jq u a)&&decide (0<jq u b))):=by
 have H1:=ao (H.out.self (bh w jh));have cJ:=ao (cR w jh);have dr:af (w.heap.size≠T):=by have:=lt_of_heap H.out.t;show _≠_;omega
 have mf:=ao (lt_of_heap H.out.v);have kr:=ao (fun Z (h:e3 T V vs u k e Z)=>FN T V vs u k e a Z (ao h) ha az);have kQ:=ao (fun e Z (h:e3 T V vs u (k+1) e Z)=>FN T V vs u (k+1) e b Z (ao h) ay az);have lA:=ao (fun e Z (h:e3 T V vs u (k+1+1) e Z)=>Ij T V vs u (k+1+1) e x y Z (ao h) hx hy az);have gY:=LW u a;have hD:=LW u b;have qg:=Ih x.1 x.2 u;have Il:=Ih y.1 y.2 u;obtain⟨r,hr⟩:=aq (jq u a);obtain⟨FO,tw⟩:=aq (kg e (ic u a));obtain⟨s,hs⟩:=aq (jq u b);obtain⟨ku,wq⟩:=aq (ic u b);obtain⟨X,b2⟩:=aq (ic u x);obtain⟨Y,e7⟩:=aq (ic u y);rw[hr] at gY;rw[hs] at hD;unfold pU qq;have Vp:kG x.1 x.2 u=X:=b2;have Vq:kG y.1 y.2 u=Y:=e7;have acJ:kG b.1 b.2 u=ku:=wq;have qf:(kG a.1 a.2 u).1.tdiv 2=r:=hr;have Ha:(kG b.1 b.2 u).1.tdiv 2=s:=hs;have acK:kg e (kG a.1 a.2 u)=FO:=tw;rw[Vp] at qg;rw[Vq] at Il;rw[qf,acK] at kr;rw[Ha,acJ] at kQ;rw[Vp,Vq] at lA;rw[b2,e7,hr,hs,wq,tw];clear hr tw hs wq b2 e7 Vp Vq qf Ha acK acJ ha ay hx hy;obtain⟨nv,xO⟩:=X;obtain⟨n7,qh⟩:=Y;have aH:af ((-1000000000≤nv∧nv≤1000000000)∧(-1000000000≤n7∧n7≤1000000000)∧(-1000000000≤r∧r≤1000000000)∧(-1000000000≤s∧s≤1000000000)):=by have au:-536870912≤nv∧nv≤536870912:=qg;have ax:-536870912≤n7∧n7≤536870912:=Il;show _∧_;omega
 have nf:=ao (fun Z=>Vl nv n7 r s aH.out.1 aH.out.2.1 aH.out.2.2.1 aH.out.2.2.2 Z);clear qg Il gY hD;obtain⟨A6,jP⟩:=aq (mZ [xb (nv,n7) r s]);rw[jP] at nf⊢;have oI:=ao jP;clear jP;obtain⟨ok,fL⟩:=aq (decide (0<r)&&decide (0<s));rw[fL];have Ik:(¬0<r∧ok=false)∨(0<r∧ok=decide (0<s)):=by rw[←fL];by_cases aF:0<r<;>simp[aF]
 clear fL;go_enter Tryz.func224,Tryz.ntmps224;go_wp2_with fail;with_reducible refine (kr.out _ H1.out.1).mono ?_
 rintro a6 bt ⟨rfl,ax,bM⟩;have bp:=ao ax;have kX:=ao (bM.get dr.out cJ.out);have gW:=ao (H1.out.2.trans bM);clear ax bM;go_wp2_with fail;with_reducible refine (kQ.out _ _ bp.out).mono ?_
 rintro cV db ⟨rfl,aA,fk⟩;have bW:=ao aA;have jj:=ao (fk.get dr.out kX.out);have jw:=ao (gW.out.trans fk);clear aA fk;go_wp2_with fail;with_reducible refine (lA.out _ _ bW.out).mono ?_
 rintro iI bZ ⟨rfl,bb,h7⟩;have ht:=ao bb;have x7:=ao (h7.get dr.out jj.out);have ko:=ao (jw.out.trans h7);clear bb h7;go_wp2_with fail;with_reducible refine (nf.out _).mono ?_
 rintro lu br ⟨dX,pl,cl,rfl,hs⟩;have lJ:=ao (ht.out.self dX);have nX:=ao (ba x7.out dX);have tV:=ao (ko.out.trans (.c4 dX));have ib:=ao hs;have pV:=ao (lt_of_heap x7.out);obtain⟨z0,z1,z2,z3,z4,z5,gZ,gR,fM,z9⟩:=dQ nX.out;have f0:=dc nX.out;clear dX hs;rcases Ik with ⟨aF,rfl⟩|⟨aF,rfl⟩
 all_goals
  go_wp2_with fail;refine lh (P:=bodyPost _ _ _ _ _) (js A6 (ad pl A6.l.length cl) cC) nX.out rfl fun cZ g1 g2=>?_;exact cL (mw rfl _ _ w.heap.size _ _ _ _ rfl g1 pF rfl (by kernel_rfl)) rfl ⟨⟨lJ.out.1.keep g2 dr.out.symm (qn mf.out),tV.out.new g2 fun k aw=>qn aw⟩,pl,cl,rfl,(ib.out.keep (g2.mono fun k _ aw=>by have:=pV.out;omega)).mono fun k _ aw=>by have:=pV.out;omega⟩
end
end c1
namespace c1
open Go.RowKit ef
open n2 (iq dG ec vu uc)
def n8(u:Int)(vs:List (Int×Int))(k i:Nat):b7:=pU u (vs.getD (k+i *2) (0,0)) (vs.getD (k+i *2+1) (0,0))
def sM(u:Int)(vs:List (Int×Int))(k:Nat)(e:Nat):Nat→Nat
 |0=>e
 |i+1=>qq u (sM u vs k e i) (vs.getD (k+i *2) (0,0)) (vs.getD (k+i *2+1) (0,0))
def Im(v:Int×Int)(L:Nat):Bool:=decide (v.2≠1)||(decide (v.1<1)||(decide (500<v.1)|| decide (2 *v.1+5≠(L:Int))))
def q3(P n i:Nat)(f:Nat→b7)(x:aeo):Prop:=∃cs:ajv,al x P cs de∧cs.size=n *2∧∀j,j<i→cs[j *2]?=some (I (f j).1)∧cs[j *2+1]?=some (I (f j).2)
variable{P n i:Nat}{f:Nat→b7}{x:aeo}
theorem q3.below{y:aeo}(h:q3 P n i f x)(ay:an x x y):q3 P n i f y:=by obtain⟨cs,au,ax,aA⟩:=h;exact⟨cs,ba au ay,ax,aA⟩
theorem q3.get{P n i:Nat}{f:Nat→b7}{x y:aeo}{S:afp}(h:q3 P n i f x)(aw:aK S x y)(hS:S P):q3 P n i f y:=by obtain⟨cs,au,ax,aA⟩:=h;exact⟨cs,aw.get hS au,ax,aA⟩
theorem q3.lt(h:q3 P n i f x):P<x.heap.size:=by obtain⟨cs,au,_⟩:=h;exact lt_of_heap au
theorem q3.at(h:q3 P n i f x){j:Nat}(b6:j<n):(∃a,ak x P (j *2) a)∧(∃a,ak x P (j *2+1) a)∧∀i,x.frozen? ⟨P,i,none⟩=false:=by obtain⟨cs,au,ax,aA⟩:=h;exact⟨⟨_,cell_of au (JP (by omega))⟩,⟨_,cell_of au (JP (by omega))⟩,dc au⟩
theorem q3.uB(h:q3 P n i f x){j:Nat}(b6:j<i):ak x P (j *2) (I (f j).1)∧ak x P (j *2+1) (I (f j).2):=by obtain⟨cs,au,ax,aA⟩:=h;exact⟨cell_of au (aA j b6).1,cell_of au (aA j b6).2⟩
theorem q3.put(h:q3 P n i f x)(hi:i<n):q3 P n (i+1) f ((x.setCell (aj P (i *2)) (I (f i).1)).setCell (aj P (i *2+1)) (I (f i).2)):=by
 obtain⟨cs,au,ax,aA⟩:=h;refine⟨_,dt _ (dt _ au),by simp[ax],fun j b6=>?_⟩;by_cases e:j=i
 ·subst e;exact⟨by rw[vV (by omega),Gz (by omega)],by rw[Gz (by simp;omega)]⟩
 ·obtain⟨g1,g2⟩:=aA j (by omega);exact⟨by rw[vV (by omega),vV (by omega)];exact g1,by rw[vV (by omega),vV (by omega)];exact g2⟩
structure LZ(T V:Nat)(vs:List (Int×Int))(u:Int)(w:aeo)(k e:Nat)(P n i:Nat)(f:Nat→b7)(x:aeo):Prop where
 g:e3 T V vs u k e x
 k:aK (fun b=>b≠T) w x
 s:x.heap[w.heap.size]?=some jh
 p:q3 P n i f x
 FP:w.heap.size<P
section
variable(T V:Nat)(vs:List (Int×Int))(u:Int)(k e:Nat)
theorem aof(v:Int×Int)(n:Nat)(w:aeo)(H:af (e3 T V vs u k e w))(aS:af (vs[k]?=some v))(hn:n=(vs.length-3)/ 2)(aA:3≤vs.length)(aw:k+1+n *2≤vs.length)(au:1≤n)(az:vs.length≤2000)(ay:-1073741824≤v.1∧v.1≤1073741824):
  Calls Tryz.prog 225 #[ah T 0] w fun b3 w'=>mT T V vs u (k+1+n *2) (if n8 u vs (k+1) (n-1)≠n8 u vs (k+1) 0 then gC (sM u vs (k+1) (if Im v vs.length then gC e 4 else e) n) 4 else sM u vs (k+1) (if Im v vs.length then gC e 4 else e) n) w w'∧∃(pl:Ja) (cl:Nat),b3=ab (jc (mZ [((List.range n).map (n8 u vs (k+1))).dropLast]) (ad pl 1 cl) cC)∧dw (fun k=>w.heap.size≤k) w' pl cl none 0 ⟨mZ [((List.range n).map (n8 u vs (k+1))).dropLast],.nil⟩:=by
 have H1:=ao (H.out.self (bh w jh));have cJ:=ao (cR w jh);have dr:af (w.heap.size≠T):=by have:=lt_of_heap H.out.t;show _≠_;omega
 have mf:=ao (lt_of_heap H.out.v);have bG:=ao (fun (Z:aeo) (h:e3 T V vs u k e Z)=>mF T V vs u k e v Z (ao h) aS.out (by omega));have wI:af (((vs.length:Int)-3)/ 2=(n:Int)∧n≤1000):=by show _∧_;omega
 clear hn aA;obtain⟨nC,qx⟩:=aq (((List.range n).map (n8 u vs (k+1))).dropLast);have P8:=ao qx;rw[qx];clear qx;obtain⟨bad,fb⟩:=aq (Im v vs.length);obtain⟨aY,my⟩:=aq (if bad then gC e 4 else e);have r7:af (Bh T V vs u (k+1) e 4 4):=C3 T V vs u (k+1) e 4;rw[fb,my];obtain⟨aog,Vr⟩:=aq (if n8 u vs (k+1) (n-1)≠n8 u vs (k+1) 0 then gC (sM u vs (k+1) aY n) 4 else sM u vs (k+1) aY n);rw[Vr];have aoh:=ao Vr;clear Vr;obtain⟨a,d⟩:=v;have ay:-1073741824≤a∧a≤1073741824:=ay;have Ik:((d !=1)=true∧bad=true)∨((d !=1)=false∧decide (a<1)=true∧bad=true)∨((d !=1)=false∧decide (a<1)=false∧decide (500<a)=true∧bad=true)∨((d !=1)=false∧decide (a<1)=false∧decide (500<a)=false∧(2 *a+5 !=(vs.length:Int))=true∧bad=true)∨((d !=1)=false∧decide (a<1)=false∧decide (500<a)=false∧(2 *a+5 !=(vs.length:Int))=false∧bad=false):=by rw[←fb];unfold Im;simp only;by_cases eB:d=1<;>by_cases bI:a<1<;>by_cases bJ:500<a<;>by_cases dT:2 *a+5=(vs.length:Int)<;>simp[eB,bI,bJ,dT]
 have pD:=ao Ik;have C5:=ao my;clear Ik fb my;go_enter Tryz.func225,Tryz.ntmps225;go_wp2_with fail;with_reducible refine (bG.out _ H1.out.1).mono ?_
 rintro a6 bt ⟨rfl,ax,bM⟩;have bp:=ao (ax.self (bh bt (dG a d)));have kX:=ao (ba (bM.get dr.out cJ.out) (bh bt (dG a d)));have gW:=ao ((H1.out.2.trans bM).trans bp.out.2);have dC:=ao (cR bt (dG a d));clear ax bM bG;go_upto_region 2 with fail;generalize bt.alloc (dG a d)=db at bp kX gW dC⊢;go_cut [33] (fun b cq=>b=U bad∧af (e3 T V vs u (k+1) e cq)∧af (cq.heap[w.heap.size]?=some jh)∧af (aK (fun b=>b≠T) w cq))
 case first=>
  obtain⟨⟨du,dI⟩,_⟩:=ec dC.out;obtain⟨⟨t0,t1,t2,t3⟩,nY⟩:=Bf bp.out.1.t;have lt:=lt_of_heap bp.out.1.t;have bk:wrap64 (2 *a)=2 *a:=qo _ (by omega);have awb:wrap64 (2 *a+5)=2 *a+5:=qo _ (by omega);rcases pD.out with ⟨eB,rfl⟩|⟨eB,bI,rfl⟩|⟨eB,bI,bJ,rfl⟩|⟨eB,bI,bJ,dT,rfl⟩|⟨eB,bI,bJ,dT,rfl⟩
  all_goals
   go_quiet (fail)
   go_wp2_with fail;go_meet;exact⟨rfl,bp.out.1.below (iu (Below.refl _ _) nq),ba kX.out (iu (Below.refl _ _) nq),gW.out.trans (.c4 (iu (Below.refl _ _) nq))⟩
 case rest=>
 obtain⟨rfl,ht,x7,ko⟩:=hcut;clear bp kX gW dC pD;go_upto_if 33 with fail;go_cut [] (fun cq=>af (e3 T V vs u (k+1) aY cq)∧af (cq.heap[w.heap.size]?=some jh)∧af (aK (fun b=>b≠T) w cq))
 case first=>
  have my:=C5.out;cases bad with
  |false=>
   obtain rfl:e=aY:=my;go_wp2_with fail;go_meet;exact⟨ht.out,x7.out,ko.out⟩
  |true=>
   obtain rfl:gC e 4=aY:=my;go_wp2_with (go_at_call 221;(with_reducible refine (r7.out _ ht.out).mono ?_);rintro b3 br ⟨⟨v5,rfl⟩,bj,hl⟩);go_meet;exact⟨bj,hl.get dr.out x7.out,ko.out.trans hl⟩
 case rest=>
 obtain⟨lJ,nX,tV⟩:=hcut;clear ht x7 ko;obtain⟨⟨t0,t1,t2,t3⟩,nY⟩:=Bf lJ.out.t;have lt:=lt_of_heap lJ.out.t;have bI:wrap64 ((vs.length:Int)-3)=(vs.length:Int)-3:=qo _ (by omega);have bJ:=wI.out.1;have h2:=wI.out.2;have dT:wrap64 (n:Int)=(n:Int):=qo _ (by omega);have aoi:∀Z:aeo,(Instr.makeSlice 45 (I (n:Int)) (I (n:Int))).run Tryz.prog Z=.ok (ag Z.heap.size 0 n n) (Z.alloc (ai (madeCells #[I 0,I 0] (n *2)) de)):=fun Z=>yR 45 de (.agg #[I 0,I 0]) 2 16 JR Sk n (cd (Nat.mul_le_mul_left 16 h2) (by decide)) (cd h2 (by decide)) Z;go_upto_region 5 with fail;have jW:af (LZ T V vs u w (k+1) aY wc.heap.size n 0 (n8 u vs (k+1)) (wc.alloc (ai (madeCells #[I 0,I 0] (n *2)) de))):=⟨lJ.out.below (bh _ _),tV.out.trans (.c4 (bh _ _)),ba nX.out (bh _ _),⟨_,cR _ _,by simp[madeCells],fun j b6=>absurd b6 (by omega)⟩,lt_of_heap nX.out⟩;generalize wc.alloc (.cells (madeCells #[I 0,I 0] (n *2)) de)=b' at jW⊢;obtain⟨P,iY⟩:=aq wc.heap.size;rw[iY] at jW⊢;clear iY t0 t1 t2 t3 nY lt bI bJ dT aoi lJ nX tV;have qs:=ao (lt_of_heap H.out.t);go_wp2_with fail
 go_loopw [46] (fun xS wr=>∃(i:Nat) (cq:aeo),cq=wr∧i≤n∧xS=I i∧af (LZ T V vs u w (k+1+i *2) (sM u vs (k+1) aY i) P n i (n8 u vs (k+1)) cq)) (fun xS _=>n -(intOf xS).toNat)
 case atStart=>exact⟨0,_,rfl,cO _,rfl,jW.out⟩
 case round=>
 obtain⟨i,cq,rfl,hi,rfl,sN⟩:=hrel;clear jW;by_cases bm:i<n
 ·have fD:(i:Int)<(n:Int):=(by omega);have acL:vs[k+1+i *2]?=some (vs.getD (k+1+i *2) (0,0)):=(by rw[zl,iW (by omega)];rfl);have acM:vs[k+1+i *2+1]?=some (vs.getD (k+1+i *2+1) (0,0)):=(by rw[zl,iW (by omega)];rfl);have bw:=ao (Ij T V vs u (k+1+i *2) (sM u vs (k+1) aY i) _ _ cq (ao sN.out.g) (ao acL) (ao acM) (by omega));clear acL acM;obtain⟨q,aG⟩:∃q:b7,n8 u vs (k+1) i=q:=⟨_,rfl⟩;have acN:pU u (vs.getD (k+1+i *2) (0,0)) (vs.getD (k+1+i *2+1) (0,0))=q:=aG;have bn:=ao aG;have bw:af (Calls Tryz.prog 235 #[ah T 0] cq fun b3 w'=>b3=ab (.agg #[I q.1,I q.2])∧mT T V vs u (k+1+i *2+1+1) (sM u vs (k+1) aY (i+1)) cq w'):=(by rw[←acN];exact bw.out);clear aG acN;obtain⟨BK,BL⟩:=q;go_upto_region 9 with (go_at_call 235;(with_reducible refine bw.out.mono ?_);rintro b3 hV ⟨rfl,cY,ni⟩;have wR:=q3.get sN.out.p ni (by have:=sN.out.FP;have:=qs.out;omega);obtain⟨⟨aV,CU⟩,⟨aT,oW⟩,nd⟩:=wR.at bm);have rT:af (LZ T V vs u w (k+1+(i+1) *2) (sM u vs (k+1) aY (i+1)) P n (i+1) (n8 u vs (k+1)) ((hV.setCell (aj P (i *2)) (I BK)).setCell (aj P (i *2+1)) (I BL))):=(by have acO:=wR.put bm;rw[bn.out] at acO;have dS:aK (fun b=>b≠P) hV ((hV.setCell (aj P (i *2)) (I BK)).setCell (aj P (i *2+1)) (I BL)):=(aK.set (a:=⟨P,i *2,none⟩) (fun h=>h rfl) _).trans (aK.set (a:=⟨P,i *2+1,none⟩) (fun h=>h rfl) _);have e:k+1+i *2+1+1=k+1+(i+1) *2:=(by omega);have Vs:=sN.out.FP;have LQ:=qs.out;have Pj:=mf.out;rw[←e];exact⟨cY.keep dS (by omega) (by omega),(sN.out.k.trans ni).new dS (fun b ay=>by omega),dS.get (by omega) (ni.get dr.out sN.out.s),acO,Vs⟩);clear cY ni wR CU oW nd bw bn sN;go_wp2_with fail;go_round<;>first|exact⟨i+1,_,rfl,by omega,by go_num,rT.out⟩|(simp[intOf]<;>omega)
 ·obtain rfl:i=n:=(by omega);obtain⟨m,rfl⟩:∃m,i=m+1:=⟨i-1,by omega⟩;obtain⟨ho,fx⟩:=sN.out.p.uB (j:=0) (by omega);obtain⟨df,yP⟩:=sN.out.p.uB (j:=m) (by omega);have bI:wrap64 (m:Int)=(m:Int):=qo _ (by have:=wI.out.2;omega);have bJ:wrap64 (((m+1:Nat):Int)-1)=(m:Int):=(by rw[show (((m+1:Nat):Int)-1)=(m:Int) by omega];exact bI);obtain⟨A,hA9⟩:=aq (n8 u vs (k+1) m);obtain⟨B,Vt⟩:=aq (n8 u vs (k+1) 0);have acP:=ao (And.intro hA9 Vt);rw[hA9] at df yP;rw[Vt] at ho fx;clear hA9 Vt;obtain⟨a7,a'⟩:=A;obtain⟨aX,a8⟩:=B;have L0:(m:Int)<((m+1:Nat):Int):=(by omega);go_upto_region 11 with fail;obtain⟨ne,hne⟩:∃b:Bool,decide (((a7,a'):b7)≠(aX,a8))=b:=⟨_,rfl⟩;have eD:(¬a7=aX∧ne=true)∨(a7=aX∧¬a'=a8∧ne=true)∨(a7=aX∧a'=a8∧ne=false):=(by rw[←hne];by_cases aF:a7=aX<;>by_cases ax:a'=a8<;>simp[aF,ax]);have jb:=ao hne;have pD:=ao eD;clear hne eD C5 r7 bad;go_cut [65] (fun b aL=>b=U ne∧af (an cq cq aL))
  case first=>
   rcases pD.out with ⟨aF,rfl⟩|⟨rfl,ax,rfl⟩|⟨rfl,rfl,rfl⟩
   all_goals
    go_quiet (fail)
    go_wp2_with fail;go_meet;exact⟨rfl,iu (Below.refl _ _) nq⟩
  case rest=>
  obtain⟨rfl,aH⟩:=hcut;have iE:af (LZ T V vs u w (k+1+(m+1) *2) (sM u vs (k+1) aY (m+1)) P (m+1) (m+1) (n8 u vs (k+1)) wc):=⟨sN.out.g.below aH.out,sN.out.k.trans (.c4 aH.out),ba sN.out.s aH.out,sN.out.p.below aH.out,sN.out.FP⟩;obtain⟨E,ft⟩:=aq (sM u vs (k+1) aY (m+1));obtain⟨hb,vv⟩:=aq (if ne then gC E 4 else E);have Uc:af ((if n8 u vs (k+1) (m+1-1)≠n8 u vs (k+1) 0 then gC (sM u vs (k+1) aY (m+1)) 4 else sM u vs (k+1) aY (m+1))=hb):=(by show _=_;rw[Pb,acP.out.1,acP.out.2,ft,←vv,←jb.out];simp only[p0]);rw[ft] at iE;have L1:=ao vv;clear ft vv jb pD aH sN ho fx df yP;have P9:af (Bh T V vs u (k+1+(m+1) *2) E 4 4):=C3 T V vs u (k+1+(m+1) *2) E 4;go_upto_if 65 with fail;go_cut [] (fun aL=>af (LZ T V vs u w (k+1+(m+1) *2) hb P (m+1) (m+1) (n8 u vs (k+1)) aL))
  case first=>
   have vv:=L1.out;cases ne with
   |false=>
    obtain rfl:E=hb:=vv;go_wp2_with fail;go_meet;exact iE.out
   |true=>
    obtain rfl:gC E 4=hb:=vv;go_wp2_with (go_at_call 221;(with_reducible refine (P9.out _ iE.out.g).mono ?_);rintro b3 br ⟨⟨v5,rfl⟩,bj,hl⟩);go_meet;exact⟨bj,iE.out.k.trans hl,hl.get dr.out iE.out.s,iE.out.p.get hl (by have:=iE.out.FP;have:=qs.out;omega),iE.out.FP⟩
  case rest=>
  have nQ:=hcut;clear iE P9 L1;obtain⟨z0,z1,z2,z3,z4,z5,gZ,gR,fM,z9⟩:=dQ nQ.out.s;have f0:=dc nQ.out.s;have ls:=lt_of_heap nQ.out.s;have awc:=nQ.out.p.lt;have P':hb=aog:=Uc.out.symm.trans aoh.out;have C6:nC=(List.range m).map (n8 u vs (k+1)):=(by rw[←P8.out,List.range_succ,v7,List.map_singleton,Vn]);have hlen:nC.length=m:=(by rw[C6,jV,List.length_range]);have Co:∀j (b6:j<nC.length),nC[j]=n8 u vs (k+1) j:=(fun j b6=>by simp[C6]);have zI:=ao (And.intro P' (And.intro hlen Co));have fX:m≤1000:=(by have:=wI.out.2;omega);clear P' C6 hlen Co;have Pj:=mf.out;have LQ:=qs.out;go_wp2_with fail;refine (lh (P:=fun X=>X.heap.size=wc.heap.size→bodyPost _ _ _ _ _ (X.alloc _)) (js (mZ [nC]) (ag wc.heap.size 0 1 1) cC) nQ.out.s rfl fun cZ g1 g2 fw=>?_) (R3 _ _ _ _);have ay:=bh cZ (ai (#[ad (some (aj P 0)) m m]) 45);have acQ:=cR cZ (ai (#[ad (some (aj P 0)) m m]) 45);rw[fw] at acQ;obtain⟨P',hlen,Co⟩:=zI.out;obtain⟨cs,qA,oc,wm⟩:=(nQ.out.p.get g2 (by have:=nQ.out.FP;omega)).below ay;have Vs:=nQ.out.FP;refine cL (sg rfl _ _ w.heap.size _ _ _ _ rfl (ba g1 ay) pF rfl (by kernel_rfl)) rfl ⟨⟨P' ▸(nQ.out.g.keep g2 (by omega) (by omega)).below ay,(nQ.out.k.new g2 fun b ay=>by omega).trans (.c4 ay)⟩,some ⟨wc.heap.size,0,none⟩,1,rfl,⟨⟨show 1≤jr by decide,fun _=>⟨_,0,_,rfl,k5 ls,acQ,fun i hi=>?_⟩⟩,.nil _ _ _,aP _,aP _⟩⟩;obtain rfl:i=0:=(by have:i<1:=hi;omega);refine⟨some ⟨P,0,none⟩,m,?_,?_,?_,fun _=>⟨P,0,cs,rfl,k5 Vs,qA,fun j b6=>?_⟩⟩
  ·show some (Value.slice _ m m)=some (ad _ nC.length _);rw[hlen]
  ·show nC.length≤m;omega
  ·show nC.length≤jr;rw[hlen];exact cd fX (by decide)
  ·have b6:j<nC.length:=b6;have e:=Co j b6;have:=wm j (by omega);rw[jt];show cs[j *2]?=some (I (nC[j]).1)∧cs[j *2+1]?=some (I (nC[j]).2);rw[e];exact this
end
end c1
namespace c1
open Go.RowKit ef
structure qt(B:Nat)(R:afp)(ps:bf)(eH:ada)(xs:aev)(Y:aeo):Prop where
 own:Y.ownsRow B ev 11 eH ps.len xs
 at_:da R Y ps xs
 gp:∀b,R b→B≤b∧b<Y.heap.size∧eH.ownBlock≠some b
section
variable{B:Nat}{R:afp}{ps q:bf}{eH pv':ada}{xs news:aev}{Y Z mD br:aeo}
theorem qt.keep{S:afp}(h:qt B R ps eH xs Y)(aw:aK S Y Z)(hR:∀b,R b→S b)(a1:∀b,eH.ownBlock=some b→S b):qt B R ps eH xs Z:=
 ⟨jk h.own aw a1,h.at_.keep (aw.mono fun b _ ay=>hR b ay),fun b ay=>⟨(h.gp b ay).1,hN (h.gp b ay).2.1 aw.size,(h.gp b ay).2.2⟩⟩
theorem qt.below(h:qt B R ps eH xs Y)(ay:an Y Y Z):qt B R ps eH xs Z:=
 ⟨fY h.own ay,h.at_.below ay,fun b hR=>⟨(h.gp b hR).1,hN (h.gp b hR).2.1 ay.size,(h.gp b hR).2.2⟩⟩
theorem qt.push(h:qt B R ps eH xs Y)(qO:an Y Y Z)(Io:an Z Z mD)(hp:da (fun b=>Y.heap.size≤b) Z q news)(ct:br.ownsRow B ev 11 pv' (ps.len+q.len) (xs++news))(dn:mD.grownBy br eH.ownBlock)(dF:pv'.ownBlock=eH.ownBlock∨∃g,pv'.ownBlock=some g∧Z.heap.size≤g)(bz:B≤Y.heap.size):
  qt B (fun b=>R b∨(Y.heap.size≤b∧b<Z.heap.size)) (ps.append q) pv' (xs++news) br:=by
 have hK:aK (fun b=>eH.ownBlock≠some b) mD br:=aK.grown dn fun k e aw=>aw e;have cN:=h.below qO;have aoj:=cN.below Io;have s1:=qO.size;have s2:=Io.size;have kV:=hK.size;refine⟨by rw[bf.uw];exact ct,?_,fun b ay=>?_⟩
 ·refine da.append ?_ h.own.1 ?_
  ·exact (aoj.at_.keep (hK.mono fun b _ ay=>(h.gp b ay).2.2)).mono fun b _ ay=>.inl ay
  ·exact ((((hp.mono (R:=fun b=>Y.heap.size≤b∧b<Z.heap.size) fun b au ax=>⟨ax,au⟩).below Io).keep (hK.mono fun b _ ay=>fun e=>by have:=(ky h.own e).2.1;omega)).mono fun b _ ay=>.inr ay)
 ·rcases ay with ay|ay
  ·have au:=h.gp b ay;refine⟨au.1,by omega,fun e=>?_⟩;rcases dF with ha|⟨g,ha,aI⟩
   ·exact au.2.2 (ha ▸ e)
   ·rw[ha] at e;injection e with e;omega
  ·refine⟨by omega,by omega,fun e=>?_⟩;rcases dF with ha|⟨g,ha,aI⟩
   ·have:=(ky h.own (ha ▸ e)).2.1;omega
   ·rw[ha] at e;injection e with e;omega
theorem qt.new{g:Nat}{cs:ajv}(aE:al Y g cs ev)(bz:B≤g)(hs:cs.size=ps.len *11)(hm:ps.len≤maxLen)(hp:da R Y ps cs.toList)(hR:∀b,R b→B≤b∧b<Y.heap.size∧b≠g):qt B R ps (ag g 0 ps.len ps.len) cs.toList Y:=
 ⟨⟨by rw[Ft,hs],.inr ⟨g,ps.len,cs,rfl,bz,aE,aP _,hm,hs,sY (by rw[Ft,hs];exact aP _)⟩⟩,hp,fun b ay=>⟨(hR b ay).1,(hR b ay).2.1,fun e=>(hR b ay).2.2 (by simpa[Value.ownBlock] using e.symm)⟩⟩
theorem qt.fin(h:qt B R ps eH xs Y)(ay:ps.len≤jr):∃pp cp,eH=ad pp ps.len cp∧dw (fun b=>B≤b) Y none 0 pp cp ⟨iG,ps⟩:=by
 rcases h.own.2 with ⟨au,ax⟩|⟨g,c,cur,au,bz,aE,hle,_,hs,bc⟩
 ·refine⟨none,0,by rw[au,ax],⟨.nil _ _ _,?_,aP _,by show ps.len≤0;omega⟩⟩;exact⟨ay,fun hp=>absurd hp (by show ¬0<ps.len;omega)⟩
 ·refine⟨some ⟨g,0,none⟩,c,au,⟨.nil _ _ _,⟨ay,fun _=>⟨g,0,cur,rfl,bz,aE,?_⟩⟩,aP _,hle⟩⟩;rw[wu];refine (h.at_.mono fun b _ ay=>(h.gp b ay).1).congr ?_;rw[bc,sY (CN h.own.1)]
end
end c1
namespace c1
open Go.RowKit ef
open n2 (iq dG ec vu uc)
def FQ(c:b7)(i:Int):bf:=if 0<i then .cons false (mY c i) .nil .nil else .nil
def Bi(c:b7)(o g:Int):bf:=if 0<g then .cons false (mZ [xb c o g]) .nil (.cons false (mZ [xb c g o]) .nil .nil) else .nil
def L2(c:b7)(o i g:Int):bf:=.cons true (mY c o) .nil ((FQ c i).append (Bi c o g))
structure vw(T V:Nat)(vs:List (Int×Int))(u:Int)(w:aeo)(k e A:Nat)(c:b7)(x:aeo):Prop where
 g:e3 T V vs u k e x
 k:aK (fun b=>b≠T) w x
 s:x.heap[w.heap.size]?=some jh
 a:al x A (#[I c.1,I c.2]) de
 zJ:w.heap.size<A
theorem vw.below{T V:Nat}{vs:List (Int×Int)}{u:Int}{w:aeo}{k e A:Nat}{c:b7}{x y:aeo}(h:vw T V vs u w k e A c x)(ay:an x x y):vw T V vs u w k e A c y:=
 ⟨h.g.below ay,h.k.trans (.c4 ay),ba h.s ay,ba h.a ay,h.zJ⟩
theorem vw.grown{T V:Nat}{vs:List (Int×Int)}{u:Int}{w:aeo}{k e A:Nat}{c:b7}{x y z:aeo}{B m:Nat}{eH:ada}{xs:aev}(h:vw T V vs u w k e A c x)(a1:x.ownsRow B ev 11 eH m xs)(bz:w.heap.size≤B)(ay:an x x y)(aI:y.grownBy z eH.ownBlock):vw T V vs u w k e A c z:=by
 have hy:=h.below ay;have zK:=fY a1 ay;have aw:aK (fun b=>eH.ownBlock≠some b) y z:=aK.grown aI fun k e aw=>aw e;have Ip:∀{b:Nat} {cs:ajv} {t:aai},al y b cs t→ev≠t→eH.ownBlock≠some b:=fun ay bc e=>by obtain⟨_,_,cur,aB⟩:=ky zK e;exact g' aB ay bc rfl
 exact⟨hy.g.keep aw (Ip hy.g.t (by decide)) (Ip hy.g.v (by decide)),hy.k.new aw fun b ay e=>by have:=(ky zK e).1;omega,aw.get (Ip hy.s (by decide)) hy.s,aw.get (Ip hy.a (by decide)) hy.a,hy.zJ⟩
section
variable(T V:Nat)(vs:List (Int×Int))(u:Int)(k e:Nat)
theorem aok(x y o i g:Int×Int)(w:aeo)(H:af (e3 T V vs u k e w))(hx:af (vs[k]?=some x))(hy:af (vs[k+1]?=some y))(a1:af (vs[k+1+1]?=some o))(hi:af (vs[k+1+1+1]?=some i))(aI:af (vs[k+1+1+1+1]?=some g))(az:vs.length≤2000)
  (r:Int) (hr:jq u o=r) (s:Int) (hs:jq u i=s) (p:Int) (hp:jq u g=p) (c:b7) (aB:pU u x y=c) (aY:Nat) (my:kg (kg (kg (qq u e x y) (ic u o)) (ic u i)) (ic u g)=aY):
  Calls Tryz.prog 226 #[ah T 0] w fun b3 w'=>mT T V vs u (k+1+1+1+1+1) (if r≤s∨r≤p then gC aY 4 else aY) w w'∧∃(pp:Ja) (cp:Nat),b3=ab (jc iG cC (ad pp (L2 c r s p).len cp))∧dw (fun k=>w.heap.size≤k) w' none 0 pp cp ⟨iG,L2 c r s p⟩:=by
 have H1:=ao (H.out.self (bh w jh));have cJ:=ao (cR w jh);have dr:af (w.heap.size≠T):=by have:=lt_of_heap H.out.t;show _≠_;omega
 have qs:=ao (lt_of_heap H.out.t);have mf:=ao (lt_of_heap H.out.v);obtain⟨a6,uI⟩:=aq (kg (kg (qq u e x y) (ic u o)) (ic u i));obtain⟨cV,L3⟩:=aq (kg (qq u e x y) (ic u o));obtain⟨iI,Vu⟩:=aq (qq u e x y);have kr:af (∀Z,e3 T V vs u k e Z→Calls Tryz.prog 235 #[ah T 0] Z fun b3 w'=>b3=ab (.agg #[I c.1,I c.2])∧mT T V vs u (k+1+1) iI Z w'):=fun Z h=>by rw[←aB,←Vu];exact Ij T V vs u k e x y Z (ao h) hx hy (by omega)
 have kQ:af (∀Z,e3 T V vs u (k+1+1) iI Z→Calls Tryz.prog 234 #[ah T 0] Z fun b3 w'=>b3=ab (I r)∧mT T V vs u (k+1+1+1) cV Z w'):=fun Z h=>by rw[←hr,←L3,Vu];exact FN T V vs u _ iI o Z (ao h) a1 (by omega)
 have lA:af (∀Z,e3 T V vs u (k+1+1+1) cV Z→Calls Tryz.prog 234 #[ah T 0] Z fun b3 w'=>b3=ab (I s)∧mT T V vs u (k+1+1+1+1) a6 Z w'):=fun Z h=>by rw[←hs,←uI,L3];exact FN T V vs u _ cV i Z (ao h) hi (by omega)
 have nf:af (∀Z,e3 T V vs u (k+1+1+1+1) a6 Z→Calls Tryz.prog 234 #[ah T 0] Z fun b3 w'=>b3=ab (I p)∧mT T V vs u (k+1+1+1+1+1) aY Z w'):=fun Z h=>by rw[←hp,←my,uI];exact FN T V vs u _ a6 g Z (ao h) aI (by omega)
 have r7:af (Bh T V vs u (k+1+1+1+1+1) aY 4 4):=C3 T V vs u _ aY 4
 have Ic:af ((-536870912≤r∧r≤536870912)∧(-536870912≤s∧s≤536870912)∧(-536870912≤p∧p≤536870912)∧(-536870912≤c.1∧c.1≤536870912)∧(-536870912≤c.2∧c.2≤536870912)):=by
  refine⟨hr ▸ LW u o,hs ▸ LW u i,hp ▸ LW u g,?_,?_⟩
  ·rw[←aB];exact Ih _ _ _
  ·rw[←aB];exact Ih _ _ _
 clear hr hs hp aB my uI L3 Vu hx hy a1 hi aI;obtain⟨cx,bA⟩:=c;obtain⟨hb,vv⟩:=aq (if r≤s∨r≤p then gC aY 4 else aY);rw[vv];obtain⟨bad,fb⟩:=aq (decide (r≤s)|| decide (r≤p));have L1:af ((if bad then gC aY 4 else aY)=hb):=by show _=_;rw[←vv,←fb];by_cases aF:r≤s<;>by_cases au:r≤p<;>simp[aF,au]
 have lf:=ao fb;clear vv fb;go_enter Tryz.func226,Tryz.ntmps226;go_wp2_with fail;with_reducible refine (kr.out _ H1.out.1).mono ?_
 rintro b3 bt ⟨rfl,ax,bM⟩;have eo:af (vw T V vs u w (k+1+1) iI bt.heap.size (cx,bA) (bt.alloc (ai (#[I cx,I bA]) de))):=⟨ax.below (bh _ _),(H1.out.2.trans bM).trans (.c4 (bh _ _)),ba (bM.get dr.out cJ.out) (bh _ _),cR _ _,lt_of_heap (bM.get dr.out cJ.out)⟩;clear ax bM kr;go_upto_region 2 with fail;generalize bt.alloc (.cells #[I cx,I bA] de)=db at eo⊢;obtain⟨A,hA⟩:=aq bt.heap.size;rw[hA] at eo⊢;clear hA;go_wp2_with fail;with_reducible refine (kQ.out _ eo.out.g).mono ?_
 rintro b3 bZ ⟨rfl,bb,h7⟩;have yU:af (vw T V vs u w (k+1+1+1) cV A (cx,bA) bZ):=⟨bb,eo.out.k.trans h7,h7.get dr.out eo.out.s,h7.get (by have:=eo.out.zJ;have:=qs.out;omega) eo.out.a,eo.out.zJ⟩;clear bb h7 kQ;go_wp2_with fail;with_reducible refine (lA.out _ yU.out.g).mono ?_
 rintro b3 br ⟨rfl,bb,h7⟩;have hj:af (vw T V vs u w (k+1+1+1+1) a6 A (cx,bA) br):=⟨bb,yU.out.k.trans h7,h7.get dr.out yU.out.s,h7.get (by have:=eo.out.zJ;have:=qs.out;omega) yU.out.a,eo.out.zJ⟩;clear bb h7 lA;go_wp2_with fail;with_reducible refine (nf.out _ hj.out.g).mono ?_
 rintro b3 b' ⟨rfl,bb,h7⟩;have jW:af (vw T V vs u w (k+1+1+1+1+1) aY A (cx,bA) b'):=⟨bb,hj.out.k.trans h7,h7.get dr.out hj.out.s,h7.get (by have:=eo.out.zJ;have:=qs.out;omega) hj.out.a,eo.out.zJ⟩;clear bb h7 nf;go_upto_region 5 with fail;go_cut [23] (fun b cq=>b=U bad∧b'=cq)
 case first=>
  by_cases aF:r≤s
  ·go_wp2_with fail;go_meet;exact⟨by rw[←lf.out];simp[aF],rfl⟩
  ·go_wp2_with fail;go_meet;exact⟨by rw[←lf.out,fJ (show ¬r≤s by omega),S6],rfl⟩
 case rest=>
 obtain⟨rfl,rfl⟩:=hcut;go_upto_if 23 with fail;go_cut [] (fun cq=>af (vw T V vs u w (k+1+1+1+1+1) hb A (cx,bA) cq))
 case first=>
  have vv:=L1.out;cases bad with
  |false=>
   obtain rfl:aY=hb:=vv;go_wp2_with fail;go_meet;exact jW.out
  |true=>
   obtain rfl:gC aY 4=hb:=vv;go_wp2_with (go_at_call 221;(with_reducible refine (r7.out _ jW.out.g).mono ?_);rintro b3 br ⟨⟨v5,rfl⟩,bj,hl⟩);go_meet;exact⟨bj,jW.out.k.trans hl,hl.get dr.out jW.out.s,hl.get (by have:=jW.out.zJ;have:=qs.out;omega) jW.out.a,jW.out.zJ⟩
 case rest=>
 have wS:=hcut;clear jW hj yU eo r7 L1 lf bad;have a0:=cell_of (i:=0) wS.out.a rfl;have ew:=cell_of (i:=1) wS.out.a rfl;go_upto_region 8 with fail;have rT:=ao (wS.out.below (bh wc (ai (#[U true,I 1,I cx,I bA,I 0,I 0,I 0,I 0,I r,J 0,J 0]) ev)))
 have L4:af (qt (w.heap.size+1) (fun _=>False) (.cons true (mY (cx,bA) r) .nil .nil) (ag wc.heap.size 0 1 1) [U true,I 1,I cx,I bA,I 0,I 0,I 0,I 0,I r,J 0,J 0] (wc.alloc (ai (#[U true,I 1,I cx,I bA,I 0,I 0,I 0,I 0,I r,J 0,J 0]) ev))):=
  qt.new (ps:=.cons true (mY (cx,bA) r) .nil .nil) (cR wc _) (lt_of_heap wS.out.s) rfl (show 1≤maxLen by decide) (da.mk (pl:=none) (cl:=0) (pp:=none) (cp:=0) rfl (.bare _ _ _ _ _ _ _ rfl) trivial) (fun _ h=>h.elim)
 generalize wc.alloc (.cells #[U true,I 1,I cx,I bA,I 0,I 0,I 0,I 0,I r,J 0,J 0] ev)=o' at rT L4⊢;clear wS a0 ew;obtain⟨i0,hi,cW,dv,dx⟩:=info_parts SQ;have bL:=ao (And.intro hi (And.intro cW (And.intro dv dx)));clear hi cW dv dx;go_upto_if 32 with fail;go_cut [7] (fun v cq=>∃(R:afp) (xs:aev),af (vw T V vs u w (k+1+1+1+1+1) hb A (cx,bA) cq)∧af (qt (w.heap.size+1) R ((bf.cons true (mY (cx,bA) r) .nil .nil).append (FQ (cx,bA) s)) v xs cq))
 case first=>
  by_cases aF:0<s
  ·have a0:=cell_of (i:=0) rT.out.a rfl;have ew:=cell_of (i:=1) rT.out.a rfl;have xM:FQ (cx,bA) s=.cons false (mY (cx,bA) s) .nil .nil:=aW aF;have acR:=ao (L4.out.own);have L5:af (w.heap.size+1≤o'.heap.size):=lt_of_heap rT.out.s;go_wp2_with (first|(at_builtin;refine GP _ rfl _ _ _ rfl (w.heap.size+1) ev i0 tB 11 120 G3 bL.out.1 bL.out.2.1 bL.out.2.2.1 bL.out.2.2.2 rfl (by omega) _ 1 _ (by rfl) (fY acR.out (bh o' (ai (#[U false,I 1,I cx,I bA,I 0,I 0,I 0,I 0,I s,J 0,J 0]) ev))) (aj o'.heap.size 0) 1 1 [U false,I 1,I cx,I bA,I 0,I 0,I 0,I 0,I s,J 0,J 0] (by rfl) (by rfl) (jx (cs:= #[U false,I 1,I cx,I bA,I 0,I 0,I 0,I 0,I s,J 0,J 0]) (t:=ev) (fr:=(0,0)) (dL o' _)) (by simp[Value.oneCell']) (by omega) (by unfold maxLen;omega) (by omega) (by have:=L5.out;simp;omega) (o'.heap.size+1) (by simp) ?_;intro gg gG GD ct dn dF h5)|fail);go_meet;have jP:=bh o' (ai (#[U false,I 1,I cx,I bA,I 0,I 0,I 0,I 0,I s,J 0,J 0]) ev);exact⟨_,_,rT.out.grown acR.out (lO _) jP dn,by rw[xM];exact L4.out.push (q:=.cons false (mY (cx,bA) s) .nil .nil) (Below.refl _ _) jP (da.mk (pl:=none) (cl:=0) (pp:=none) (cp:=0) rfl (.bare _ _ _ _ _ _ _ rfl) trivial) ct dn (dF.elim (fun h=>.inl h.symm) fun h=>.inr ⟨gg,rfl,by omega⟩) L5.out⟩
  ·have xM:FQ (cx,bA) s=.nil:=aN aF;go_wp2_with fail;go_meet;exact⟨_,_,rT.out,by rw[xM];exact L4.out⟩
 case rest=>
 obtain⟨R1,acS,iE,C7⟩:=hcut;clear rT L4;obtain⟨C8,kN⟩:=aq ((bf.cons true (mY (cx,bA) r) .nil .nil).append (FQ (cx,bA) s))
 have xZ:af (C8.len≤2):=by
  show _≤_;rw[←kN,bf.uw];unfold FQ;split
  ·exact (show 2≤2 by decide)
  ·exact (show 1≤2 by decide)
 have yV:=ao kN;rw[kN] at C7;clear kN;obtain⟨cw,cj⟩:=aq (mZ [xb (cx,bA) r p]);obtain⟨bl,ck⟩:=aq (mZ [xb (cx,bA) p r]);have p7:af (∀Z,Calls Tryz.prog 236 #[.agg #[I cx,I bA],I r,I p] Z (yh Z cw)):=fun Z=>by obtain⟨i1,i2,i3,i4,i5⟩:=Ic.out;rw[←cj];exact Vl cx bA r p (by omega) (by omega) (by omega) (by omega) Z
 have tr:af (∀Z,Calls Tryz.prog 236 #[.agg #[I cx,I bA],I p,I r] Z (yh Z bl)):=fun Z=>by obtain⟨i1,i2,i3,i4,i5⟩:=Ic.out;rw[←ck];exact Vl cx bA p r (by omega) (by omega) (by omega) (by omega) Z
 have fy:af (0<p→Bi (cx,bA) r p=.cons false cw .nil (.cons false bl .nil .nil)):=fun h=>by unfold Bi;rw[aW h,cj,ck]
 clear cj ck;obtain⟨m1,fX⟩:=aq C8.len;have aol:=ao fX;have jH:m1≤2:=by rw[←fX];exact xZ.out
 have vx:af (wc.ownsRow (w.heap.size+1) ev 11 u7 m1 acS):=by rw[←fX];exact C7.out.own
 clear fX;go_upto_if 41 with fail;go_cut [7] (fun v cq=>∃(R:afp) (xs:aev),af (vw T V vs u w (k+1+1+1+1+1) hb A (cx,bA) cq)∧af (qt (w.heap.size+1) R (C8.append (Bi (cx,bA) r p)) v xs cq))
 case first=>
  by_cases aF:0<p
  ·have a0:=cell_of (i:=0) iE.out.a rfl;have ew:=cell_of (i:=1) iE.out.a rfl;have L5:af (w.heap.size+1≤wc.heap.size):=lt_of_heap iE.out.s;go_wp2_with fail
   go_region_law (first
    |(refine sr _ (by rfl) _ _ _ (by rfl) (w.heap.size+1) ev i0 tB 11 120 G3 bL.out.1 bL.out.2.1 bL.out.2.2.1 bL.out.2.2.2 rfl (by omega) u7 m1 acS (by rfl) (fY vx.out (fE.out.trans ((bh b' _).mono fE.out.size))) (aj b'.heap.size 0) 2 2 [U false,I cw.k,I cw.a.1,I cw.a.2,I cw.b.1,I cw.b.2,I cw.c.1,I cw.c.2,I cw.r,ad B5 cw.l.length B6,J 0,U false,I bl.k,I bl.a.1,I bl.a.2,I bl.b.1,I bl.b.2,I bl.c.1,I bl.c.2,I bl.r,ad Qa bl.l.length Qb,J 0] (by rfl) (by rfl) (jx (cs:= #[U false,I cw.k,I cw.a.1,I cw.a.2,I cw.b.1,I cw.b.2,I cw.c.1,I cw.c.2,I cw.r,ad B5 cw.l.length B6,J 0,U false,I bl.k,I bl.a.1,I bl.a.2,I bl.b.1,I bl.b.2,I bl.c.1,I bl.c.2,I bl.r,ad Qa bl.l.length Qb,J 0]) (t:=ev) (fr:=(0,0)) (dL b' _)) (by simp[Value.oneCell']) (by omega) (by unfold maxLen;omega) (by omega) (by have:=L5.out;have:=fE.out.size;simp;omega) (b'.heap.size+1) (by simp) ?_;intro gg gG hV ct dn dF h5)
    |(go_simp;go_at_call 236;first
      |((with_reducible refine (p7.out _).mono ?_);rintro b3 br ⟨dX,B5,B6,rfl,Oz⟩;have bT:af (an wc wc br):=((Below.refl wc.heap.size wc).drew).trans dX;have ib:=ao Oz;have a0:=bD bT.out a0;have ew:=bD bT.out ew;clear dX Oz)
      |((with_reducible refine (tr.out _).mono ?_);rintro b3 b' ⟨dR,Qa,Qb,rfl,xG⟩;have fE:af (an wc wc b'):=bT.out.trans (dR.mono bT.out.size);have n1:=ao xG;have ib:=ao (ib.out.below dR);clear dR xG))
    |fail)
   all_goals
    go_wp2_with fail;go_meet;have C9:=fE.out.trans ((bh b' (ai (#[U false,I cw.k,I cw.a.1,I cw.a.2,I cw.b.1,I cw.b.2,I cw.c.1,I cw.c.2,I cw.r,ad B5 cw.l.length B6,J 0,U false,I bl.k,I bl.a.1,I bl.a.2,I bl.b.1,I bl.b.2,I bl.c.1,I bl.c.2,I bl.r,ad Qa bl.l.length Qb,J 0]) ev)).mono fE.out.size)
    exact ⟨_,_,iE.out.grown vx.out (lO _) C9 dn,by
     rw[fy.out aF];exact C7.out.push (q:=.cons false cw .nil (.cons false bl .nil .nil)) fE.out (bh b' _) (da.mk (pl:=B5) (cl:=B6) (pp:=none) (cp:=0) rfl ib.out (da.mk (pl:=Qa) (cl:=Qb) (pp:=none) (cp:=0) rfl (n1.out.mono fun b _ h=>cd bT.out.size h) trivial)) (show hV.ownsRow _ _ _ _ (C8.len+2) _ by rw[aol.out];exact ct) dn (dF.elim (fun h=>.inl h.symm) fun h=>.inr ⟨gg,rfl,by omega⟩) L5.out⟩
  ·have xM:Bi (cx,bA) r p=.nil:=aN aF;have e:C8.append .nil=C8:=(by rw[←yV.out];unfold FQ;split<;>rfl);go_wp2_with fail;go_meet;exact⟨_,_,iE.out,by rw[xM,e];exact C7.out⟩
 case rest=>
 obtain⟨fa,awd,L6,acT⟩:=hcut;have acU:C8.append (Bi (cx,bA) r p)=L2 (cx,bA) r s p:=by rw[←yV.out];rfl
 have pv:(C8.append (Bi (cx,bA) r p)).len≤jr:=by
  rw[bf.uw];have au:=xZ.out
  have ax:(Bi (cx,bA) r p).len≤2:=by
   unfold Bi;split
   ·exact (show 2≤2 by decide)
   ·exact (show 0≤2 by decide)
  exact cd (Vo au ax) (by decide)
 obtain⟨pp,cp,aS,ff⟩:=acT.out.fin pv;rw[acU] at aS ff;subst aS;have qM:=ao ff;obtain⟨Bj,Qc⟩:=aq (L2 (cx,bA) r s p);rw[Qc] at qM⊢;have O5:=ao Qc;clear acU pv ff fy yV Qc C7 iE acT;obtain⟨z0,z1,z2,z3,z4,z5,gZ,gR,fM,z9⟩:=dQ L6.out.s;have f0:=dc L6.out.s;go_wp2_with fail;refine lh (P:=bodyPost _ _ _ _ _) (js iG cC (ad pp Bj.len cp)) L6.out.s rfl fun cZ g1 g2=>?_;have LQ:=qs.out;have Pj:=mf.out;exact cL (sg rfl _ _ w.heap.size _ _ _ _ rfl g1 pF rfl (by kernel_rfl)) rfl ⟨⟨L6.out.g.keep g2 (by omega) (by omega),L6.out.k.new g2 fun b ay=>by omega⟩,pp,cp,by rw[O5.out],by rw[O5.out];exact (qM.out.keep (g2.mono fun b _ (ay:w.heap.size+1≤b)=>by omega)).mono fun b _ (ay:w.heap.size+1≤b)=>by omega⟩
end
end c1
