/- Lemmas. -/
import Derived.Test.YtkaiaijcieaofaaGreatDoorQ10
set_option linter.all false
set_option maxRecDepth 100000
set_option maxHeartbeats 6400000
namespace Go.Proofs.YtkaiaijcieaofaaGreatDoor
namespace dY
open Go.RowKit gI ga jz qe rC mI
variable{B b r n:Nat}{m:M}{w:aeo}
theorem eK.fmt(h:eK B b r n m w)(u i d:Int)(t:Bool):
  eK B b r n {m with u:=u,i:=i,d:=d,t:=t} ((((w.setCell (aj b 3) (I u)).setCell (aj b 4) (I i)).setCell (aj b 5) (I d)).setCell (aj b 6) (U t))∧Below B w ((((w.setCell (aj b 3) (I u)).setCell (aj b 4) (I i)).setCell (aj b 5) (I d)).setCell (aj b 6) (U t)):=by
 have f:=h.hX;obtain⟨au,cw⟩:=h.qU {m with u:=u} 3 (I u) (fun sv=>rfl) rfl rfl (ax2 f rfl rfl rfl rfl) h.t0 h.t1;obtain⟨ax,bl⟩:=au.qU {m with u:=u,i:=i} 4 (I i) (fun sv=>rfl) rfl rfl (ax2 f rfl rfl rfl rfl) h.t0 h.t1;obtain⟨aA,ll⟩:=ax.qU {m with u:=u,i:=i,d:=d} 5 (I d) (fun sv=>rfl) rfl rfl (ax2 f rfl rfl rfl rfl) h.t0 h.t1;obtain⟨bb,AL⟩:=aA.qU {m with u:=u,i:=i,d:=d,t:=t} 6 (U t) (fun sv=>rfl) rfl rfl (ax2 f rfl rfl rfl rfl) h.t0 h.t1;exact⟨bb,((cw.trans bl).trans ll).trans AL⟩
theorem eK.ajP(h:eK B b r n m w)(i d:Int):
  eK B b r n {m with i:=i,d:=d} ((w.setCell (aj b 4) (I i)).setCell (aj b 5) (I d))∧Below B w ((w.setCell (aj b 4) (I i)).setCell (aj b 5) (I d)):=by
 have f:=h.hX;obtain⟨ax,bl⟩:=h.qU {m with i:=i} 4 (I i) (fun sv=>rfl) rfl rfl (ax2 f rfl rfl rfl rfl) h.t0 h.t1;obtain⟨aA,ll⟩:=ax.qU {m with i:=i,d:=d} 5 (I d) (fun sv=>rfl) rfl rfl (ax2 f rfl rfl rfl rfl) h.t0 h.t1;exact⟨aA,bl.trans ll⟩
theorem eK.TE(h:eK B b r n m w)(s:Int):eK B b r n {m with lE:=s} (w.setCell (aj b 2) (I s))∧Below B w (w.setCell (aj b 2) (I s)):=
 h.qU {m with lE:=s} 2 (I s) (fun sv=>rfl) rfl rfl (ax2 h.hX rfl rfl rfl rfl) h.t0 h.t1
theorem eK.drop{w':aeo}(h:eK B b r n m w):eK B b r (n+1) m w:=h.mono (lO _)
theorem ajQ(B b r n:Nat)(m:M)(c:D)(aB:af (xQ c))(a:Int)(p:Ja)(cap wF:Nat)(w:aeo)(bz:B≤w.heap.size)(hn:n≤1000000000)(bd:af (dd wF w p c.bX))(H:af (eK B b r n m w))(res:Except Nat M)(c6:af (Kz m c=res)):
  Calls Tryz.prog 94 #[ah b 0,EC c a (ad p c.bX.length cap)] w (Cq B b r (n+1) w res):=by
 have cE:=ao bz;have cG:af (an w w (w.alloc (gJ c a (ad p c.bX.length cap)))):=(Below.refl _ _).alloc (aP _) _;have eb:af ((w.alloc (gJ c a (ad p c.bX.length cap))).heap[w.heap.size]?=some (gJ c a (ad p c.bX.length cap))):=dL w _;have jJ:=ao hn;have az:=c6.out;unfold Kz at az;clear bz c6 hn;go_enter Tryz.func94,Tryz.ntmps94;go_upto_region 1 with fail;generalize w.alloc _=W at cG eb⊢;have ez:=ao (H.out.below cG.out);have mB:=ao (bd.out.below cG.out);obtain⟨sv,au,_⟩:=ez.out.cells;obtain⟨_,_,c2,c3,cD,c5,cX,_⟩:=gQ au;have hf:=(gQ au).f;have f2:=hf 2;have f3:=hf 3;have f4:=hf 4;have f5:=hf 5;have f6:=hf 6;obtain⟨⟨d0,d1,d2,d3,d4,d5,d6,d7,d8,d9⟩,_⟩:=jM eb.out;clear au hf;by_cases fk:c.k=3
 ·rw[aW fk] at az;have ajR:(c.k==3)=true:=beq_iff_eq.2 fk;clear fk;by_cases hu:m.u=0
  ·have AO:(m.u !=0)=false:=(by rw[KJ];exact hu);rw[aN (by omega)] at az;have aQ:=ao az;have hF:=ez.out.fmt c.n 3 3 (!c.on);have aJ:=ao hF;clear hu az hF;go_upto_region 6 with fail;clear d0 d1 d3 d4 d5 d6 d7 d8 d9 c2 c3 cD c5 cX f2 f3 f4 f5 f6;have dy:=ao ((cG.out.mono cE.out).trans aJ.out.2);have eo:=ao aJ.out.1;have gu:af (((((W.setCell (aj b 3) (I c.n)).setCell (aj b 4) (I 3)).setCell (aj b 5) (I 3)).setCell (aj b 6) (U (!c.on))).heap[w.heap.size]?=some (gJ c a (ad p c.bX.length cap))):=(by show _=_;have hne:w.heap.size≠b:=(by have:=H.out.lt.1;omega);rw[hC _ _ _ _ hne,hC _ _ _ _ hne,hC _ _ _ _ hne,hC _ _ _ _ hne];exact eb.out);clear d2 aJ ez mB eb cG;generalize ((((W.setCell (aj b 3) (I c.n)).setCell (aj b 4) (I 3)).setCell (aj b 5) (I 3)).setCell (aj b 6) (U (!c.on)))=eE at dy eo gu⊢;obtain⟨⟨_,_,d2,_⟩,_⟩:=jM gu.out;by_cases ax:c.n=2
   ·have TD:(c.n==2)=true:=beq_iff_eq.2 ax;obtain⟨sv,au,_⟩:=eo.out.cells;obtain⟨_,_,c2,c3,cD,c5,cX,_⟩:=gQ au;have hf:=(gQ au).f;have f4:=hf 4;have f5:=hf 5;have aJ:=ao (eo.out.ajP 2 4);have dC:af (.ok {m with u:=c.n,i:=2,d:=4,t:=!c.on}=res):=(by show _=_;rw[←aQ.out,aW ax,aW ax]);clear ax au hf aQ;go_wp2_with fail;go_ret;rw[←dC.out];exact⟨dy.out.trans aJ.out.2,rfl,aJ.out.1.mono (lO _)⟩
   ·have TD:(c.n==2)=false:=beq_eq_false_iff_ne.2 ax;have dC:af (.ok {m with u:=c.n,i:=3,d:=3,t:=!c.on}=res):=(by show _=_;rw[←aQ.out,aN ax,aN ax]);clear ax aQ;go_wp2_with fail;go_ret;rw[←dC.out];exact⟨dy.out,rfl,eo.out.mono (lO _)⟩
  ·have AO:(m.u !=0)=true:=(by rw[y'];exact hu);rw[aW hu] at az;have aQ:=ao az;clear hu az;go_wp2_with fail;go_ret;rw[←aQ.out];exact⟨cG.out.mono cE.out,rfl⟩
 ·rw[aN fk] at az;have ajR:(c.k==3)=false:=beq_eq_false_iff_ne.2 fk;clear fk;by_cases h7:c.k=4
  ·rw[aW h7] at az;have ajS:(c.k==4)=true:=beq_iff_eq.2 h7;have aQ:=ao az;clear h7 az c2 c3 cD c5 cX f2 f3 f4 f5 f6;go_wp2_with fail;refine (ajO B b r n m c aB a p cap wF W (cd cE.out cG.out.size) jJ.out mB ez res aQ).mono ?_;cases res with
   |error k=>
    rintro e w' ⟨ay,rfl⟩;have hG:=ao ((cG.out.mono cE.out).trans ay);clear ay;go_wp2_with fail;go_ret;exact⟨hG.out,rfl⟩
   |ok ey=>
    rintro e w' ⟨ay,rfl,hm⟩;have hG:=ao ((cG.out.mono cE.out).trans ay);have qV:=ao hm;clear ay hm;go_wp2_with fail;go_ret;exact⟨hG.out,rfl,qV.out⟩
  ·rw[aN h7] at az;have ajS:(c.k==4)=false:=beq_eq_false_iff_ne.2 h7;clear h7;by_cases hl:c.k=5
   ·rw[aW hl] at az;have ajU:(c.k==5)=true:=beq_iff_eq.2 hl;clear hl;by_cases hu:m.u=0
    ·have AO:(m.u==0)=true:=beq_iff_eq.2 hu;rw[aW hu] at az;have aQ:=ao az;clear hu az;go_wp2_with fail;go_ret;rw[←aQ.out];exact⟨cG.out.mono cE.out,rfl⟩
    ·have AO:(m.u==0)=false:=beq_eq_false_iff_ne.2 hu;rw[aN hu] at az;have aQ:=ao az;have hF:=ez.out.TE 2;have aJ:=ao hF;clear hu az hF;go_wp2_with fail;go_ret;rw[←aQ.out];exact⟨(cG.out.mono cE.out).trans aJ.out.2,rfl,aJ.out.1.mono (lO _)⟩
   ·rw[aN hl] at az;have ajU:(c.k==5)=false:=beq_eq_false_iff_ne.2 hl;have aQ:=ao az;clear hl az;go_wp2_with fail;go_ret;rw[←aQ.out];exact⟨cG.out.mono cE.out,rfl⟩
theorem Cr(W:aeo):an W W W.drew:=⟨rfl,rfl,rfl,aP _,fun _ _=>rfl⟩
def AQ(w x:aeo)(c:D)(a:Int)(bF:ada)(dz:Nat)(u v:Int):Prop:=x.heap[dz]?=some (fl u v)∧an w w x∧x.heap[w.heap.size]?=some (gJ c a bF)
section
variable{B b r n:Nat}{m:M}{c:D}{a:Int}{bF:ada}{w:aeo}(H:eK B b r n m w)
include H
theorem Hx{x:aeo}(au:an w w x)(ax:x.heap[w.heap.size]?=some (gJ c a bF)):ak x w.heap.size 5 (aa ⟨c.x.toArray⟩)∧ak x w.heap.size 6 (aa ⟨c.y.toArray⟩)∧ak x b 9 (I m.x)∧ak x b 10 (I m.y)∧an w w x∧x.heap[w.heap.size]?=some (gJ c a bF):=by obtain⟨sv,aE,_⟩:=(H.below au).cells;obtain⟨⟨_,_,_,_,_,d5,d6,_⟩,_⟩:=jM ax;exact⟨d5,d6,(gQ aE).bB,(gQ aE).di,au,ax⟩
variable{v:aeo}
theorem rF{x:aeo}(hx:an v v x)(h:ak v w.heap.size 5 (aa ⟨c.x.toArray⟩)∧ak v w.heap.size 6 (aa ⟨c.y.toArray⟩)∧ak v b 9 (I m.x)∧ak v b 10 (I m.y)∧an w w v∧v.heap[w.heap.size]?=some (gJ c a bF)):ak x w.heap.size 5 (aa ⟨c.x.toArray⟩)∧ak x w.heap.size 6 (aa ⟨c.y.toArray⟩)∧ak x b 9 (I m.x)∧ak x b 10 (I m.y)∧an w w x∧x.heap[w.heap.size]?=some (gJ c a bF):=by obtain⟨_,_,_,_,bj,b8⟩:=h;exact Hx H (bj.trans (hx.mono bj.size)) (ba b8 hx)
theorem OP(h:ak v w.heap.size 5 (aa ⟨c.x.toArray⟩)∧ak v w.heap.size 6 (aa ⟨c.y.toArray⟩)∧ak v b 9 (I m.x)∧ak v b 10 (I m.y)∧an w w v∧v.heap[w.heap.size]?=some (gJ c a bF)):eK B b r n m v:=H.below h.2.2.2.2.1
theorem KR{k:Nat}(aw:w.heap.size<k)(u1 u2:ada)(h:ak v w.heap.size 5 (aa ⟨c.x.toArray⟩)∧ak v w.heap.size 6 (aa ⟨c.y.toArray⟩)∧ak v b 9 (I m.x)∧ak v b 10 (I m.y)∧an w w v∧v.heap[w.heap.size]?=some (gJ c a bF)):((v.setCell (aj k 0) u1).setCell (aj k 1) u2).cell? ⟨w.heap.size,5,none⟩=some (aa ⟨c.x.toArray⟩)∧((v.setCell (aj k 0) u1).setCell (aj k 1) u2).cell? ⟨w.heap.size,6,none⟩=some (aa ⟨c.y.toArray⟩)∧((v.setCell (aj k 0) u1).setCell (aj k 1) u2).cell? ⟨b,9,none⟩=some (I m.x)∧((v.setCell (aj k 0) u1).setCell (aj k 1) u2).cell? ⟨b,10,none⟩=some (I m.y)∧an w w ((v.setCell (aj k 0) u1).setCell (aj k 1) u2)∧((v.setCell (aj k 0) u1).setCell (aj k 1) u2).heap[w.heap.size]?=some (gJ c a bF):=by obtain⟨_,_,_,_,bj,b8⟩:=h;refine Hx H ((bj.setCell (p:=⟨k,0,none⟩) (k5 aw) _).setCell (p:=⟨k,1,none⟩) (k5 aw) _) ?_;rw[hC _ _ _ _ (by show w.heap.size≠k;omega),hC _ _ _ _ (by show w.heap.size≠k;omega)];exact b8
theorem OQ{k:Nat}(aw:w.heap.size<k)(h:ak v w.heap.size 5 (aa ⟨c.x.toArray⟩)∧ak v w.heap.size 6 (aa ⟨c.y.toArray⟩)∧ak v b 9 (I m.x)∧ak v b 10 (I m.y)∧an w w v∧v.heap[w.heap.size]?=some (gJ c a bF))(bP:v.heap[k]?=some (fl 0 0))(p q:Int):AQ w ((v.setCell (aj k 0) (I p)).setCell (aj k 1) (I q)) c a bF k p q:=by have au:=KR H aw (I p) (I q) h;exact⟨OO (ON bP _) _,au.2.2.2.2.1,au.2.2.2.2.2⟩
end
variable{w:aeo}
theorem OR{v:aeo}{c:D}{a:Int}{bF:ada}(bj:an w w v)(b8:v.heap[w.heap.size]?=some (gJ c a bF))(p q:Int):w.heap.size<v.heap.size∧AQ w (v.alloc (fl p q)) c a bF v.heap.size p q:=
 ⟨(Array.getElem?_eq_some_iff.1 b8).1,dL v _,bj.alloc bj.size _,ba b8 ((Below.refl _ _).alloc (aP _) _)⟩
theorem AQ.below{x y:aeo}{c:D}{a:Int}{bF:ada}{dz:Nat}{u v:Int}(h:AQ w x c a bF dz u v)(ay:an x x y):AQ w y c a bF dz u v:=
 ⟨ba h.1 ay,h.2.1.trans (ay.mono h.2.1.size),ba h.2.2 ay⟩
theorem Cs{m:M}{s:kT}{k:Nat}(h:qT m s=.error k):k=5∨k=6:=by
 unfold qT at h;split at h
 ·injection h with h;exact .inl h.symm
 ·split at h
  ·injection h with h;exact .inr h.symm
  ·cases h
theorem eK.place{B b r n:Nat}{m:M}(h:eK B b r n m w)(u v:Int)(tM:(-536870912≤u∧u≤536870912)∧(-536870912≤v∧v≤536870912)):
  eK B b r n {m with x:=u,y:=v} ((w.setCell (aj b 9) (I u)).setCell (aj b 10) (I v))∧Below B w ((w.setCell (aj b 9) (I u)).setCell (aj b 10) (I v)):=by
 have f:=h.hX;obtain⟨au,cw⟩:=h.qU {m with x:=u} 9 (I u) (fun sv=>rfl) rfl rfl ⟨f.cH,f.cw,f.n,tM.1.1,tM.1.2,f.dH,f.c0⟩ h.t0 h.t1;obtain⟨ax,bl⟩:=au.qU {m with x:=u,y:=v} 10 (I v) (fun sv=>rfl) rfl rfl ⟨f.cH,f.cw,f.n,tM.1.1,tM.1.2,tM.2.1,tM.2.2⟩ h.t0 h.t1;exact⟨ax,cw.trans bl⟩
theorem wG{l:ar}(h:l.length≤1000000):(⟨l.toArray⟩:Ua).size≤maxLen:=by
 unfold maxLen;have e:(⟨l.toArray⟩:Ua).size=l.length:=by show l.toArray.size=_;simp
 rw[e];omega
theorem Ct(B b r n:Nat)(m:M)(c:D)(aB:af (xQ c))(a:Int)(bF:ada)(w:aeo)(bz:B≤w.heap.size)(H:af (eK B b r n m w))(res:Except Nat M)(c6:af (KB m c=res)):
  Calls Tryz.prog 141 #[ah b 0,EC c a bF] w (Cq B b r n w res):=by
 have cE:=ao bz;have cG:af (an w w (w.alloc (gJ c a bF))):=(Below.refl _ _).alloc (aP _) _;have eb:af ((w.alloc (gJ c a bF)).heap[w.heap.size]?=some (gJ c a bF)):=dL w _;have az:=c6.out;unfold KB at az;clear bz c6;go_enter Tryz.func141,Tryz.ntmps141;go_upto_region 1 with fail;generalize w.alloc _=W at cG eb⊢;have ez:=ao (H.out.below cG.out);obtain⟨sv,au,_⟩:=ez.out.cells;obtain⟨_,_,_,_,_,_,_,_,dj,bB,di,dE,mM,_⟩:=gQ au;obtain⟨⟨_,_,_,_,_,d5,d6,_⟩,_⟩:=jM eb.out;clear au;cases hr:m.gA with
 |false=>
  have aQ:af (.error 4=res):=(by show _=_;rw[←az];exact (aW (.inl hr)).symm);rw[hr] at dE;clear az hr;go_wp2_with fail;go_ret;rw[←aQ.out];exact⟨cG.out.mono cE.out,rfl⟩
 |true=>
  rw[hr] at dE;cases hd:m.down with
  |true=>
   rw[hd] at mM;by_cases bc:m.hW=0
   ·have zd:(m.hW==0)=true:=beq_iff_eq.2 bc;have aQ:af (.error 4=res):=(by show _=_;rw[←az];exact (aW (.inr ⟨hd,bc⟩)).symm);clear az hr hd bc;go_wp2_with fail;go_ret;rw[←aQ.out];exact⟨cG.out.mono cE.out,rfl⟩
   ·have zd:(m.hW==0)=false:=beq_eq_false_iff_ne.2 bc;rw[aN (by rw[hr];rintro (e|⟨_,e⟩);cases e;exact bc e)] at az;obtain⟨o,a1⟩:=aq (fI m c.x c.y m.x m.y);have bE:=ao a1;rw[a1] at az;have ei:=ao az;have b9:=ao hd;have o1:=ao (Hx H.out cG.out eb.out);have tN:=ao (rF H.out (Cr W) o1.out);have bm:w.heap.size<W.heap.size:=(Array.getElem?_eq_some_iff.1 eb.out).1;clear az hr hd bc a1;go_upto_region 3 with fail;go_cut [5,6] (fun eH ok x=>∃dz:Nat,eH=.pointer (some (aj dz 0))∧ok=U o.isSome∧w.heap.size<dz∧af (AQ w x c a bF dz (o.getD (0,0)).1 (o.getD (0,0)).2))
    case first=>
     go_region_held3 (fun x=>x.cell? ⟨w.heap.size,5,none⟩=some (aa ⟨c.x.toArray⟩)∧ak x w.heap.size 6 (aa ⟨c.y.toArray⟩)∧ak x b 9 (I m.x)∧ak x b 10 (I m.y)∧an w w x∧x.heap[w.heap.size]?=some (gJ c a bF))
      (first|exact tN.out|exact ld.out|exact rF H.out ((Below.refl _ _).alloc (aP _) _) ld.out|exact rF H.out (((Below.refl _ _).alloc (aP _) _).drew) o1.out|exact KR H.out bm _ _ ld.out|(trace_state;fail))
      (first|(go_at_call 140;refine (rq B b r n m ⟨c.x.toArray⟩ ⟨c.y.toArray⟩ (wG aB.out.x) (wG aB.out.y) m.x m.y _ (ao (OP H.out (by assumption))) o bE).mono ?_;rintro e w' ⟨rfl,eL⟩;have ld:=ao (rF H.out eL (by assumption));first|(have nk:af (w'.heap[W.heap.size]?=some (fl 0 0)):=(ba (w:=(W.alloc (fl 0 0)).drew) (dL W (fl 0 0)) eL);have z0:=(fR nk.out).1.1;have z1:=(fR nk.out).1.2;have dH:=(fR nk.out).2.1;have c0:=(fR nk.out).2.2)|skip))
     ·go_wp2_with fail;go_meet;exact⟨_,rfl,rfl,OR ld.out.2.2.2.2.1 ld.out.2.2.2.2.2 _ _⟩
     ·go_wp2_with fail;go_meet;exact⟨_,rfl,rfl,bm,OQ H.out bm ld.out nk.out _ _⟩
    case rest=>
     obtain⟨dz,rfl,rfl,yT,bw⟩:=hcut;have lF:=ao (H.out.below bw.out.2.1);clear dj bB di dE mM d5 d6 o1 tN ez cG eb bm;obtain⟨sv,au,_⟩:=lF.out.cells;obtain⟨_,_,_,_,_,_,_,_,dj,bB,di,dE,mM,_⟩:=gQ au;have hf:=(gQ au).f;have f9:=hf 9;have f10:=hf 10;rw[b9.out] at mM;obtain⟨⟨eB,bI⟩,_⟩:=fR bw.out.1;clear au hf;cases o with
     |none=>
      have aQ:af (.error 5=res):=ei.out;go_wp2_with fail;go_ret;rw[←aQ.out];exact⟨bw.out.2.1.mono cE.out,rfl⟩
     |some AR=>
      obtain⟨u,v⟩:=AR;obtain⟨h4,hD⟩:=aq (qT m (tJ m.x m.y u v 0));have dC:=ao hD;have hc:Te h4 u v=res:=(by have h:=ei.out;simp only[] at h;rw[aW b9.out,hD] at h;exact h);have xR:af (eK B b r n m wc.drew):=lF.out.below (Cr wc);have gy:af (B≤wc.drew.heap.size):=cd cE.out bw.out.2.1.size;have tM:=ao (Hn bE.out lF.out.hX.eC lF.out.hX.eu lF.out.hX.dH lF.out.hX.c0);clear hD;cases h4 with
      |error k=>
       have aQ:af (.error k=res):=hc;have aw:=Cs dC.out;clear hc;go_upto_region 7 with fail
       go_region_law ((go_simp;go_at_call 173;refine (Hw B b r n m (tJ m.x m.y u v 0) (Tz _ _ _ _) _ gy.out xR _ dC).mono ?_;rintro e w' ⟨⟨l0,rfl⟩,_⟩))
       all_goals
        have pH:=ao (((bw.out.2.1.drew).mono cE.out).trans l0);clear l0;rcases aw with rfl|rfl
        ·go_wp2_with fail;go_ret;rw[←aQ.out];exact⟨pH.out,rfl⟩
        ·go_wp2_with fail;go_ret;rw[←aQ.out];exact⟨pH.out,rfl⟩
      |ok m2=>
       have aQ:af (.ok {m2 with x:=u,y:=v}=res):=hc;clear hc;go_upto_region 7 with fail
       go_region_law ((go_simp;go_at_call 173;refine (Hw B b r n m (tJ m.x m.y u v 0) (Tz _ _ _ _) _ gy.out xR _ dC).mono ?_;rintro e w' ⟨⟨l0,rfl,rG⟩,sz⟩))
       all_goals
        have pH:=ao (((bw.out.2.1.drew).mono cE.out).trans l0);have nQ:=ao rG;have tv:af (w'.heap[dz]?=some (fl u v)):=sz.2 dz _ _ _ bw.out.1 (by decide) (by decide);have aJ:=ao (rG.place u v tM.out);clear l0 rG sz dj bB di dE mM f9 f10 eB bI;obtain⟨Cc,au,_⟩:=nQ.out.cells;obtain⟨_,_,_,_,_,_,_,_,_,bB,di,_⟩:=gQ au;have hf:=(gQ au).f;have f9:=hf 9;have f10:=hf 10;obtain⟨⟨eB,bI⟩,_⟩:=fR tv.out;clear au hf;go_wp2_with fail;go_ret;rw[←aQ.out];exact⟨pH.out.trans aJ.out.2,rfl,aJ.out.1⟩
  |false=>
   rw[hd] at mM;rw[aN (by rw[hr,hd];rintro (e|⟨e,_⟩)<;>cases e)] at az;obtain⟨o,a1⟩:=aq (fI m c.x c.y m.x m.y);have bE:=ao a1;rw[a1] at az;have ei:=ao az;have b9:=ao hd;clear az hr hd a1;have o1:=ao (Hx H.out cG.out eb.out);have tN:=ao (rF H.out (Cr W) o1.out);have bm:w.heap.size<W.heap.size:=(Array.getElem?_eq_some_iff.1 eb.out).1;go_upto_region 3 with fail;go_cut [5,6] (fun eH ok x=>∃dz:Nat,eH=.pointer (some (aj dz 0))∧ok=U o.isSome∧w.heap.size<dz∧af (AQ w x c a bF dz (o.getD (0,0)).1 (o.getD (0,0)).2))
   case first=>
    go_region_held3 (fun x=>x.cell? ⟨w.heap.size,5,none⟩=some (aa ⟨c.x.toArray⟩)∧ak x w.heap.size 6 (aa ⟨c.y.toArray⟩)∧ak x b 9 (I m.x)∧ak x b 10 (I m.y)∧an w w x∧x.heap[w.heap.size]?=some (gJ c a bF))
     (first|exact tN.out|exact ld.out|exact rF H.out ((Below.refl _ _).alloc (aP _) _) ld.out|exact rF H.out (((Below.refl _ _).alloc (aP _) _).drew) o1.out|exact KR H.out bm _ _ ld.out|fail)
     (first|(go_at_call 140;refine (rq B b r n m ⟨c.x.toArray⟩ ⟨c.y.toArray⟩ (wG aB.out.x) (wG aB.out.y) m.x m.y _ (ao (OP H.out (by assumption))) o bE).mono ?_;rintro e w' ⟨rfl,eL⟩;have ld:=ao (rF H.out eL (by assumption));first|(have nk:af (w'.heap[W.heap.size]?=some (fl 0 0)):=(ba (w:=(W.alloc (fl 0 0)).drew) (dL W (fl 0 0)) eL);have z0:=(fR nk.out).1.1;have z1:=(fR nk.out).1.2;have dH:=(fR nk.out).2.1;have c0:=(fR nk.out).2.2)|skip))
    ·go_wp2_with fail;go_meet;exact⟨_,rfl,rfl,OR ld.out.2.2.2.2.1 ld.out.2.2.2.2.2 _ _⟩
    ·go_wp2_with fail;go_meet;exact⟨_,rfl,rfl,bm,OQ H.out bm ld.out nk.out _ _⟩
   case rest=>
   obtain⟨dz,rfl,rfl,yT,bw⟩:=hcut;clear dj bB di dE mM d5 d6 o1 tN ez cG eb bm;have lF:=ao (H.out.below bw.out.2.1);obtain⟨sv,au,_⟩:=lF.out.cells;obtain⟨_,_,_,_,_,_,_,_,_,bB,di,_,mM,_⟩:=gQ au;have hf:=(gQ au).f;have f9:=hf 9;have f10:=hf 10;rw[b9.out] at mM;obtain⟨⟨eB,bI⟩,_⟩:=fR bw.out.1;clear au hf;cases o with
   |none=>
    have aQ:af (.error 5=res):=ei.out;go_wp2_with fail;go_ret;rw[←aQ.out];exact⟨bw.out.2.1.mono cE.out,rfl⟩
   |some AR=>
    obtain⟨u,v⟩:=AR;have aQ:af (.ok {m with x:=u,y:=v}=res):=(by show _=_;have h:=ei.out;simp only[] at h;rw[aN (by rw[b9.out];decide)] at h;exact h);have tM:=Hn bE.out lF.out.hX.eC lF.out.hX.eu lF.out.hX.dH lF.out.hX.c0;have aJ:=ao (lF.out.place u v tM);clear tM;go_wp2_with fail;go_ret;rw[←aQ.out];exact⟨(bw.out.2.1.mono cE.out).trans aJ.out.2,rfl,aJ.out.1⟩
end dY
namespace dY
open Go.RowKit gI ga jz qe rC mI
variable{x w:aeo}
theorem OS{v:aeo}{a:Addr}{u:ada}(ay:an v v x)(h:v.cell? a=some u):x.cell? a=some u:=(ay.cell (World.block_lt_of_cell? v a h)).trans h
theorem TF{v:aeo}{ew a2 a3 a4:Addr}{u1 u2 u3 u4:ada}(ay:an v v x)(h:v.cell? ew=some u1∧v.cell? a2=some u2∧v.cell? a3=some u3∧v.cell? a4=some u4):x.cell? ew=some u1∧x.cell? a2=some u2∧x.cell? a3=some u3∧x.cell? a4=some u4:=
 ⟨OS ay h.1,OS ay h.2.1,OS ay h.2.2.1,OS ay h.2.2.2⟩
structure Hy(B b r n:Nat)(w cq:aeo)(m:M)(dz:Nat)(p q:Int):Prop where
 m:eK B b r n m cq
 b:Below B w cq
 s:w.heap.size≤cq.heap.size
 h:cq.heap[dz]?=some (fl p q)
theorem Hy.below{B b r n:Nat}{w cq aL:aeo}{m:M}{dz:Nat}{p q:Int}(h:Hy B b r n w cq m dz p q)(ay:an cq cq aL):Hy B b r n w aL m dz p q:=by refine⟨h.m.below ay,h.b.trans (ay.mono ?_),cd h.s ay.size,ba h.h ay⟩;exact cd h.m.Cp (k5 h.m.lt.1)
theorem ajV(B b r n:Nat)(m:M)(c:D)(aB:af (xQ c))(a:Int)(bF:ada)(w:aeo)(bz:B≤w.heap.size)(H:af (eK B b r n m w))(res:Except Nat M)(c6:af (OH m c=res)):
  Calls Tryz.prog 174 #[ah b 0,EC c a bF] w (Cq B b r n w res):=by
 have cE:=ao bz;have cG:af (an w w (w.alloc (gJ c a bF))):=(Below.refl _ _).alloc (aP _) _;have eb:af ((w.alloc (gJ c a bF)).heap[w.heap.size]?=some (gJ c a bF)):=dL w _;have az:=c6.out;unfold OH at az;obtain⟨o,a1⟩:=aq (fI m c.x c.y 0 0);have bE:=ao a1;rw[a1] at az;have ei:=ao az;clear bz c6 az a1;go_enter Tryz.func174,Tryz.ntmps174;go_upto_region 1 with fail;generalize w.alloc _=W at cG eb⊢;obtain⟨⟨_,_,d2,_,_,d5,d6,_⟩,_⟩:=jM eb.out;go_wp2_with fail;refine (rq B b r n m ⟨c.x.toArray⟩ ⟨c.y.toArray⟩ (wG aB.out.x) (wG aB.out.y) 0 0 _ (ao (H.out.below cG.out)) o bE).mono ?_;rintro e bt ⟨rfl,ck⟩;have dy:=ao (cG.out.trans (ck.mono cG.out.size));have gu:=ao (ba eb.out ck);clear ck d2 d5 d6 cG eb;go_upto_region 2 with fail;have bw:af ((bt.alloc (fl (o.getD (0,0)).1 (o.getD (0,0)).2)).heap[bt.heap.size]?=some (fl (o.getD (0,0)).1 (o.getD (0,0)).2)):=dL bt _;have dO:af (an w w (bt.alloc (fl (o.getD (0,0)).1 (o.getD (0,0)).2))):=dy.out.alloc dy.out.size _;have jA:af ((bt.alloc (fl (o.getD (0,0)).1 (o.getD (0,0)).2)).heap[w.heap.size]?=some (gJ c a bF)):=ba gu.out ((Below.refl _ _).alloc (aP _) _);clear dy gu;generalize bt.alloc _=dZ at bw dO jA⊢;obtain⟨dz,yT⟩:=aq bt.heap.size;rw[yT] at bw⊢;clear yT;obtain⟨⟨_,_,d2,_⟩,_⟩:=jM jA.out;cases o with
 |none=>
  have aQ:af (.error 5=res):=ei.out;go_wp2_with fail;go_ret;rw[←aQ.out];exact⟨dO.out.mono cE.out,rfl⟩
 |some AR=>
  obtain⟨p,q⟩:=AR;have aQ:af (AJ c.n.toNat m p q=res):=ei.out;have ajW:=Hn bE.out (by omega) (by omega) (by omega) (by omega);obtain⟨⟨ho,fx⟩,eB,bI⟩:=ajW;have jf:=aB.out.n0;have h2:=aB.out.eG;go_upto_region 5 with fail
  go_loopw [23] (fun i cq=>∃(j:Nat) (dJ:M) (aL:aeo),aL=cq∧i=I j∧(j:Int)≤c.n∧af (AJ (c.n.toNat-j) dJ p q=res)∧af (Hy B b r n w aL dJ dz p q)) (fun i _=>c.n.toNat -(intOf i).toNat)
  case atStart=>exact⟨0,m,_,rfl,rfl,jf,aQ.out,H.out.below dO.out,dO.out.mono cE.out,dO.out.size,bw.out⟩
  case round=>
  obtain⟨j,dJ,cq,rfl,rfl,b6,kK,cJ⟩:=hrel;clear aQ bw dO jA d2;by_cases bm:(j:Int)<c.n
  ·obtain⟨k,aw⟩:∃k,c.n.toNat-j=k+1:=⟨c.n.toNat-j-1,by omega⟩;have D':c.n.toNat -(j+1)=k:=(by omega);have pI:=kK.out;rw[aw] at pI;unfold AJ at pI;obtain⟨h4,hD⟩:=aq (qT dJ (xL (dJ.x+p) (dJ.y+q) 0));rw[hD] at pI;have dC:=ao hD;have uC:=ao pI;have y2:=ao D';clear pI hD aw D' kK;have aJ:=ao cJ.out.m.hX;have eC:=aJ.out.eC;have eu:=aJ.out.eu;have dH:=aJ.out.dH;have c0:=aJ.out.c0;have aY:ae (dJ.x+p)=dJ.x+p:=gw _ (by omega);have a6:ae (dJ.y+q)=dJ.y+q:=gw _ (by omega);obtain⟨sv,au,_⟩:=cJ.out.m.cells;obtain⟨_,_,_,_,_,_,_,_,_,bB,di,_⟩:=gQ au;obtain⟨⟨z0,z1⟩,_⟩:=fR cJ.out.h;clear au;have o1:af (ak cq b 9 (I dJ.x)∧ak cq b 10 (I dJ.y)∧ak cq dz 0 (I p)∧ak cq dz 1 (I q)):=⟨bB,di,z0,z1⟩;have tN:=ao (TF (Cr cq) o1.out);go_upto_region 6 with fail
   go_region_held3 (fun x=>x.cell? ⟨b,9,none⟩=some (I dJ.x)∧ak x b 10 (I dJ.y)∧ak x dz 0 (I p)∧ak x dz 1 (I q)) (first|exact tN.out|exact TF (((Below.refl _ _).alloc (aP _) _).drew) o1.out|exact TF ((Below.refl _ _).alloc (aP _) _) o1.out|fail) (fail)
   have Cu:af (Hy B b r n w ((cq.alloc (fl (dJ.x+p) (dJ.y+q))).drew) dJ dz p q):=cJ.out.below (((Below.refl _ _).alloc (aP _) _).drew);have EM:af (((cq.alloc (fl (dJ.x+p) (dJ.y+q))).drew).heap[cq.heap.size]?=some (fl (dJ.x+p) (dJ.y+q))):=dL cq _;clear bB di z0 z1 o1 tN aY a6 cJ;generalize (cq.alloc (ai (#[I (dJ.x+p),I (dJ.y+q)]) 38)).drew=X at Cu EM⊢;obtain⟨pn,KS⟩:=aq cq.heap.size;rw[KS] at EM⊢;clear KS;obtain⟨⟨t0,t1⟩,_⟩:=fR EM.out;have vf:=ao (cd cE.out Cu.out.s);cases h4 with
   |error bM=>
    have aQ:af (.error bM=res):=uC.out;have jE:=Cs dC.out;go_wp2_with fail;refine (Hw B b r n dJ (xL (dJ.x+p) (dJ.y+q) 0) (Ty _ _) X vf.out (ao Cu.out.m) _ dC).mono ?_;rintro e bZ ⟨⟨l0,rfl⟩,_⟩;have pH:=ao (Cu.out.b.trans l0);clear l0;rcases jE with rfl|rfl
    ·go_wp2_with fail;go_ret;rw[←aQ.out];exact⟨pH.out,rfl⟩
    ·go_wp2_with fail;go_ret;rw[←aQ.out];exact⟨pH.out,rfl⟩
   |ok m3=>
    have aQ:af (AJ k {m3 with x:=dJ.x+p,y:=dJ.y+q} p q=res):=uC.out;have KT:=ajc.1 (aje (ZT dC.out).1);have tF:af ((-536870912≤dJ.x+p∧dJ.x+p≤536870912)∧(-536870912≤dJ.y+q∧dJ.y+q≤536870912)):=⟨⟨KT.1,KT.2.1⟩,KT.2.2.1,KT.2.2.2⟩;clear KT;go_wp2_with fail;refine (Hw B b r n dJ (xL (dJ.x+p) (dJ.y+q) 0) (Ty _ _) X vf.out (ao Cu.out.m) _ dC).mono ?_;rintro e bZ ⟨⟨l0,rfl,rG⟩,sz⟩;have nQ:=ao rG;have tv:af (bZ.heap[pn]?=some (fl (dJ.x+p) (dJ.y+q))):=sz.2 pn _ _ _ EM.out (by decide) (by decide);have hF:=rG.place (dJ.x+p) (dJ.y+q) tF.out
    have ajX:af (Hy B b r n w ((bZ.setCell (aj b 9) (I (dJ.x+p))).setCell (aj b 10) (I (dJ.y+q))) {m3 with x:=dJ.x+p,y:=dJ.y+q} dz p q):=
     ⟨hF.1,(Cu.out.b.trans l0).trans hF.2,cd Cu.out.s (cd sz.1 (by simp[World.setCell])),by
      have AN:=sz.2 dz _ _ _ Cu.out.h (by decide) (by decide);have hne:dz≠b:=(by intro e;obtain⟨auR,e6,_⟩:=rG.cells;rw[e,e6] at AN;injection AN with AN;injection AN with _ dM _;exact absurd dM (by decide));rw[hC _ _ _ _ hne,hC _ _ _ _ hne];exact AN⟩
    obtain⟨Cc,au,_⟩:=nQ.out.cells;obtain⟨_,_,_,_,_,_,_,_,_,bB,di,_⟩:=gQ au;have hf:=(gQ au).f;have f9:=hf 9;have f10:=hf 10;clear t0 t1 l0 rG sz hF au hf;obtain⟨⟨t0,t1⟩,_⟩:=fR tv.out;go_wp2_with fail;go_round
    case rel=>exact⟨j+1,_,_,rfl,by go_num,by omega,by show AJ (c.n.toNat -(j+1)) _ p q=res;rw[y2.out];exact aQ.out,ajX.out⟩
    case measure=>simp[intOf]<;>omega
  ·have kM:c.n.toNat-j=0:=(by omega);have pI:=kK.out;rw[kM] at pI;have aQ:af (.ok dJ=res):=pI;clear pI kM;go_wp2_with fail;go_ret;rw[←aQ.out];exact⟨cJ.out.b,rfl,cJ.out.m⟩
variable{b:Nat}{t:aai}
theorem ajY{v0 v1 v2 v3 v4 v5 v6 bS b0 v9:ada}(h:al w b (#[v0,v1,v2,v3,v4,v5,v6,bS,b0,v9]) t)(i:Nat):w.frozen? ⟨b,i,none⟩=false:=by simp[World.frozen?,h]
abbrev ET(w:aeo)(b:Nat)(k a7 a' aX a8 cx bA r:Int):World:=
 (((((((((w.setCell (aj b 0) (I k)).setCell (aj b 1) (I a7)).setCell (aj b 2) (I a')).setCell (aj b 3) (I aX)).setCell (aj b 4) (I a8)).setCell (aj b 5) (I cx)).setCell (aj b 6) (I bA)).setCell (aj b 7) (I r)).setCell (aj b 8) (J 0)).setCell (aj b 9) (J 0)
theorem ajZ{v0 v1 v2 v3 v4 v5 v6 bS b0 v9:ada}(h:al w b (#[v0,v1,v2,v3,v4,v5,v6,bS,b0,v9]) t)(k a7 a' aX a8 cx bA r:Int):
  (ET w b k a7 a' aX a8 cx bA r).heap[b]?=some (.cells #[I k,I a7,I a',I aX,I a8,I cx,I bA,I r,J 0,J 0] t):=
 Kv (Ku (Kt (Ks (Kr (Kq (Kp (Ko (Kn (Hl h _) _) _) _) _) _) _) _) _) _
theorem aaa(w:aeo){c:Nat}(h:c≠b)(k a7 a' aX a8 cx bA r:Int):(ET w b k a7 a' aX a8 cx bA r).heap[c]?=w.heap[c]?:=by have key:∀(w:aeo) (i:Nat) (u:ada),(w.setCell (aj b i) u).heap[c]?=w.heap[c]?:=fun w i u=>hC _ _ _ _ h;show ((((((((((_:aeo).setCell _ _).setCell _ _).setCell _ _).setCell _ _).setCell _ _).setCell _ _).setCell _ _).setCell _ _).setCell _ _).heap[c]?=_;rw[key,key,key,key,key,key,key,key,key,key]
theorem aj0{B:Nat}{a:aeo}(h:Below B a w)(ay:B≤b)(k a7 a' aX a8 cx bA r:Int):Below B a (ET w b k a7 a' aX a8 cx bA r):=
 (((((((((h.setCell ay _).setCell ay _).setCell ay _).setCell ay _).setCell ay _).setCell ay _).setCell ay _).setCell ay _).setCell ay _).setCell ay _
theorem eK.TG{B r n:Nat}{m:M}(h:eK B b r n m w)(s:Bool):eK B b r n {m with hit:=s} (w.setCell (aj b 13) (U s))∧Below B w (w.setCell (aj b 13) (U s)):=
 h.qU {m with hit:=s} 13 (U s) (fun sv=>rfl) rfl rfl (ax2 h.hX rfl rfl rfl rfl) h.t0 h.t1
structure Cv(w x:aeo)(c:D)(a:Int)(bF:ada)(dz ku:Nat)(u v:Int)(o:Obj):Prop where
 b:an w w x
 d:x.heap[w.heap.size]?=some (gJ c a bF)
 p:x.heap[dz]?=some (fl u v)
 s:x.heap[ku]?=some o
theorem Cv.below{y:aeo}{c:D}{a:Int}{bF:ada}{dz ku:Nat}{u v:Int}{o:Obj}(h:Cv w x c a bF dz ku u v o)(ay:an x x y):Cv w y c a bF dz ku u v o:=
 ⟨h.b.trans (ay.mono h.b.size),ba h.d ay,ba h.p ay,ba h.s ay⟩
theorem Cv.line{c:D}{a:Int}{bF:ada}{dz ku:Nat}{u v:Int}{v0 v1 v2 v3 v4 v5 v6 bS b0 v9:ada}(h:Cv w x c a bF dz ku u v (ai (#[v0,v1,v2,v3,v4,v5,v6,bS,b0,v9]) t))(eG:w.heap.size<dz)(fT:dz<ku)(p q:Int):
  Cv w (((ET x ku 3 u v p q 0 0 0).setCell (aj dz 0) (I p)).setCell (aj dz 1) (I q)) c a bF dz ku p q (ai (#[I 3,I u,I v,I p,I q,I 0,I 0,I 0,J 0,J 0]) t):=by
 have hp:∀k,k≠dz→(((ET x ku 3 u v p q 0 0 0).setCell (aj dz 0) (I p)).setCell (aj dz 1) (I q)).heap[k]?=(ET x ku 3 u v p q 0 0 0).heap[k]?:=fun k aw=>by rw[hC _ _ _ _ aw,hC _ _ _ _ aw]
 refine⟨((aj0 h.b (by omega) _ _ _ _ _ _ _ _).setCell (p:=⟨dz,0,none⟩) (by show w.heap.size≤dz;omega) _).setCell (p:=⟨dz,1,none⟩) (by show w.heap.size≤dz;omega) _,?_,?_,?_⟩
 ·rw[hp _ (by omega),aaa _ (by omega)];exact h.d
 ·exact OO (ON ((aaa _ (by omega) _ _ _ _ _ _ _ _).trans h.p) _) _
 ·rw[hp _ (by omega)];exact ajZ h.s _ _ _ _ _ _ _ _
theorem TH(B b r n:Nat)(m:M)(c:D)(aB:af (xQ c))(a:Int)(bF:ada)(w:aeo)(bz:B≤w.heap.size)(H:af (eK B b r n m w))(res:Except Nat M)(c6:af (KC m c=res)):
  Calls Tryz.prog 142 #[ah b 0,EC c a bF] w (Cq B b r n w res):=by
 have cE:=ao bz;have cG:af (an w w (w.alloc (gJ c a bF))):=(Below.refl _ _).alloc (aP _) _;have eb:af ((w.alloc (gJ c a bF)).heap[w.heap.size]?=some (gJ c a bF)):=dL w _;have az:=c6.out;unfold KC at az;clear bz c6;go_enter Tryz.func142,Tryz.ntmps142;go_upto_region 1 with fail;generalize w.alloc _=W at cG eb⊢;have ez:=ao (H.out.below cG.out);obtain⟨sv,au,_⟩:=ez.out.cells;obtain⟨_,_,_,_,_,_,_,_,dj,bB,di,dE,mM,_⟩:=gQ au;obtain⟨⟨e9,aY,a6,cV,iI,d5,d6,tm,xp,hb⟩,_⟩:=jM eb.out;clear au;by_cases EU:c.k=12
 ·have aj1:(c.k==12)=true:=beq_iff_eq.2 EU;rw[aW EU] at az;have aQ:=ao az;clear az EU;go_wp2_with fail;refine (ajV B b r n m c aB a bF W (cd cE.out cG.out.size) ez res aQ).mono ?_;cases res with
  |error k=>
   rintro e w' ⟨ay,rfl⟩;have hG:=ao ((cG.out.mono cE.out).trans ay);clear ay;go_wp2_with fail;go_ret;exact⟨hG.out,rfl⟩
  |ok ey=>
   rintro e w' ⟨ay,rfl,hm⟩;have hG:=ao ((cG.out.mono cE.out).trans ay);have qV:=ao hm;clear ay hm;go_wp2_with fail;go_ret;exact⟨hG.out,rfl,qV.out⟩
 ·have aj1:(c.k==12)=false:=beq_eq_false_iff_ne.2 EU;rw[aN EU] at az;obtain⟨o,a1⟩:=aq (fI m c.x c.y m.x m.y);have bE:=ao a1;rw[a1] at az;have ei:=ao az;clear az EU a1 e9 a6 cV iI tm xp hb;go_upto_region 3 with fail;clear aY;have o1:=ao (Hx H.out cG.out eb.out);have tN:=ao (rF H.out (Cr W) o1.out);have bm:w.heap.size<W.heap.size:=(Array.getElem?_eq_some_iff.1 eb.out).1;go_cut [5,6] (fun eH ok x=>∃dz:Nat,eH=.pointer (some (aj dz 0))∧ok=U o.isSome∧w.heap.size<dz∧af (AQ w x c a bF dz (o.getD (0,0)).1 (o.getD (0,0)).2))
  case first=>
   go_region_held3 (fun x=>x.cell? ⟨w.heap.size,5,none⟩=some (aa ⟨c.x.toArray⟩)∧ak x w.heap.size 6 (aa ⟨c.y.toArray⟩)∧ak x b 9 (I m.x)∧ak x b 10 (I m.y)∧an w w x∧x.heap[w.heap.size]?=some (gJ c a bF))
    (first|exact tN.out|exact ld.out|exact rF H.out ((Below.refl _ _).alloc (aP _) _) ld.out|exact rF H.out (((Below.refl _ _).alloc (aP _) _).drew) o1.out|exact KR H.out bm _ _ ld.out|fail)
    (first|(go_at_call 140;refine (rq B b r n m ⟨c.x.toArray⟩ ⟨c.y.toArray⟩ (wG aB.out.x) (wG aB.out.y) m.x m.y _ (ao (OP H.out (by assumption))) o bE).mono ?_;rintro e w' ⟨rfl,eL⟩;have ld:=ao (rF H.out eL (by assumption));first|(have nk:af (w'.heap[W.heap.size]?=some (fl 0 0)):=(ba (w:=(W.alloc (fl 0 0)).drew) (dL W (fl 0 0)) eL);have z0:=(fR nk.out).1.1;have z1:=(fR nk.out).1.2;have dH:=(fR nk.out).2.1;have c0:=(fR nk.out).2.2)|skip))
   ·go_wp2_with fail;go_meet;exact⟨_,rfl,rfl,OR ld.out.2.2.2.2.1 ld.out.2.2.2.2.2 _ _⟩
   ·go_wp2_with fail;go_meet;exact⟨_,rfl,rfl,bm,OQ H.out bm ld.out nk.out _ _⟩
  case rest=>
  obtain⟨dz,rfl,rfl,yT,bw⟩:=hcut;clear dj bB di dE mM d5 d6 o1 tN ez cG eb bm;have KU:=ao (H.out.below bw.out.2.1);cases o with
  |none=>
   have aQ:af (.error 5=res):=ei.out;go_wp2_with fail;go_ret;rw[←aQ.out];exact⟨bw.out.2.1.mono cE.out,rfl⟩
  |some AR=>
   obtain⟨u,v⟩:=AR;have KV:=ao (Hn bE.out KU.out.hX.eC KU.out.hX.eu KU.out.hX.dH KU.out.hX.c0);obtain⟨⟨eB,bI⟩,_⟩:=fR bw.out.1;obtain⟨⟨_,d1,_⟩,_⟩:=jM bw.out.2.2;go_upto_region 7 with fail
   have tO:af (Cv w (wc.alloc (ai (#[I 1,I u,I v,I 0,I 0,I 0,I 0,I 0,J 0,J 0]) 42)) c a bF dz wc.heap.size u v (ai (#[I 1,I u,I v,I 0,I 0,I 0,I 0,I 0,J 0,J 0]) 42)):=
    ⟨bw.out.2.1.alloc bw.out.2.1.size _,ba bw.out.2.2 ((Below.refl _ _).alloc (aP _) _),ba bw.out.1 ((Below.refl _ _).alloc (aP _) _),dL wc _⟩
   have aab:af (dz<wc.heap.size):=(Array.getElem?_eq_some_iff.1 bw.out.1).1;have J4:=ao yT;clear eB bI d1 KU bw yT;generalize wc.alloc _=X at tO⊢;obtain⟨ku,wq⟩:=aq wc.heap.size;rw[wq] at tO aab⊢;clear wq;have lF:=ao (H.out.below tO.out.b);obtain⟨⟨_,d1,_⟩,_⟩:=jM tO.out.d;by_cases ss:c.k=8
   ·have aj2:(c.k==8)=true:=beq_iff_eq.2 ss;have auS:(c.k==7)=false:=(by rw[fO];omega);obtain⟨bV,h'⟩:=aq (fI m c.u c.v u v);have ju:=ao h';have dr:af (Tf m bV u v=res):=(by show _=_;have h:=ei.out;simp only[] at h;rw[aW ss,h'] at h;exact h);clear ss h';obtain⟨⟨t0,t1⟩,_⟩:=fR tO.out.p;obtain⟨⟨_,_,_,_,_,_,_,d7,d8,_⟩,_⟩:=jM tO.out.d;go_wp2_with fail;refine (rq B b r n m ⟨c.u.toArray⟩ ⟨c.v.toArray⟩ (wG aB.out.u) (wG aB.out.v) u v X lF bV ju).mono ?_;rintro e bZ ⟨rfl,k6⟩;have TI:=ao (tO.out.below k6);clear k6 t0 t1 d1 d7 d8 tO lF;go_upto_region 9 with fail;have EV:af (Cv w (bZ.alloc (fl (bV.getD (0,0)).1 (bV.getD (0,0)).2)) c a bF dz ku u v (ai (#[I 1,I u,I v,I 0,I 0,I 0,I 0,I 0,J 0,J 0]) 42)):=TI.out.below ((Below.refl _ _).alloc (aP _) _);have bn:af ((bZ.alloc (fl (bV.getD (0,0)).1 (bV.getD (0,0)).2)).heap[bZ.heap.size]?=some (fl (bV.getD (0,0)).1 (bV.getD (0,0)).2)):=dL bZ _;have aac:af (ku<bZ.heap.size):=(Array.getElem?_eq_some_iff.1 TI.out.s).1;clear TI;generalize bZ.alloc _=j3 at EV bn⊢;obtain⟨o2,fs⟩:=aq bZ.heap.size;rw[fs] at bn aac⊢;clear fs;cases bV with
    |none=>
     have aQ:af (.error 5=res):=dr.out;go_wp2_with fail;go_ret;rw[←aQ.out];exact⟨EV.out.b.mono cE.out,rfl⟩
    |some aj3=>
     obtain⟨df,bJ⟩:=aj3;have o3:af (KA (qT m (tJ u v df bJ 0)) df bJ false=res):=dr.out;have aj4:=ao (Hn ju.out KV.out.1.1 KV.out.1.2 KV.out.2.1 KV.out.2.2);clear dr;obtain⟨⟨t0,t1⟩,dH,c0⟩:=fR EV.out.p;obtain⟨⟨eC,eu⟩,_⟩:=fR bn.out;obtain⟨g0,g1,g2,g3,g4,g5,g6,g7,g8,g9⟩:=vb EV.out.s;have bP:=ajY EV.out.s;have z0:=bP 0;have z1:=bP 1;have z2:=bP 2;have z3:=bP 3;have z4:=bP 4;have z5:=bP 5;have gZ:=bP 6;have gR:=bP 7;have fM:=bP 8;have z9:=bP 9;have eG:=J4.out;have fT:=aab.out;have n3:=aac.out;clear bP;have AS:=ao (EV.out.line eG fT df bJ);go_upto_region 13 with fail;clear t0 t1 dH c0 eC eu g0 g1 g2 g3 g4 g5 g6 g7 g8 g9 z0 z1 z2 z3 z4 z5 gZ gR fM z9 EV bn;generalize (((ET j3 ku 3 u v df bJ 0 0 0).setCell (aj dz 0) (I df)).setCell (aj dz 1) (I bJ))=X at AS⊢;have lF:=ao (H.out.below AS.out.b);obtain⟨⟨_,d1,_⟩,_⟩:=jM AS.out.d;have vf:=ao (cd cE.out AS.out.b.size);obtain⟨g0,g1,g2,g3,g4,g5,g6,g7,g8,g9⟩:=vb AS.out.s;obtain⟨h4,hD⟩:=aq (qT m (tJ u v df bJ 0));have dm:=o3.out;rw[hD] at dm;have dC:=ao hD;have qN:=ao dm;clear hD dm o3;go_wp2_with fail;refine (Hw B b r n m (tJ u v df bJ 0) (Tz _ _ _ _) X vf.out lF _ dC).mono ?_;cases h4 with
     |error bM=>
      have aQ:af (.error bM=res):=qN.out;have jE:=Cs dC.out;rintro e bZ ⟨⟨l0,rfl⟩,_⟩;have pH:=ao ((AS.out.b.mono cE.out).trans l0);clear l0 g0 g1 g2 g3 g4 g5 g6 g7 g8 g9;rcases jE with rfl|rfl
      ·go_wp2_with fail;go_ret;rw[←aQ.out];exact⟨pH.out,rfl⟩
      ·go_wp2_with fail;go_ret;rw[←aQ.out];exact⟨pH.out,rfl⟩
     |ok m3=>
      have aQ:af (.ok {m3 with x:=df,y:=bJ,hit:=false}=res):=qN.out;rintro e bZ ⟨⟨l0,rfl,rG⟩,sz⟩;have nQ:=ao rG;have tv:af (bZ.heap[dz]?=some (fl df bJ)):=sz.2 dz _ _ _ AS.out.p (by decide) (by decide);have KW:af (bZ.heap[w.heap.size]?=some (gJ c a bF)):=sz.2 w.heap.size _ _ _ AS.out.d (by decide) (by decide);have pH:=ao ((AS.out.b.mono cE.out).trans l0);have aJ:=ao (rG.place df bJ aj4.out);clear l0 rG sz g0 g1 g2 g3 g4 g5 g6 g7 g8 g9;obtain⟨Cc,au,_⟩:=nQ.out.cells;obtain⟨_,_,_,_,_,_,_,_,_,bB,di,_⟩:=gQ au;have hf:=(gQ au).f;have f9:=hf 9;have f10:=hf 10;obtain⟨⟨t0,t1⟩,_⟩:=fR tv.out;clear au hf;go_upto_region 17 with fail;have Cw:af (((bZ.setCell (aj b 9) (I df)).setCell (aj b 10) (I bJ)).heap[w.heap.size]?=some (gJ c a bF)):=(by show _=_;have hne:w.heap.size≠b:=(by have:=H.out.lt.1;omega);rw[hC _ _ _ _ hne,hC _ _ _ _ hne];exact KW.out);clear bB di f9 f10 t0 t1 nQ tv KW;have bT:=ao (pH.out.trans aJ.out.2);have hj:=ao aJ.out.1;clear aJ pH;generalize ((bZ.setCell (aj b 9) (I df)).setCell (aj b 10) (I bJ))=br at Cw bT hj⊢;obtain⟨⟨_,d1,_⟩,_⟩:=jM Cw.out;obtain⟨aj5,au,_⟩:=hj.out.cells;obtain⟨_,_,_,_,_,_,_,_,_,_,_,_,_,lZ,hf⟩:=gQ au;have f13:=hf 13;have gf:=ao (hj.out.TG false);clear au hf;go_wp2_with fail;go_ret;rw[←aQ.out];exact⟨bT.out.trans gf.out.2,rfl,gf.out.1⟩
   ·have aj2:(c.k==8)=false:=beq_eq_false_iff_ne.2 ss;have dr:af (KA (qT m (xL u v 0)) u v (decide (c.k=7))=res):=(by show _=_;have h:=ei.out;simp only[] at h;rw[aN ss] at h;exact h);have Cx:af ((c.k==7)=decide (c.k=7)):=rfl;clear ss;have vf:=ao (cd cE.out tO.out.b.size);obtain⟨g0,g1,g2,g3,g4,g5,g6,g7,g8,g9⟩:=vb tO.out.s;obtain⟨h4,hD⟩:=aq (qT m (xL u v 0));have dm:=dr.out;rw[hD] at dm;have dC:=ao hD;have qN:=ao dm;clear hD dm dr;go_wp2_with fail;refine (Hw B b r n m (xL u v 0) (Ty _ _) X vf.out lF _ dC).mono ?_;cases h4 with
    |error bM=>
     have aQ:af (.error bM=res):=qN.out;have jE:=Cs dC.out;rintro e bZ ⟨⟨l0,rfl⟩,_⟩;have pH:=ao ((tO.out.b.mono cE.out).trans l0);clear l0 g0 g1 g2 g3 g4 g5 g6 g7 g8 g9;rcases jE with rfl|rfl
     ·go_wp2_with fail;go_ret;rw[←aQ.out];exact⟨pH.out,rfl⟩
     ·go_wp2_with fail;go_ret;rw[←aQ.out];exact⟨pH.out,rfl⟩
    |ok m3=>
     have aQ:af (.ok {m3 with x:=u,y:=v,hit:=(decide (c.k=7))}=res):=qN.out;rintro e bZ ⟨⟨l0,rfl,rG⟩,sz⟩;have nQ:=ao rG;have tv:af (bZ.heap[dz]?=some (fl u v)):=sz.2 dz _ _ _ tO.out.p (by decide) (by decide);have KW:af (bZ.heap[w.heap.size]?=some (gJ c a bF)):=sz.2 w.heap.size _ _ _ tO.out.d (by decide) (by decide);have pH:=ao ((tO.out.b.mono cE.out).trans l0);have aJ:=ao (rG.place u v KV.out);clear l0 rG sz g0 g1 g2 g3 g4 g5 g6 g7 g8 g9;obtain⟨Cc,au,_⟩:=nQ.out.cells;obtain⟨_,_,_,_,_,_,_,_,_,bB,di,_⟩:=gQ au;have hf:=(gQ au).f;have f9:=hf 9;have f10:=hf 10;obtain⟨⟨t0,t1⟩,_⟩:=fR tv.out;clear au hf;go_upto_region 17 with fail;have Cw:af (((bZ.setCell (aj b 9) (I u)).setCell (aj b 10) (I v)).heap[w.heap.size]?=some (gJ c a bF)):=(by show _=_;have hne:w.heap.size≠b:=(by have:=H.out.lt.1;omega);rw[hC _ _ _ _ hne,hC _ _ _ _ hne];exact KW.out);clear bB di f9 f10 t0 t1 nQ tv KW;have bT:=ao (pH.out.trans aJ.out.2);have hj:=ao aJ.out.1;clear aJ pH;generalize ((bZ.setCell (aj b 9) (I u)).setCell (aj b 10) (I v))=br at Cw bT hj⊢;obtain⟨⟨_,d1,_⟩,_⟩:=jM Cw.out;obtain⟨aj5,au,_⟩:=hj.out.cells;obtain⟨_,_,_,_,_,_,_,_,_,_,_,_,_,lZ,hf⟩:=gQ au;have f13:=hf 13;have gf:=ao (hj.out.TG (c.k==7));clear au hf;go_wp2_with fail;go_ret;rw[←aQ.out];exact⟨bT.out.trans gf.out.2,rfl,by have h:=gf.out.1;rw[Cx.out] at h;exact h⟩
end dY
