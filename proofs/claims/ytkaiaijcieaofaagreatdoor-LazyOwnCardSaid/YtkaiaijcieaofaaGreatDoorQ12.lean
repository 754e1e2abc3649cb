/- Lemmas. -/
import Derived.Test.YtkaiaijcieaofaaGreatDoorQ11
import Derived.Carry
set_option linter.all false
set_option maxRecDepth 100000
set_option maxHeartbeats 6400000
namespace Go.Proofs.YtkaiaijcieaofaaGreatDoor
abbrev TJ:=@World.ownsRow_nil
namespace dY
open Go.RowKit gI ga jz qe rC mI
section
variable{B b r n:Nat}{m:M}{w:aeo}(h:eK B b r n m w)
include h
theorem eK.aj6(s:Int)(aF:0≤s)(au:s≤9999):eK B b r n {m with hW:=s} (w.setCell (aj b 8) (I s))∧Below B w (w.setCell (aj b 8) (I s)):=
 h.qU {m with hW:=s} 8 (I s) (fun sv=>rfl) rfl rfl (ax2 h.hX rfl rfl rfl rfl) aF au
theorem eK.aj7(s:Bool):eK B b r n {m with down:=s} (w.setCell (aj b 12) (U s))∧Below B w (w.setCell (aj b 12) (U s)):=
 h.qU {m with down:=s} 12 (U s) (fun sv=>rfl) rfl rfl (ax2 h.hX rfl rfl rfl rfl) h.t0 h.t1
theorem eK.aad(s t:Bool):eK B b r n {m with gA:=s,down:=t} ((w.setCell (aj b 11) (U s)).setCell (aj b 12) (U t))∧Below B w ((w.setCell (aj b 11) (U s)).setCell (aj b 12) (U t)):=by obtain⟨au,cw⟩:=h.qU {m with gA:=s} 11 (U s) (fun sv=>rfl) rfl rfl (ax2 h.hX rfl rfl rfl rfl) h.t0 h.t1;obtain⟨ax,bl⟩:=au.qU {m with gA:=s,down:=t} 12 (U t) (fun sv=>rfl) rfl rfl (ax2 h.hX rfl rfl rfl rfl) h.t0 h.t1;exact⟨ax,cw.trans bl⟩
end
theorem ze{x v:Int}(h:x=v):(x==6)=(v==6)∧(x==14)=(v==14)∧(x==13)=(v==13)∧(x==9)=(v==9)∧(x==10)=(v==10)∧(x==11)=(v==11)∧(x==7)=(v==7)∧(x==8)=(v==8)∧(x==12)=(v==12)∧(x==15)=(v==15):=by subst h;exact⟨rfl,rfl,rfl,rfl,rfl,rfl,rfl,rfl,rfl,rfl⟩
theorem aj8(B b r n:Nat)(m:M)(c:D)(aB:af (xQ c))(a:Int)(bF:ada)(w:aeo)(bz:B≤w.heap.size)(H:af (eK B b r n m w))(res:Except Nat M)(c6:af (KD m c=res)):
  Calls Tryz.prog 95 #[ah b 0,EC c a bF] w (Cq B b r n w res):=by
 have ou:=ao H.out;have bm:=H.out.lt.1;have pG:=ao (H.out.TG false);have oZ:af (w.heap.size=(w.setCell (aj b 13) (U false)).heap.size):=by show _=_;simp[World.setCell]
 have hh:af (B≤(w.setCell (aj b 13) (U false)).heap.size):=by show _≤_;rw[←oZ.out];exact bz
 have az:=c6.out;unfold KD at az;obtain⟨sv,au,_⟩:=H.out.cells;have lZ:=(gQ au).lZ;have f13:=(gQ au).f 13;clear bz c6 au;go_enter Tryz.func95,Tryz.ntmps95;go_upto_region 3 with fail;have gH:=ao pG.out.2;have bp:=ao pG.out.1;clear lZ f13 pG ou bm H;rw[oZ.out];generalize w.setCell (aj b 13) (U false)=w0 at gH bp hh oZ⊢;have H:=bp;clear bp oZ;have cE:=hh;clear hh;have cG:af (an w0 w0 (w0.alloc (gJ c a bF))):=(Below.refl _ _).alloc (aP _) _;have eb:af ((w0.alloc (gJ c a bF)).heap[w0.heap.size]?=some (gJ c a bF)):=dL w0 _;generalize w0.alloc _=W at cG eb⊢;have eW:=ao (gH.out.trans (cG.out.mono cE.out));have ez:=ao (H.out.below cG.out);obtain⟨sv,au,_⟩:=ez.out.cells;obtain⟨aV,aT,c2,c3,cD,c5,cX,c7,dj,bB,di,dE,mM,lZ,hf⟩:=gQ au;have z2:=hf 2;have fM:=hf 8;have EW:=hf 11;have z12:=hf 12;obtain⟨⟨d0,d1,d2,d3,d4,d5,d6,d7,d8,d9⟩,_⟩:=jM eb.out;clear au hf;by_cases k:c.k=6
 ·rw[aW k] at az;obtain⟨f6,f14,f13,f9,f10,f11,f7,f8,f12,f15⟩:=ze k;obtain⟨q,aG⟩:=aq (m.fK c.n);have uQ:=Z4 (w:=W.drew) (ez.out.fK.below (Cr W)) c.n aB.out.n0 aB.out.eG;rw[show ({m with hit:=false}:M).fK c.n=m.fK c.n from rfl,aG] at uQ;rw[aG] at az;clear aG k;go_upto_region 6 with fail;go_region;have lf:=ao eW.out.drew;have xR:af (eK B b r n {m with hit:=false} W.drew):=ez.out.below (Cr W);have gy:af (W.drew.heap[w0.heap.size]?=some (gJ c a bF)):=eb.out;clear uQ aV aT c2 c3 cD c5 cX c7 dj bB di dE mM lZ z2 fM EW z12 d0 d1 d2 d3 d4 d5 d6 d7 d8 d9 eW ez eb cG;generalize W.drew=X at lf xR gy⊢;obtain⟨sv,au,_⟩:=xR.out.cells;have dj:=(gQ au).dj;have fM:=(gQ au).f 8;obtain⟨⟨_,_,d2,_⟩,_⟩:=jM gy.out;have aJ:=ao (xR.out.aj6 c.n aB.out.n0 aB.out.eG);clear au;cases q with
  |some g=>
   have aQ:af (.ok {m with hit:=false,hW:=c.n}=res):=(by show _=_;rw[←az];exact (aN (by rintro⟨e,_⟩;cases e)).symm);clear az;go_wp2_with fail;go_ret;rw[←aQ.out];exact⟨lf.out.trans aJ.out.2,rfl,aJ.out.1⟩
  |none=>
   by_cases aF:c.n=0
   ·have NB:(c.n !=0)=false:=(by rw[KJ];exact aF);have aQ:af (.ok {m with hit:=false,hW:=c.n}=res):=(by show _=_;rw[←az];exact (aN (by rintro⟨_,e⟩;exact e aF)).symm);clear az aF;go_wp2_with fail;go_ret;rw[←aQ.out];exact⟨lf.out.trans aJ.out.2,rfl,aJ.out.1⟩
   ·have NB:(c.n !=0)=true:=(by rw[y'];exact aF);have aQ:af (.error 4=res):=(by show _=_;rw[←az];exact (aW ⟨rfl,aF⟩).symm);clear az aF;go_wp2_with fail;go_ret;rw[←aQ.out];exact⟨lf.out,rfl⟩
 ·rw[aN k] at az;have n6:=k;clear k;by_cases k:c.k=14
  ·rw[aW k] at az;obtain⟨f6,f14,f13,f9,f10,f11,f7,f8,f12,f15⟩:=ze k;have aQ:=ao az;clear az k;go_wp2_with fail;go_ret;rw[←aQ.out];exact⟨eW.out,rfl,ez.out⟩
  ·rw[aN k] at az;have TK:=k;clear k;by_cases k:c.k=13
   ·rw[aW k] at az;obtain⟨f6,f14,f13,f9,f10,f11,f7,f8,f12,f15⟩:=ze k;have aQ:=ao az;have aJ:=ao (ez.out.aad false false);clear az k;go_wp2_with fail;go_ret;rw[←aQ.out];exact⟨eW.out.trans aJ.out.2,rfl,aJ.out.1⟩
   ·rw[aN k] at az;have TL:=k;clear k;by_cases k:c.k=9
    ·rw[aW k] at az;obtain⟨f6,f14,f13,f9,f10,f11,f7,f8,f12,f15⟩:=ze k;obtain⟨o,a1⟩:=aq (fI m c.x c.y m.x m.y);have bE:af (fI {m with hit:=false} c.x c.y m.x m.y=o):=a1;rw[a1] at az;have ei:=ao az;clear az a1 k;have o1:=ao (Hx H.out cG.out eb.out);have tN:=ao (rF H.out (Cr W) o1.out);have bm:w0.heap.size<W.heap.size:=(Array.getElem?_eq_some_iff.1 eb.out).1;go_upto_region 14 with fail;go_cut [8,9] (fun eH ok x=>∃dz:Nat,eH=.pointer (some (aj dz 0))∧ok=U o.isSome∧w0.heap.size<dz∧af (AQ w0 x c a bF dz (o.getD (0,0)).1 (o.getD (0,0)).2))
     case first=>
      go_region_held3 (fun x=>x.cell? ⟨w0.heap.size,5,none⟩=some (aa ⟨c.x.toArray⟩)∧ak x w0.heap.size 6 (aa ⟨c.y.toArray⟩)∧ak x b 9 (I m.x)∧ak x b 10 (I m.y)∧an w0 w0 x∧x.heap[w0.heap.size]?=some (gJ c a bF))
       (first|exact tN.out|exact ld.out|exact rF H.out ((Below.refl _ _).alloc (aP _) _) ld.out|exact rF H.out (((Below.refl _ _).alloc (aP _) _).drew) o1.out|exact KR H.out bm _ _ ld.out|fail)
       (first|(go_at_call 140;refine (rq B b r n {m with hit:=false} ⟨c.x.toArray⟩ ⟨c.y.toArray⟩ (wG aB.out.x) (wG aB.out.y) m.x m.y _ (ao (OP H.out (by assumption))) o bE).mono ?_;rintro e w' ⟨rfl,eL⟩;have ld:=ao (rF H.out eL (by assumption));first|(have nk:af (w'.heap[W.heap.size]?=some (fl 0 0)):=(ba (w:=(W.alloc (fl 0 0)).drew) (dL W (fl 0 0)) eL);have z0:=(fR nk.out).1.1;have z1:=(fR nk.out).1.2;have dH:=(fR nk.out).2.1;have c0:=(fR nk.out).2.2)|skip))
      ·go_wp2_with fail;go_meet;exact⟨_,rfl,rfl,OR ld.out.2.2.2.2.1 ld.out.2.2.2.2.2 _ _⟩
      ·go_wp2_with fail;go_meet;exact⟨_,rfl,rfl,bm,OQ H.out bm ld.out nk.out _ _⟩
     case rest=>
     obtain⟨dz,rfl,rfl,yT,bw⟩:=hcut;clear aV aT c2 c3 cD c5 cX c7 dj bB di dE mM lZ d0 d1 d2 d3 d4 d5 d6 d7 d8 d9 z2 fM EW z12 o1 tN ez cG eb bm eW;have lF:=ao (H.out.below bw.out.2.1);have jI:=ao (gH.out.trans (bw.out.2.1.mono cE.out));obtain⟨sv,au,_⟩:=lF.out.cells;obtain⟨_,_,_,_,_,_,_,_,_,bB,di,dE,mM,_⟩:=gQ au;have hf:=(gQ au).f;have z9:=hf 9;have j4:=hf 10;have EW:=hf 11;have z12:=hf 12;obtain⟨⟨eB,bI⟩,_⟩:=fR bw.out.1;clear au hf;cases o with
     |none=>
      have aQ:af (.error 5=res):=ei.out;go_wp2_with fail;go_ret;rw[←aQ.out];exact⟨jI.out,rfl⟩
     |some AR=>
      obtain⟨u,v⟩:=AR;have aQ:af (.ok {m with hit:=false,x:=u,y:=v,gA:=true,down:=false}=res):=ei.out;have tM:=Hn bE.out lF.out.hX.eC lF.out.hX.eu lF.out.hX.dH lF.out.hX.c0;have hF:=lF.out.place u v tM;have EX:=hF.1.aad true false;have aJ:=ao (And.intro EX.1 (hF.2.trans EX.2));clear tM hF EX;go_wp2_with fail;go_ret;rw[←aQ.out];exact⟨jI.out.trans aJ.out.2,rfl,aJ.out.1⟩
    ·rw[aN k] at az;have OT:=k;clear k;by_cases k:c.k=10
     ·rw[aW k] at az;obtain⟨f6,f14,f13,f9,f10,f11,f7,f8,f12,f15⟩:=ze k;cases hr:m.gA with
      |false=>
       rw[aW hr] at az;have aQ:af (.error 4=res):=az;rw[show ({m with hit:=false}:M).gA=m.gA from rfl,hr] at dE;clear az hr k;go_wp2_with fail;go_ret;rw[←aQ.out];exact⟨eW.out,rfl⟩
      |true=>
       rw[aN (by rw[hr];decide)] at az;have aQ:af (.ok {m with hit:=false,down:=c.on}=res):=az;rw[show ({m with hit:=false}:M).gA=m.gA from rfl,hr] at dE;have aJ:=ao (ez.out.aj7 c.on);clear az hr k;go_wp2_with fail;go_ret;rw[←aQ.out];exact⟨eW.out.trans aJ.out.2,rfl,aJ.out.1⟩
     ·rw[aN k] at az;have TM:=k;clear k;by_cases k:c.k=11
      ·rw[aW k] at az;obtain⟨f6,f14,f13,f9,f10,f11,f7,f8,f12,f15⟩:=ze k;clear k;have aQ:=ao az;clear az aV aT c2 c3 cD c5 cX c7 dj bB di mM lZ z2 fM EW z12;go_wp2_with fail;refine (Ct B b r n {m with hit:=false} c aB a bF W (cd cE.out cG.out.size) ez res aQ).mono ?_;cases res with
       |error k=>
        rintro e w' ⟨ay,rfl⟩;have hG:=ao (eW.out.trans ay);clear ay;go_wp2_with fail;go_ret;exact⟨hG.out,rfl⟩
       |ok ey=>
        rintro e w' ⟨ay,rfl,hm⟩;have hG:=ao (eW.out.trans ay);have qV:=ao hm;clear ay hm;go_wp2_with fail;go_ret;exact⟨hG.out,rfl,qV.out⟩
      ·rw[aN k] at az;have TN:=k;clear k;by_cases KX:c.k=7∨c.k=8∨c.k=12
       ·rw[aW KX] at az;by_cases k:c.k=12
        ·clear KX;obtain⟨f6,f14,f13,f9,f10,f11,f7,f8,f12,f15⟩:=ze k;by_cases aI:m.gA=true∨m.hW=0∨(c.k=12∧m.hit=false)
         ·rw[aW aI] at az;have aQ:af (.error 4=res):=az;clear az;cases hr:m.gA with
          |true=>
           rw[show ({m with hit:=false}:M).gA=m.gA from rfl,hr] at dE;clear aI hr k;go_wp2_with fail;go_ret;rw[←aQ.out];exact⟨eW.out,rfl⟩
          |false=>
           rw[show ({m with hit:=false}:M).gA=m.gA from rfl,hr] at dE;by_cases bc:m.hW=0
           ·have zd:(m.hW==0)=true:=beq_iff_eq.2 bc;clear aI hr bc k;go_wp2_with fail;go_ret;rw[←aQ.out];exact⟨eW.out,rfl⟩
           ·have zd:(m.hW==0)=false:=beq_eq_false_iff_ne.2 bc;cases aE:m.hit with
            |true=>exact absurd aI (by rintro (e|e|⟨_,e⟩);rw[hr] at e;cases e;exact bc e;rw[aE] at e;cases e)
            |false=>
             clear aI hr bc k;go_wp2_with fail;go_ret;rw[←aQ.out];exact⟨eW.out,rfl⟩
         ·rw[aN aI] at az;have hr:m.gA=false:=by cases hr:m.gA with|false=>rfl|true=>exact absurd (.inl hr) aI
          have bc:¬m.hW=0:=fun e=>aI (.inr (.inl e));have zd:(m.hW==0)=false:=beq_eq_false_iff_ne.2 bc;rw[show ({m with hit:=false}:M).gA=m.gA from rfl,hr] at dE;have aE:m.hit=true:=by cases aE:m.hit with|true=>rfl|false=>exact absurd (.inr (.inr ⟨k,aE⟩)) aI
          rw[aE];clear aI hr bc k;have aQ:=ao az;clear az aV aT c2 c3 cD c5 cX c7 bB di mM lZ z2 fM EW z12;go_wp2_with fail;refine (TH B b r n {m with hit:=false} c aB a bF W (cd cE.out cG.out.size) ez res aQ).mono ?_;cases res with
          |error k=>
           rintro e w' ⟨ay,rfl⟩;have hG:=ao (eW.out.trans ay);clear ay;go_wp2_with fail;go_ret;exact⟨hG.out,rfl⟩
          |ok ey=>
           rintro e w' ⟨ay,rfl,hm⟩;have hG:=ao (eW.out.trans ay);have qV:=ao hm;clear ay hm;go_wp2_with fail;go_ret;exact⟨hG.out,rfl,qV.out⟩
        ·by_cases ni:c.k=7
         ·clear KX k;have k:=ni;obtain⟨f6,f14,f13,f9,f10,f11,f7,f8,f12,f15⟩:=ze k;clear ni;by_cases aI:m.gA=true∨m.hW=0∨(c.k=12∧m.hit=false)
          ·rw[aW aI] at az;have aQ:af (.error 4=res):=az;clear az;cases hr:m.gA with
           |true=>
            rw[show ({m with hit:=false}:M).gA=m.gA from rfl,hr] at dE;clear aI hr k;go_wp2_with fail;go_ret;rw[←aQ.out];exact⟨eW.out,rfl⟩
           |false=>
            rw[show ({m with hit:=false}:M).gA=m.gA from rfl,hr] at dE;by_cases bc:m.hW=0
            ·have zd:(m.hW==0)=true:=beq_iff_eq.2 bc;clear aI hr bc k;go_wp2_with fail;go_ret;rw[←aQ.out];exact⟨eW.out,rfl⟩
            ·have zd:(m.hW==0)=false:=beq_eq_false_iff_ne.2 bc;exact absurd aI (by rintro (e|e|⟨e,_⟩);rw[hr] at e;cases e;exact bc e;omega)
          ·rw[aN aI] at az;have hr:m.gA=false:=by cases hr:m.gA with|false=>rfl|true=>exact absurd (.inl hr) aI
           have bc:¬m.hW=0:=fun e=>aI (.inr (.inl e));have zd:(m.hW==0)=false:=beq_eq_false_iff_ne.2 bc;rw[show ({m with hit:=false}:M).gA=m.gA from rfl,hr] at dE;clear aI hr bc k;have aQ:=ao az;clear az aV aT c2 c3 cD c5 cX c7 bB di mM lZ z2 fM EW z12;go_wp2_with fail;refine (TH B b r n {m with hit:=false} c aB a bF W (cd cE.out cG.out.size) ez res aQ).mono ?_;cases res with
           |error k=>
            rintro e w' ⟨ay,rfl⟩;have hG:=ao (eW.out.trans ay);clear ay;go_wp2_with fail;go_ret;exact⟨hG.out,rfl⟩
           |ok ey=>
            rintro e w' ⟨ay,rfl,hm⟩;have hG:=ao (eW.out.trans ay);have qV:=ao hm;clear ay hm;go_wp2_with fail;go_ret;exact⟨hG.out,rfl,qV.out⟩
         ·have ss:c.k=8:=(by omega);clear KX k ni;have k:=ss;obtain⟨f6,f14,f13,f9,f10,f11,f7,f8,f12,f15⟩:=ze k;clear ss;by_cases aI:m.gA=true∨m.hW=0∨(c.k=12∧m.hit=false)
          ·rw[aW aI] at az;have aQ:af (.error 4=res):=az;clear az;cases hr:m.gA with
           |true=>
            rw[show ({m with hit:=false}:M).gA=m.gA from rfl,hr] at dE;clear aI hr k;go_wp2_with fail;go_ret;rw[←aQ.out];exact⟨eW.out,rfl⟩
           |false=>
            rw[show ({m with hit:=false}:M).gA=m.gA from rfl,hr] at dE;by_cases bc:m.hW=0
            ·have zd:(m.hW==0)=true:=beq_iff_eq.2 bc;clear aI hr bc k;go_wp2_with fail;go_ret;rw[←aQ.out];exact⟨eW.out,rfl⟩
            ·have zd:(m.hW==0)=false:=beq_eq_false_iff_ne.2 bc;exact absurd aI (by rintro (e|e|⟨e,_⟩);rw[hr] at e;cases e;exact bc e;omega)
          ·rw[aN aI] at az;have hr:m.gA=false:=by cases hr:m.gA with|false=>rfl|true=>exact absurd (.inl hr) aI
           have bc:¬m.hW=0:=fun e=>aI (.inr (.inl e));have zd:(m.hW==0)=false:=beq_eq_false_iff_ne.2 bc;rw[show ({m with hit:=false}:M).gA=m.gA from rfl,hr] at dE;clear aI hr bc k;have aQ:=ao az;clear az aV aT c2 c3 cD c5 cX c7 bB di mM lZ z2 fM EW z12;go_wp2_with fail;refine (TH B b r n {m with hit:=false} c aB a bF W (cd cE.out cG.out.size) ez res aQ).mono ?_;cases res with
           |error k=>
            rintro e w' ⟨ay,rfl⟩;have hG:=ao (eW.out.trans ay);clear ay;go_wp2_with fail;go_ret;exact⟨hG.out,rfl⟩
           |ok ey=>
            rintro e w' ⟨ay,rfl,hm⟩;have hG:=ao (eW.out.trans ay);have qV:=ao hm;clear ay hm;go_wp2_with fail;go_ret;exact⟨hG.out,rfl,qV.out⟩
       ·rw[aN KX] at az;by_cases k:c.k=15
        ·rw[aW k] at az;obtain⟨f6,f14,f13,f9,f10,f11,f7,f8,f12,f15⟩:=ze k;have aQ:=ao az;have aJ:=ao (ez.out.TE 3);clear az k;go_wp2_with fail;go_ret;rw[←aQ.out];exact⟨eW.out.trans aJ.out.2,rfl,aJ.out.1⟩
        ·rw[aN k] at az;have TO:=k;clear k;have f6:(c.k==6)=false:=(by rw[fO];omega);have f14:(c.k==14)=false:=(by rw[fO];omega);have f13:(c.k==13)=false:=(by rw[fO];omega);have f9:(c.k==9)=false:=(by rw[fO];omega);have f10:(c.k==10)=false:=(by rw[fO];omega);have f11:(c.k==11)=false:=(by rw[fO];omega);have f7:(c.k==7)=false:=(by rw[fO];omega);have f8:(c.k==8)=false:=(by rw[fO];omega);have f12:(c.k==12)=false:=(by rw[fO];omega);have f15:(c.k==15)=false:=(by rw[fO];omega);have aQ:=ao az;clear az;go_wp2_with fail;go_ret;rw[←aQ.out];exact⟨eW.out,rfl⟩
end dY
namespace mI
open Go.RowKit gI ga qe
def OU(w:aeo)(b o:Nat)(x:Nat×D)(bF:ada):Prop:=
 w.cell? ⟨b,o,none⟩=some (I (x.1:Int))∧ak w b (o+1) (I x.2.k)∧ak w b (o+2) (I x.2.n)∧ak w b (o+3) (U x.2.on)∧ak w b (o+4) (aa ⟨x.2.t.toArray⟩)∧ak w b (o+5) (aa ⟨x.2.x.toArray⟩)∧ak w b (o+6) (aa ⟨x.2.y.toArray⟩)∧ak w b (o+7) (aa ⟨x.2.u.toArray⟩)∧ak w b (o+8) (aa ⟨x.2.v.toArray⟩)∧ak w b (o+9) bF
def Cy(B:Nat)(w:aeo)(p:Ja)(l:List (Nat×D)):Prop:=0<l.length→∃b o,p=some ⟨b,o,none⟩∧b<w.heap.size∧∀i (hi:i<l.length),∃eA ow,OU w b (o+i *10) l[i] (.slice eA l[i].2.bX.length ow)∧dd B w eA l[i].2.bX
theorem OU.below{w w':aeo}{b o:Nat}{x:Nat×D}{bF:ada}(h:OU w b o x bF)(bm:b<w.heap.size)(ay:an w w w'):OU w' b o x bF:=by obtain⟨aF,au,ax,aA,bb,bj,b8,cY,dM,e6⟩:=h;have key:∀i,w'.cell? ⟨b,i,none⟩=w.cell? (aj b i):=fun i=>ay.cell (p:=⟨b,i,none⟩) bm;exact⟨(key _).trans aF,(key _).trans au,(key _).trans ax,(key _).trans aA,(key _).trans bb,(key _).trans bj,(key _).trans b8,(key _).trans cY,(key _).trans dM,(key _).trans e6⟩
theorem Cy.below{B:Nat}{w w':aeo}{p:Ja}{l:List (Nat×D)}(h:Cy B w p l)(ay:an w w w'):Cy B w' p l:=by intro az;obtain⟨b,o,rfl,bm,aB⟩:=h az;refine⟨b,o,rfl,hN bm ay.size,fun i hi=>?_⟩;obtain⟨eA,ow,au,ax⟩:=aB i hi;exact⟨eA,ow,au.below bm ay,ax.below ay⟩
theorem Cy.nil(B:Nat)(w:aeo)(p:Ja):Cy B w p []:=fun h=>absurd h (mi _)
theorem xK.reads{w0 w:aeo}{v:ada}{l:List (Nat×D)}(h:xK w0 v l w):∃p c,v=ad p l.length c∧Cy w0.heap.size w p l:=by
 obtain⟨xs,a1,i',h2,rfl,wH⟩:=h.own;rcases a1.2 with ⟨rfl,aF⟩|⟨g,cap,cur,rfl,ay,aI,y5,nO,eD,Hz⟩
 ·obtain rfl:l=[]:=lP aF;exact⟨none,0,rfl,Cy.nil _ _ _⟩
 ·refine⟨some ⟨g,0,none⟩,cap,rfl,fun _=>⟨g,0,rfl,(Array.getElem?_eq_some_iff.1 aI).1,fun i hi=>?_⟩⟩;obtain⟨p,c,e,hp⟩:=wH i hi (by omega);refine⟨p,c,?_,hp⟩;have key:∀j,j<10→w.cell? ⟨g,0+i *10+j,none⟩=(Cj l[i] (i'[i]'(by omega)))[j]?:=(by intro j b6;rw[jt,a1.cellAt (i *10+j) (by omega)];exact ZQ l i' h2 i hi j b6);rw[e] at key;exact⟨key 0 (by decide),key 1 (by decide),key 2 (by decide),key 3 (by decide),key 4 (by decide),key 5 (by decide),key 6 (by decide),key 7 (by decide),key 8 (by decide),key 9 (by decide)⟩
end mI
namespace dY
open Go.RowKit gI ga jz qe rC mI
theorem KY(B b r n:Nat)(m:M)(c:D)(aB:af (xQ c))(a:Int)(p:Ja)(cap wF:Nat)(w:aeo)(bz:B≤w.heap.size)(hn:n≤1000000000)(bd:af (dd wF w p c.bX))(H:af (eK B b r n m w))(res:Except Nat M)(c6:af (kF m c=res)):
  Calls Tryz.prog 61 #[ah b 0,EC c a (ad p c.bX.length cap)] w (Cq B b r (n+1) w res):=by
 have cE:=ao bz;have jJ:=ao hn;have cG:af (an w w (w.alloc (gJ c a (ad p c.bX.length cap)))):=(Below.refl _ _).alloc (aP _) _;have eb:af ((w.alloc (gJ c a (ad p c.bX.length cap))).heap[w.heap.size]?=some (gJ c a (ad p c.bX.length cap))):=dL w _;have az:=c6.out;unfold kF at az;clear bz c6 hn;go_enter Tryz.func61,Tryz.ntmps61;go_upto_region 1 with fail;generalize w.alloc _=W at cG eb⊢;have ez:=ao (H.out.below cG.out);have mB:=ao (bd.out.below cG.out);obtain⟨sv,au,_⟩:=ez.out.cells;have c2:=(gQ au).c2;have z2:=(gQ au).f 2;obtain⟨⟨d0,d1,d2,d3,d4,d5,d6,d7,d8,d9⟩,_⟩:=jM eb.out;clear au;by_cases s0:m.lE=0
 ·rw[aW s0] at az;have aj9:(m.lE==0)=true:=beq_iff_eq.2 s0;clear s0;by_cases bM:c.k=2
  ·have aka:(c.k !=2)=false:=(by rw[KJ];exact bM);rw[aN (by omega)] at az;have aQ:=ao az;have aJ:=ao (ez.out.TE 1);clear az bM;go_wp2_with fail;go_ret;rw[←aQ.out];exact⟨(cG.out.mono cE.out).trans aJ.out.2,rfl,aJ.out.1.mono (lO _)⟩
  ·have aka:(c.k !=2)=true:=(by rw[y'];exact bM);rw[aW bM] at az;have aQ:=ao az;clear az bM;go_wp2_with fail;go_ret;rw[←aQ.out];exact⟨cG.out.mono cE.out,rfl⟩
 ·rw[aN s0] at az;have aj9:(m.lE==0)=false:=beq_eq_false_iff_ne.2 s0;by_cases s1:m.lE=1
  ·rw[aW s1] at az;have akb:(m.lE==1)=true:=beq_iff_eq.2 s1;have aQ:=ao az;clear s0 s1 az;go_wp2_with fail;refine (ajQ B b r n m c aB a p cap wF W (cd cE.out cG.out.size) jJ.out mB ez res aQ).mono ?_;cases res with
   |error k=>
    rintro e w' ⟨ay,rfl⟩;have hG:=ao ((cG.out.mono cE.out).trans ay);clear ay;go_wp2_with fail;go_ret;exact⟨hG.out,rfl⟩
   |ok ey=>
    rintro e w' ⟨ay,rfl,hm⟩;have hG:=ao ((cG.out.mono cE.out).trans ay);have qV:=ao hm;clear ay hm;go_wp2_with fail;go_ret;exact⟨hG.out,rfl,qV.out⟩
  ·rw[aN s1] at az;have akb:(m.lE==1)=false:=beq_eq_false_iff_ne.2 s1;by_cases s2:m.lE=2
   ·rw[aW s2] at az;have akc:(m.lE==2)=true:=beq_iff_eq.2 s2;have aQ:=ao az;clear s0 s1 s2 az;go_wp2_with fail;refine (aj8 B b r n m c aB a (ad p c.bX.length cap) W (cd cE.out cG.out.size) ez res aQ).mono ?_;cases res with
    |error k=>
     rintro e w' ⟨ay,rfl⟩;have hG:=ao ((cG.out.mono cE.out).trans ay);clear ay;go_wp2_with fail;go_ret;exact⟨hG.out,rfl⟩
    |ok ey=>
     rintro e w' ⟨ay,rfl,hm⟩;have hG:=ao ((cG.out.mono cE.out).trans ay);have qV:=ao hm;clear ay hm;go_wp2_with fail;go_ret;exact⟨hG.out,rfl,qV.out.mono (lO _)⟩
   ·rw[aN s2] at az;have akc:(m.lE==2)=false:=beq_eq_false_iff_ne.2 s2;have aQ:=ao az;clear s0 s1 s2 az;go_wp2_with fail;go_ret;rw[←aQ.out];exact⟨cG.out.mono cE.out,rfl⟩
def TP(bq:List kT)(i e:Nat)(w:aeo)(b3:Ending)(w':aeo):Prop:=
 ∃v,b3=ab (.tuple #[v,I (i:Int),I (e:Int)])∧an w w w'∧w'.ownsRow w.heap.size 42 10 v bq.length (wC bq)∧bq.length≤100000
theorem KZ{i e:Nat}{w w':aeo}(ay:an w w w'):TP [] i e w (ab (.tuple #[cA,I (i:Int),I (e:Int)])) w':=⟨cA,rfl,ay,TJ _ _ _ _,cO _⟩
theorem akd(w:aeo)(bo:Int):eK w.heap.size (w.heap.size+1) w.heap.size 0 (m0 bo) ((w.alloc (.map #[] 0)).alloc (za cA w.heap.size (m0 bo))):=by
 have aY:(w.alloc (.map #[] 0)).heap.size=w.heap.size+1:=by simp
 refine⟨by omega,aP _,⟨cA,?_,TJ _ _ _ _⟩,⟨.map [],(World.ownsMap_made w _ _ _).alloc _,Maps.isMap_empty,fun k=>⟨rfl,rfl⟩⟩,ajb bo,As _,by show (0:Int)≤9999;decide⟩;have h:=dL (w.alloc (.map #[] 0)) (za cA w.heap.size (m0 bo))
 rwa [aY] at h
variable{k:Nat}
theorem ake{r:Except Nat M}{p q:Int}(h:Te r p q=.error k):r=.error k:=by
 cases r with
 |error e=>exact h
 |ok m=>cases h
theorem aae{r:Except Nat M}{p q:Int}{b:Bool}(h:KA r p q b=.error k):r=.error k:=by
 cases r with
 |error e=>exact h
 |ok m=>cases h
theorem pJ{a b:Nat}(h:(Except.error a:Except Nat M)=.error b):a=b:=by injection h
theorem aaf:∀(j:Nat) {m:M} {p q:Int} {k:Nat},AJ j m p q=.error k→k≠0
 |0,_,_,_,_,h=>by cases h
 |j+1,m,p,q,k,h=>by
  unfold AJ at h;split at h
  ·rename_i e he;have:=pJ h;rcases Cs he with au|au<;>omega
  ·exact aaf j h
variable{m:M}{c:D}
theorem akf(h:Ky m c=.error k):k≠0:=by
 unfold Ky at h;split at h
 ·have:=pJ h;omega
 ·split at h
  ·have:=pJ h;omega
  ·split at h
   ·have:=pJ h;omega
   ·cases h
theorem akg(h:Kz m c=.error k):k≠0:=by
 unfold Kz at h;split at h
 ·split at h
  ·have:=pJ h;omega
  ·cases h
 ·split at h
  ·exact akf h
  ·split at h
   ·split at h
    ·have:=pJ h;omega
    ·cases h
   ·have:=pJ h;omega
theorem akh(h:KB m c=.error k):k≠0:=by
 unfold KB at h;split at h
 ·have:=pJ h;omega
 ·split at h
  ·have:=pJ h;omega
  ·split at h
   ·rcases Cs (ake h) with au|au<;>omega
   ·cases h
theorem aki(h:KC m c=.error k):k≠0:=by
 unfold KC at h;split at h
 ·unfold OH at h;split at h
  ·have:=pJ h;omega
  ·exact aaf _ h
 ·split at h
  ·have:=pJ h;omega
  ·split at h
   ·unfold Tf at h;split at h
    ·have:=pJ h;omega
    ·rcases Cs (aae h) with au|au<;>omega
   ·rcases Cs (aae h) with au|au<;>omega
theorem akj(h:KD m c=.error k):k≠0:=by
 unfold KD at h;split at h
 ·split at h
  ·have:=pJ h;omega
  ·cases h
 ·split at h
  ·cases h
  ·split at h
   ·cases h
   ·split at h
    ·split at h
     ·have:=pJ h;omega
     ·cases h
    ·split at h
     ·split at h
      ·have:=pJ h;omega
      ·cases h
     ·split at h
      ·exact akh h
      ·split at h
       ·split at h
        ·have:=pJ h;omega
        ·exact aki h
       ·split at h
        ·cases h
        ·have:=pJ h;omega
theorem akk(h:kF m c=.error k):k≠0:=by
 unfold kF at h;split at h
 ·split at h
  ·have:=pJ h;omega
  ·cases h
 ·split at h
  ·exact akg h
  ·split at h
   ·exact akj h
   ·have:=pJ h;omega
theorem akl(wF:Nat)(p:Ja)(cap:Nat)(l:List (Nat×D))(az:l.length≤1000000)(bG:af (∀x∈l,xQ x.2))(w:aeo)(b9:af (Cy wF w p l))(bo:Int)(cH:-9223372036854775808≤bo)(cw:bo≤9223372036854775807)(bq:List kT)(i e:Nat)(aE:af (EF (l.map Prod.snd) bo=(bq,i,e))):
  Calls Tryz.prog 39 #[ad p l.length cap,I bo] w (TP bq i e w):=by
 obtain⟨R,hR⟩:=aq (iF (l.map Prod.snd) 0 (m0 bo));have tP:=aE.out;unfold EF at tP;rw[hR] at tP;have gf:=ao tP;have bN:af (eK w.heap.size (w.heap.size+1) w.heap.size 0 (m0 bo) ((w.alloc (.map #[] 0)).alloc (ai (#[J 0,I (max 0 (min bo 100000)),I 0,I 0,I 0,I 0,U false,.map (some w.heap.size),I 0,I 0,I 0,U false,U false,U false]) 150))):=akd w bo;have aH:af (an w w ((w.alloc (.map #[] 0)).alloc (ai (#[J 0,I (max 0 (min bo 100000)),I 0,I 0,I 0,I 0,U false,.map (some w.heap.size),I 0,I 0,I 0,U false,U false,U false]) 150))):=((Below.refl _ _).alloc (aP _) _).alloc (by simp) _;have aQ:af (iF ((l.map Prod.snd).drop 0) 0 (m0 bo)=R):=hR;have jg:af ((l.map Prod.snd).length=l.length):=by show _=_;simp
 have sh:=@run_makeMap Tryz.prog;clear aE tP hR;go_enter Tryz.func39,Tryz.ntmps39;go_upto_region 3 with fail;generalize ((w.alloc (.map #[] 0)).alloc (ai (#[J 0,I (max 0 (min bo 100000)),I 0,I 0,I 0,I 0,U false,.map (some w.heap.size),I 0,I 0,I 0,U false,U false,U false]) 150))=W at bN aH⊢;clear sh
 go_loopw [18] (fun xS cq=>∃(j:Nat) (dJ:M) (aL:aeo),aL=cq∧xS=I j∧j≤l.length∧af (iF ((l.map Prod.snd).drop j) j dJ=R)∧af (eK w.heap.size (w.heap.size+1) w.heap.size j dJ aL∧an w w aL)) (fun xS _=>l.length -(intOf xS).toNat)
 case atStart=>exact⟨0,m0 bo,_,rfl,rfl,cO _,aQ.out,bN.out,aH.out⟩
 case round=>
 obtain⟨j,dJ,cq,rfl,rfl,b6,kK,cJ⟩:=hrel;clear aQ bN aH;by_cases bm:j<l.length
 ·have fD:(j:Int)<(l.length:Int):=(by omega);obtain⟨x,hx⟩:=aq (l[j]);have EY:(l.map Prod.snd).drop j=x.2::(l.map Prod.snd).drop (j+1):=(by rw[rZ (by simpa using bm),Sh,hx]);have pI:=kK.out;rw[EY] at pI;have akm:af (xQ x.2):=bG.out x (by rw[←hx];exact k3 _);obtain⟨e1,ol,rfl,ja,Cz⟩:=(b9.out.below cJ.out.2) (by omega);obtain⟨eA,ow,bc,Au⟩:=Cz j bm;rw[hx] at bc Au;have OV:=ao Au;obtain⟨s0,s1,s2,kV,l1,l2,l3,l4,l5,l6⟩:=bc;have kq:af (an w w (cq.alloc (ai (#[I (x.1:Int),I x.2.k,I x.2.n,U x.2.on,aa ⟨x.2.t.toArray⟩,aa ⟨x.2.x.toArray⟩,aa ⟨x.2.y.toArray⟩,aa ⟨x.2.u.toArray⟩,aa ⟨x.2.v.toArray⟩,ad eA x.2.bX.length ow]) 101))):=cJ.out.2.alloc cJ.out.2.size _;have vg:af (eK w.heap.size (w.heap.size+1) w.heap.size j dJ (cq.alloc (ai (#[I (x.1:Int),I x.2.k,I x.2.n,U x.2.on,aa ⟨x.2.t.toArray⟩,aa ⟨x.2.x.toArray⟩,aa ⟨x.2.y.toArray⟩,aa ⟨x.2.u.toArray⟩,aa ⟨x.2.v.toArray⟩,ad eA x.2.bX.length ow]) 101))):=cJ.out.1.below ((Below.refl _ _).alloc (aP _) _);have K0:af ((cq.alloc (ai (#[I (x.1:Int),I x.2.k,I x.2.n,U x.2.on,aa ⟨x.2.t.toArray⟩,aa ⟨x.2.x.toArray⟩,aa ⟨x.2.y.toArray⟩,aa ⟨x.2.u.toArray⟩,aa ⟨x.2.v.toArray⟩,ad eA x.2.bX.length ow]) 101)).heap[cq.heap.size]?=some (.cells #[I (x.1:Int),I x.2.k,I x.2.n,U x.2.on,aa ⟨x.2.t.toArray⟩,aa ⟨x.2.x.toArray⟩,aa ⟨x.2.y.toArray⟩,aa ⟨x.2.u.toArray⟩,aa ⟨x.2.v.toArray⟩,ad eA x.2.bX.length ow] 101)):=dL cq _;have jJ:af (dd wF (cq.alloc (ai (#[I (x.1:Int),I x.2.k,I x.2.n,U x.2.on,aa ⟨x.2.t.toArray⟩,aa ⟨x.2.x.toArray⟩,aa ⟨x.2.y.toArray⟩,aa ⟨x.2.u.toArray⟩,aa ⟨x.2.v.toArray⟩,ad eA x.2.bX.length ow]) 101)) eA x.2.bX):=OV.out.below ((Below.refl _ _).alloc (aP _) _);clear EY Cz Au kK hx;go_upto_region 5 with fail;clear s0 s1 s2 kV l1 l2 l3 l4 l5 l6;generalize cq.alloc (.cells #[I (x.1:Int),I x.2.k,I x.2.n,U x.2.on,aa ⟨x.2.t.toArray⟩,aa ⟨x.2.x.toArray⟩,aa ⟨x.2.y.toArray⟩,aa ⟨x.2.u.toArray⟩,aa ⟨x.2.v.toArray⟩,ad eA x.2.bX.length ow] 101)=X at kq vg K0 jJ⊢;obtain⟨⟨d0,d1,d2,d3,d4,d5,d6,d7,d8,d9⟩,_⟩:=jM K0.out;by_cases dP:x.2.k=1
  ·have akn:(x.2.k==1)=true:=beq_iff_eq.2 dP;have uC:af (iF ((l.map Prod.snd).drop (j+1)) (j+1) dJ=R):=(by show _=_;rw[←pI];exact (aW dP).symm);clear pI dP;go_wp2_with fail;go_round
   case rel=>exact⟨j+1,dJ,_,rfl,by go_num,by omega,uC.out,vg.out.mono (lO _),kq.out⟩
   case measure=>simp[intOf];omega
  ·have akn:(x.2.k==1)=false:=beq_eq_false_iff_ne.2 dP;obtain⟨h4,hD⟩:=aq (kF dJ x.2);have dC:=ao hD;have K1:(match kF dJ x.2 with|.error e=>Except.error (j,e)|.ok ey=>iF ((l.map Prod.snd).drop (j+1)) (j+1) ey)=R:=(by rw[←pI];exact (aN dP).symm);rw[hD] at K1;clear pI dP hD;go_wp2_with fail;refine (KY w.heap.size (w.heap.size+1) w.heap.size j dJ x.2 akm (x.1:Int) eA ow wF X kq.out.size (by omega) jJ vg h4 dC).mono ?_;cases h4 with
   |error k=>
    have ako:af (R=.error (j,k)):=K1.symm;have jY:=akk dC.out;have auT:((k:Int) !=0)=true:=(by rw[y'];omega);have tP:=gf.out;rw[ako.out] at tP;have cc:af (([],j,k)=(bq,i,e)):=tP;rintro b3 bZ ⟨ay,rfl⟩;have hG:=ao (kq.out.trans ay);clear ay tP K1 jY;go_wp2_with fail;go_ret3;have ft:=cc.out;simp only[fg] at ft;obtain⟨rfl,rfl,rfl⟩:=ft;exact KZ hG.out
   |ok m3=>
    have NI:af (iF ((l.map Prod.snd).drop (j+1)) (j+1) m3=R):=K1;rintro b3 bZ ⟨ay,rfl,hm⟩;have hG:=ao (kq.out.trans ay);have qV:=ao hm;clear ay hm K1;go_wp2_with fail;go_round
    case rel=>exact⟨j+1,m3,_,rfl,by go_num,by omega,NI.out,qV.out,hG.out⟩
    case measure=>simp[intOf];omega
 ·have kM:(l.map Prod.snd).drop j=[]:=(by rw[List.drop_eq_nil_iff];simpa using bm);have fD:¬(j:Int)<(l.length:Int):=(by omega);have pI:=kK.out;rw[kM] at pI;have xT:af (R=.ok dJ):=pI.symm;have tP:=gf.out;rw[xT.out] at tP;obtain⟨sv,au,ax⟩:=cJ.out.1.cells;have aV:=(gQ au).aV;have c2:=(gQ au).c2;have bE:=ao ax;clear pI kM au ax;by_cases aA:dJ.lE=3
  ·have akp:(dJ.lE !=3)=false:=(by rw[KJ];exact aA);have cc:af ((dJ.bq,0,0)=(bq,i,e)):=(by show _=_;rw[←tP];exact (aN (by omega)).symm);clear tP aA;go_wp2_with fail;go_ret3;have ft:=cc.out;simp only[fg] at ft;obtain⟨rfl,rfl,rfl⟩:=ft;exact⟨_,rfl,cJ.out.2,bE.out,by have bj:=cJ.out.1.hX.n;have b8:=cJ.out.1.hX.cw;omega⟩
  ·have akp:(dJ.lE !=3)=true:=(by rw[y'];exact aA);have cc:af (([],l.length,11)=(bq,i,e)):=(by show _=_;rw[←tP,←jg.out];exact (aW aA).symm);clear tP aA;go_wp2_with fail;go_ret3;have ft:=cc.out;simp only[fg] at ft;obtain⟨rfl,rfl,rfl⟩:=ft;exact KZ cJ.out.2
end dY
namespace mI
open Go.RowKit gI ga jz qe
abbrev hY:ByteArray:=⟨#[77,52,56]⟩
def zf(w:aeo)(e:Ending)(w':aeo):Prop:=∃b,e=ab (U b)∧w=w'
def akq(x:Int)(w:aeo)(e:Ending)(w':aeo):Prop:=∃b:Bool,e=ab (U b)∧af (32≤x→x≤126→b=true)∧w=w'
theorem akr(x:Int)(w:aeo):Calls Tryz.prog 57 #[.int .u8 x] w (akq x w):=by go_enter Tryz.func57,Tryz.ntmps57;go_wp2_with fail;all_goals (go_ret;exact⟨_,rfl,by intro au ax;first|rfl|exact gx (by omega)|omega,rfl⟩)
theorem aks(S:Ua)(hs:S.size≤1000000)(w:aeo):
  Calls Tryz.prog 56 #[aa S] w fun e w'=>∃n,e=ab (I n)∧af (S=hY→n≤1000)∧w=w':=by
 have hp:S.size=0∨∃m,S.size=m+1∧(S.size:Int)-1=(m:Int)∧(m:Int)≤1000000∧(S.toList==[])=false∧m<S.size:=by
  by_cases aF:S.size=0
  ·exact .inl aF
  ·exact .inr ⟨S.size-1,by omega,by omega,by omega,by rw[EB];exact fJ aF,by omega⟩
 rcases hp with aF|⟨m,_,hm,fX,hne,ks⟩
 ·obtain rfl:=ZM aF;go_enter Tryz.func56,Tryz.ntmps56;go_wp2_with fail;with_reducible refine (Tryz.strings_Count_one _ 10 _).mono ?_
  rintro e w' ⟨rfl,rfl⟩;go_wp2_with fail;go_ret;exact⟨_,rfl,nofun,rfl⟩
 ·go_enter Tryz.func56,Tryz.ntmps56;go_wp2_with fail;with_reducible refine (Tryz.strings_Count_one _ 10 _).mono ?_
  rintro e w' ⟨rfl,rfl⟩;go_wp2_with fail;all_goals (go_ret;exact⟨_,rfl,by rintro rfl;decide+kernel,rfl⟩)
theorem akt(S:Ua)(hs:S.size≤maxLen)(w:aeo):Calls Tryz.prog 190 #[aa S] w (zf w):=by
 have ou:=ao hs;unfold maxLen at hs;have hm:S.size≤9223372036854775807:=by omega
 have aF:(S.toList==[])=true∨(S.toList==[])=false∧0<S.size:=by
  rw[EB];by_cases h:S.size=0
  ·exact .inl (gx h)
  ·exact .inr ⟨fJ h,by omega⟩
 go_enter Tryz.func190,Tryz.ntmps190;go_wp2_with fail;with_reducible refine (OL _ 46 _).mono ?_
 rintro e w' ⟨rfl,rfl⟩;generalize decide (0≤Lib.indexByte S.data.toList 46)=q;cases q with
 |true=>
  go_wp2_with fail;with_reducible refine (Hi S _ ou.out).mono ?_
  rintro e bt ⟨rfl,rfl⟩;go_wp2_with fail;go_ret;exact⟨_,rfl,rfl⟩
 |false=>
 go_upto_region 4 with fail;go_cut [25] (fun c cq=>∃b,c=U b∧(b=true→0<S.size)∧w'=cq)
 case first=>
  rcases aF with aF|⟨aF,hp⟩
  ·go_wp2_with fail;go_meet;exact⟨_,rfl,nofun,rfl⟩
  ·go_wp2_with fail;all_goals (go_meet;exact⟨_,rfl,fun _=>hp,rfl⟩)
 case rest=>
 obtain⟨b,rfl,ay,rfl⟩:=hcut;go_upto_if 25 with fail;go_cut [0] (fun t cq=>∃T:Ua,t=aa T∧T.size≤S.size∧w'=cq)
 case first=>
  cases b with
  |true=>
   have hp:=ay rfl;have CA:(S.extract 1 S.size).size≤S.size:=(by rw[←ch,lX,e8,ch];omega);go_wp2_with fail;go_meet;exact⟨_,rfl,CA,rfl⟩
  |false=>
   go_wp2_with fail;go_meet;exact⟨_,rfl,aP _,rfl⟩
 case rest=>
 obtain⟨T,rfl,CA,rfl⟩:=hcut;have aku:T.size≤9223372036854775807:=by omega
 go_wp2_with fail
 go_loop [5] (fun i=>∃j:Nat,j≤T.size∧i=I j) (fun i=>T.size -(intOf i).toNat)
 case atStart=>exact⟨0,cO _,rfl⟩
 case round=>
  obtain⟨j,b6,rfl⟩:=hrel;go_wp2_with fail
  all_goals first
   |(go_ret;exact⟨_,rfl,rfl⟩)
   |(go_round;(exact⟨j+1,by omega,by go_num⟩);(simp[intOf];omega))
   |trace_state
theorem EZ(S:Ua)(a b:Nat):(S.extract a b).size≤S.size:=by rw[←ch,Km];simp[ch];omega
def akv(S:Ua)(w:aeo)(e:Ending)(w':aeo):Prop:=∃(C R:Ua) (b:Bool),e=ab (.tuple #[aa C,aa R,U b])∧C.size≤S.size∧R.size≤S.size∧an w w w'
theorem aag(S:Ua)(hs:S.size≤maxLen)(l:Int)(w:aeo):Calls Tryz.prog 168 #[aa S,.int .u8 l] w (akv S w):=by
  have ou:=ao hs;unfold maxLen at hs;have hm:S.size≤9223372036854775807:=(by omega);by_cases aF:S.size=0
  · obtain rfl:=ZM aF
    go_enter Tryz.func168,Tryz.ntmps168;go_wp2_with fail;go_ret3;exact⟨_,_,_,rfl,aP _,aP _,Below.refl _ _⟩
  have hne:(S.toList==[])=false:=(by rw[EB];exact fJ aF);have hp:0<S.size:=(by omega);go_enter Tryz.func168,Tryz.ntmps168;go_wp2_with fail
  · go_ret3
    exact⟨_,_,_,rfl,cO _,aP _,Below.refl _ _⟩
  rename_i hx _ _;simp only[hx]
  go_loop [7] (fun i=>∃j:Nat,1≤j∧j≤S.size∧i=I j) (fun i=>S.size -(intOf i).toNat)
  case atStart=>exact⟨1,aP _,hp,rfl⟩
  case round=>
    obtain⟨j,ai5,b6,rfl⟩:=hrel;have Hv:=cd (EZ S 1 j) ou.out;have qG:(1:Int)≤(j:Int):=(by omega);have ZG:(0:Int)≤(j:Int):=(by omega);go_wp2_with (first|((with_reducible refine (Tryz.strings_IndexByte _ _ _).mono ?_);rintro e w' ⟨rfl,rfl⟩)|fail)
    all_goals first
      |(go_round<;>first|exact⟨j+1,by omega,by omega,by go_num⟩|(simp[intOf]<;>omega))
      |exact⟨⟨j+1,by omega,by omega,by go_num⟩,by simp[intOf];omega⟩
      | (go_region_law ((go_simp;go_at_call 190;refine (akt _ Hv _).mono ?_;rintro e w' ⟨b,rfl,rfl⟩))
         all_goals
           go_wp2_with fail;go_ret3;exact⟨_,_,_,rfl,EZ _ _ _,EZ _ _ _,below_drewN (Below.refl _ _) _⟩)
def akw(S:Ua)(w:aeo)(e:Ending)(w':aeo):Prop:=∃(n:Int) (R:Ua) (b:Bool),e=ab (.tuple #[I n,aa R,U b])∧R.size≤S.size∧(0≤n∧n≤9999)∧an w w w'
theorem akx(s:ar):-1000000000000<(dec s).getD 0∧(dec s).getD 0<1000000000000:=by
 unfold dec;cases hd:oa (strip s).2 with
 |none=>exact⟨by show (-1000000000000:Int)<0;decide,by show (0:Int)<1000000000000;decide⟩
 |some n=>
  have:=XN hd;show _<(if (strip s).1=true then -(n:Int) else (n:Int))∧(if (strip s).1=true then -(n:Int) else (n:Int))<_;split<;>omega
theorem aah(S:Ua)(hs:S.size≤maxLen)(bx:Int)(zg:bx≤9999)(w:aeo):Calls Tryz.prog 133 #[aa S,I bx] w (akw S w):=by
  unfold maxLen at hs;have hm:S.size≤9223372036854775807:=(by omega);go_enter Tryz.func133,Tryz.ntmps133;go_wp2_with fail
  go_loop [7,8] (fun v i=>∃(n:Int) (j:Nat),j≤S.size∧(0≤n∧n≤9999)∧v=I n∧i=I j) (fun _ i=>S.size -(intOf i).toNat)
  case atStart=>exact⟨0,0,cO _,by decide,rfl,rfl⟩
  case round=>
    obtain⟨n,j,b6,hn,rfl,rfl⟩:=hrel;go_wp2_with fail
    all_goals first
      |(refine⟨⟨_,j+1,by omega,?_,rfl,by go_num⟩,by simp[intOf];omega⟩;omega)
      |(go_ret3;exact⟨_,_,_,rfl,cO _,by decide,Below.refl _ _⟩)
      | (go_quiet (fail)
         all_goals
           go_wp2_with fail;go_ret3;exact⟨_,_,_,rfl,EZ _ _ _,hn,below_drewN (Below.refl _ _) _⟩)
      |trace_state
end mI
