/- Lemmas. -/
import Derived.Test.YtkaiaijcieaofaaGreatDoorQ19
set_option linter.all false
set_option maxRecDepth 100000
set_option maxHeartbeats 12800000
namespace Go.Proofs.YtkaiaijcieaofaaGreatDoor
namespace c1
open Go.RowKit ef
open cB (C)
open gK (iO iN)
theorem UW(l:ar):(⟨l.toArray⟩:Ua).toList.isEmpty=decide (l=[]):=by rw[nj];cases l<;>simp
theorem amE(w0:aeo)(P:Nat)(p:cy)(c:C)(ca:Int)(bF bv:ada)(tx ty bx bO:Int)(bk w:aeo)(H:af (jl w0 P p bk))(dY:af (an bk bk w))(hs:Fk p)(bP:nV p)(aby:nU (tx,ty))(abz:nU (bx,bO))(res:Except Nat cy)(c6:af (yJ p c (tx,ty) (bx,bO)=res)):
    Calls Tryz.prog 123 #[ah P 0,iO c ca bF bv,.agg #[I tx,I ty],.agg #[I bx,I bO]] w fun e w'=>gi w0 P res e w'∧aK (fun k=>bk.heap.size≤k) w w':=by
  obtain⟨bU,cn,bY,cF,bg,dA,dB,ci,t',cu,e1⟩:=c;by_cases UX:p.mode=1∧p.region=true∧p.bQ≠[]∧ci=[]∧t'=[]
  · obtain⟨au,ax,aA,rfl,rfl⟩:=UX
    have hF: .ok {p with bQ:=mr p.bQ (tx,ty)}=res:=(by rw[←c6.out];unfold yJ;simp[au,ax,aA]);rw[←hF];exact amp w0 P p ca bU cn bY cF ⟨bg.toArray⟩ ⟨dA.toArray⟩ ⟨dB.toArray⟩ bF bv tx ty bx bO bk w H dY hs au ax aA
  show Calls _ _ #[ah P 0,.agg #[I ca,I bU,I cn,I bY,U cF,aa ⟨bg.toArray⟩,aa ⟨dA.toArray⟩,aa ⟨dB.toArray⟩,aa ⟨ci.toArray⟩,aa ⟨t'.toArray⟩,bF,bv],.agg #[I tx,I ty],.agg #[I bx,I bO]] w _;obtain⟨R,m,L,fu,cv,ov,cx,ox,h⟩:=H.out;have tY:=ao h;have H1:=ao (h.below dY.out);have bH:=ao bP;have bG:=ao hs;have abA:=ao aby;have UY:=ao abz;have tF:=ao UX;obtain⟨rg,qm⟩:∃r,p.region=r:=⟨_,rfl⟩;have tX:=ao qm;obtain⟨H3,UZ⟩:∃r,p.DX=r:=⟨_,rfl⟩;have amF:=ao UZ;have Lv:=ao (UW ci);have Lw:=ao (UW t')
  have o8 : af ((if p.mode≠1∧rg=true then .error 8 else if p.mode≠1∧H3=false then .error 4 else if p.mode=1∧(ci≠[]∨t'≠[]) then .error 4 else if rg=true then (if p.bQ=[] then .error 4 else .ok {p with bQ:=mr p.bQ (tx,ty)}) else match p.jC p.pt with
    |none=>.error 4
    |some a=>if a.round=false then .error 4 else if p.mode=1 then (if a.r=0 then .ok p else iv p p.fe (nB (uA p.at_ (tx,ty) a.r))) else
      if Ab (p.at_.1+bx,p.at_.2+bO) (if p.mode=2 then (tx,ty) else p.at_) (if p.mode=2 then p.at_ else (tx,ty))=false then .error 9 else if a.r=0 then .ok p else iv p p.fe (nB {fN with k:=5,a:=(if p.mode=2 then (tx,ty) else p.at_),b:=(if p.mode=2 then p.at_ else (tx,ty)),c:=(p.at_.1+bx,p.at_.2+bO),r:=a.r}))=res):=by
    show _=_;rw[←c6.out,←qm,←UZ];rfl
  generalize (⟨ci.toArray⟩:Ua)=cS at Lv⊢;generalize (⟨t'.toArray⟩:Ua)=lK at Lw⊢;clear h hs bP H qm UZ aby abz UX c6;go_enter Tryz.func123,Tryz.ntmps123;go_upto_region 1 with fail;obtain⟨W,cP⟩:∃W,((w.alloc (ai (#[I ca,I bU,I cn,I bY,U cF,aa ⟨bg.toArray⟩,aa ⟨dA.toArray⟩,aa ⟨dB.toArray⟩,aa cS,aa lK,bF,bv]) fm)).alloc (ai (#[I tx,I ty]) de)).alloc (.cells #[I bx,I bO] de)=W:=⟨_,rfl⟩;obtain⟨au,ax,aA,ay,fw⟩:=DS cP;have b9:=ao au;have cc:=ao ax;have aJ:=ao aA;have aH:=ao ay;rw[cP];clear cP au ax aA ay fw;have bp:=ao (H1.out.below aH.out);obtain⟨D,b4⟩:∃D,w.heap.size=D:=⟨_,rfl⟩;rw[b4] at b9 cc aJ⊢;clear b4 H1;have dE:W.cell? ⟨P,11,none⟩=some (I p.mode):=cell_of (i:=11) bp.out.pl rfl;have mM:W.cell? ⟨P,12,none⟩=some (U H3):=(by rw[←amF.out];exact cell_of (i:=12) bp.out.pl rfl);have nT:W.cell? ⟨P,19,none⟩=some (U rg):=(by rw[←tX.out];exact cell_of (i:=19) bp.out.pl rfl);have d8:W.cell? ⟨D,8,none⟩=some (aa cS):=cell_of (i:=8) b9.out rfl;have d9:W.cell? ⟨D,9,none⟩=some (aa lK):=cell_of (i:=9) b9.out rfl;by_cases aI:rg=false∧((p.mode=1∧ci=[]∧t'=[])∨(p.mode≠1∧H3=true))
  · obtain⟨rfl,aI⟩:=aI
    have cX:W.cell? ⟨P,6,none⟩=some (.map (some m)):=cell_of (i:=6) bp.out.pl rfl;have c7:W.cell? ⟨P,7,none⟩=some (I p.pt):=cell_of (i:=7) bp.out.pl rfl;have oE:=lt_of_heap bp.out.pl;have vp:m<W.heap.size:=(by obtain⟨_,_,hm⟩:=bp.out.mp.map;exact lt_of_heap hm);obtain⟨v,jZ,aS⟩:=bp.out.mp.look p.pt;obtain⟨o,a1⟩:∃o,p.jC p.pt=o:=⟨_,rfl⟩;have bE:=ao a1;rw[a1] at jZ aS;clear a1;cases o with
    |none=>
      have aS:v=Fb:=aS;subst aS
      have hF: .error 4=res:=by
        rw[←o8.out,bE.out];rcases aI with ⟨au,ax,aA⟩|⟨au,ax⟩
        · simp[au,ax,aA]
        · simp[au,ax]
      have lq:=jZ W.drew rfl;have hc:=jZ (W.alloc (ai (#[I 0,I 0,I 0,I 0,I 0,I 0,I 0,I 0,J 0,J 0,I 0,U false,U false,J 0]) j6)).drew (qL _ _ _ vp);clear jZ o8 tF;rcases aI with ⟨au,ax,aA⟩|⟨au,ax⟩
      · have mC:(p.mode !=1)=false:=by rw[au];rfl
        have dM:cS.toList.isEmpty=true:=Lv.out.trans (gx ax);have e6:lK.toList.isEmpty=true:=Lw.out.trans (gx aA);go_upto_region 14 with fail;go_region
        all_goals
          clear lq hc cX c7;go_wp2_with fail;go_ret;rw[←hF];exact⟨⟨bp.out.aM.trans (((bh W _).drew).mono bp.out.aM.size),rfl⟩,aK.c4 (aH.out.trans (((bh W _).drew).mono aH.out.size))⟩
      · have mC:(p.mode !=1)=true:=by rw[bne_iff_ne];exact au
        subst ax;go_upto_region 14 with fail;go_region
        all_goals
          clear lq hc cX c7;go_wp2_with fail;go_ret;rw[←hF];exact⟨⟨bp.out.aM.trans (((bh W _).drew).mono bp.out.aM.size),rfl⟩,aK.c4 (aH.out.trans (((bh W _).drew).mono aH.out.size))⟩
    |some a=>
      obtain⟨⟨⟨k,⟨a7,a'⟩,⟨aX,a8⟩,⟨dA,dB⟩,r,l⟩,s⟩,et,nW,jn,eg⟩:=a;obtain⟨ql,dl,qp,cf,eP,nn,rfl,ff,Fm,UM⟩:=aS;obtain⟨nl,eU⟩:∃n,l.length=n:=⟨_,rfl⟩;obtain⟨eA,oF⟩:∃n,s.len=n:=⟨_,rfl⟩;obtain⟨no,ji⟩:∃n,eg.length=n:=⟨_,rfl⟩;have lq:(Instr.lookup Fa (.map (some m)) (I p.pt) true).run Tryz.prog W.drew=.ok (.tuple #[.agg #[I k,I a7,I a',I aX,I a8,I dA,I dB,I r,ad ql nl dl,ad qp eA cf,I et,U nW,U jn,ad eP no nn],U true]) W.drew:=(by rw[←eU,←oF,←ji];exact jZ W.drew rfl);have hc:(Instr.lookup Fa (.map (some m)) (I p.pt) true).run Tryz.prog (W.alloc (ai (#[I 0,I 0,I 0,I 0,I 0,I 0,I 0,I 0,J 0,J 0,I 0,U false,U false,J 0]) j6)).drew=.ok (.tuple #[.agg #[I k,I a7,I a',I aX,I a8,I dA,I dB,I r,ad ql nl dl,ad qp eA cf,I et,U nW,U jn,ad eP no nn],U true]) (W.alloc (ai (#[I 0,I 0,I 0,I 0,I 0,I 0,I 0,I 0,J 0,J 0,I 0,U false,U false,J 0]) j6)).drew:=(by rw[←eU,←oF,←ji];exact jZ _ (qL _ _ _ vp));clear jZ ff Fm UM eU oF ji
      have dC : af ((if nW=false then .error 4 else if p.mode=1 then (if et=0 then .ok p else iv p p.fe (nB (uA p.at_ (tx,ty) et))) else
          if Ab (p.at_.1+bx,p.at_.2+bO) (if p.mode=2 then (tx,ty) else p.at_) (if p.mode=2 then p.at_ else (tx,ty))=false then .error 9 else if et=0 then .ok p else iv p p.fe (nB {fN with k:=5,a:=(if p.mode=2 then (tx,ty) else p.at_),b:=(if p.mode=2 then p.at_ else (tx,ty)),c:=(p.at_.1+bx,p.at_.2+bO),r:=et}))=res):=by
        show _=_;rw[←o8.out,bE.out];rcases aI with ⟨au,ax,aA⟩|⟨au,ax⟩
        · simp[au,ax,aA]
        · simp[au,ax]
      clear o8 tF;have fy:af (p.mode=1→ci=[]∧t'=[]):=fun h=>by rcases aI with ⟨_,ax,aA⟩|⟨au,_⟩;exact⟨ax,aA⟩;exact absurd h au
      have bN:af (p.mode≠1→H3=true):=fun h=>by rcases aI with ⟨au,_⟩|⟨_,ax⟩;exact absurd au h;exact ax
      clear aI;obtain⟨fo,mC⟩:∃b,(p.mode !=1)=b:=⟨_,rfl⟩;have dM:fo=false→cS.toList.isEmpty=true:=fun h=>Lv.out.trans (gx (fy.out (by rw[h] at mC;simpa using mC)).1);have e6:fo=false→lK.toList.isEmpty=true:=fun h=>Lw.out.trans (gx (fy.out (by rw[h] at mC;simpa using mC)).2);have cY:fo=true→H3=true:=fun h=>bN.out (by rw[h] at mC;simpa using mC);cases fo
      all_goals
        first
          |(have dM:=dM rfl;have e6:=e6 rfl;clear cY)
          |(obtain rfl:=cY rfl;clear dM e6)
        go_upto_region 14 with fail;go_cut [10,11] (fun a b cq=>a=.pointer (some (aj W.heap.size 0))∧b=U true∧(W.alloc (ai (#[I k,I a7,I a',I aX,I a8,I dA,I dB,I r,ad ql nl dl,ad qp eA cf,I et,U nW,U jn,ad eP no nn]) j6)).drew=cq)
        case first=>
          go_region;all_goals go_wp2_with fail
          all_goals go_meet
          all_goals exact⟨rfl,rfl,rfl⟩
        case rest=>
          obtain⟨rfl,rfl,rfl⟩:=hcut;have bW:=ao (bp.out.below ((bh W (ai (#[I k,I a7,I a',I aX,I a8,I dA,I dB,I r,ad ql nl dl,ad qp eA cf,I et,U nW,U jn,ad eP no nn]) j6)).drew));have sl:=ao (ba cc.out ((bh W (ai (#[I k,I a7,I a',I aX,I a8,I dA,I dB,I r,ad ql nl dl,ad qp eA cf,I et,U nW,U jn,ad eP no nn]) j6)).drew));have r6:=ao (ba aJ.out ((bh W (ai (#[I k,I a7,I a',I aX,I a8,I dA,I dB,I r,ad ql nl dl,ad qp eA cf,I et,U nW,U jn,ad eP no nn]) j6)).drew));have dO:af (an w w ((W.alloc (ai (#[I k,I a7,I a',I aX,I a8,I dA,I dB,I r,ad ql nl dl,ad qp eA cf,I et,U nW,U jn,ad eP no nn]) j6)).drew)):=aH.out.trans (((bh W _).drew).mono aH.out.size);have o3:af ((W.alloc (ai (#[I k,I a7,I a',I aX,I a8,I dA,I dB,I r,ad ql nl dl,ad qp eA cf,I et,U nW,U jn,ad eP no nn]) j6)).drew.heap[W.heap.size]?=some (.cells #[I k,I a7,I a',I aX,I a8,I dA,I dB,I r,ad ql nl dl,ad qp eA cf,I et,U nW,U jn,ad eP no nn] j6)):=cR _ _;clear lq hc cX c7 dE mM nT d8 d9 oE vp bp aH b9 cc aJ;generalize (W.alloc (ai (#[I k,I a7,I a',I aX,I a8,I dA,I dB,I r,ad ql nl dl,ad qp eA cf,I et,U nW,U jn,ad eP no nn]) j6)).drew=dZ at bW sl r6 dO o3⊢;obtain⟨T,dm⟩:∃T,W.heap.size=T:=⟨_,rfl⟩;rw[dm] at o3⊢;clear dm;have tZ:dZ.cell? ⟨T,10,none⟩=some (I et):=cell_of (i:=10) o3.out rfl;have amG:dZ.cell? ⟨T,11,none⟩=some (U nW):=cell_of (i:=11) o3.out rfl;have bB:dZ.cell? ⟨P,9,none⟩=some (I p.at_.1):=cell_of (i:=9) bW.out.pl rfl;have di:dZ.cell? ⟨P,10,none⟩=some (I p.at_.2):=cell_of (i:=10) bW.out.pl rfl;have dE:dZ.cell? ⟨P,11,none⟩=some (I p.mode):=cell_of (i:=11) bW.out.pl rfl;obtain⟨e9,aY⟩:=CQ sl.out;cases nW with
          |false=>
            have hF: .error 4=res:=dC.out;go_wp2_with fail;go_ret;rw[←hF];exact⟨⟨bW.out.aM,rfl⟩,aK.c4 dO.out⟩
          |true=>
            have oE:=lt_of_heap bW.out.pl;have amH:=lt_of_heap o3.out;have abl:=lt_of_heap sl.out;go_upto_region 17 with fail;go_cut [12] (fun a cq=>a=.pointer (some (aj dZ.heap.size 0))∧(dZ.alloc (ai (#[I 3,I p.at_.1,I p.at_.2,I tx,I ty,I 0,I 0,I et,J 0,J 0]) cQ)).drew=cq)
            case first=>
              go_region;all_goals go_wp2_with fail
              all_goals go_meet
              all_goals exact⟨rfl,rfl⟩
            case rest=>
              obtain⟨rfl,rfl⟩:=hcut;have k6:an dZ dZ ((dZ.alloc (ai (#[I 3,I p.at_.1,I p.at_.2,I tx,I ty,I 0,I 0,I et,J 0,J 0]) cQ)).drew):=(bh dZ (ai (#[I 3,I p.at_.1,I p.at_.2,I tx,I ty,I 0,I 0,I et,J 0,J 0]) cQ)).drew;have eW:af (an w w ((dZ.alloc (ai (#[I 3,I p.at_.1,I p.at_.2,I tx,I ty,I 0,I 0,I et,J 0,J 0]) cQ)).drew)):=dO.out.trans (k6.mono dO.out.size);have pS:af ((dZ.alloc (ai (#[I 3,I p.at_.1,I p.at_.2,I tx,I ty,I 0,I 0,I et,J 0,J 0]) cQ)).drew.heap[dZ.heap.size]?=some (.cells #[I 3,I p.at_.1,I p.at_.2,I tx,I ty,I 0,I 0,I et,J 0,J 0] cQ)):=cR _ _;have x7:=ao (ba o3.out k6);have r7:=ao (ba r6.out k6);have tt:=ao (bW.out.below k6);have CS:af (w.heap.size≤dZ.heap.size):=dO.out.size;have Cw:af (D+1+1<dZ.heap.size):=lt_of_heap r6.out;have x8:af (T<dZ.heap.size):=lt_of_heap o3.out;clear k6 tZ amG bB di dE e9 aY oE amH abl bW sl r6 dO o3;generalize (dZ.alloc (ai (#[I 3,I p.at_.1,I p.at_.2,I tx,I ty,I 0,I 0,I et,J 0,J 0]) cQ)).drew=X at eW pS x7 r7 tt⊢;obtain⟨gT,wy⟩:∃T,dZ.heap.size=T:=⟨_,rfl⟩;rw[wy] at pS CS Cw x8⊢;clear wy;have tZ:X.cell? ⟨T,10,none⟩=some (I et):=cell_of (i:=10) x7.out rfl;have dE:X.cell? ⟨P,11,none⟩=some (I p.mode):=cell_of (i:=11) tt.out.pl rfl;have lZ:X.cell? ⟨P,13,none⟩=some (U p.fe):=cell_of (i:=13) tt.out.pl rfl
              first
                | (have fX:p.mode=1:=by simpa using mC
                   have Ls:af (an bk bk X):=dY.out.trans (eW.out.mono dY.out.size);have fz:af ((if et=0 then .ok p else iv p p.fe (nB (uA p.at_ (tx,ty) et)))=res):=(by show _=_;rw[←dC.out];simp[fX]);clear dC;by_cases A2:et=0
                   · have hF: .ok p=res:=by rw[←fz.out,aW A2]
                     subst A2;go_wp2_with fail;go_ret;rw[←hF];exact⟨gi.nR rfl tt.out,aK.c4 eW.out⟩
                   · have amI:(et==0)=false:=beq_eq_false_iff_ne.2 A2
                     have uJ:af (iv p p.fe (nB (uA p.at_ (tx,ty) et))=res):=(by show _=_;rw[←fz.out,aN A2]);have bn:=ao (tY.out.fresh Ls.out);have mz:∀Z,an X X Z→Calls Tryz.prog 121 #[ah P 0,U p.fe,.agg #[I 3,I p.at_.1,I p.at_.2,I tx,I ty,I 0,I 0,I et,J 0,J 0]] Z fun e w'=>gi w0 P res e w'∧aK (fun k=>bk.heap.size≤k) w w':=(by intro Z cN;have au:=Pm w0 P _ m L fu cv ov cx ox p p.fe (uA p.at_ (tx,ty) et) .nil none 0 none 0 Z (bn.out.below cN) (dw.bare _ _ none none (uA p.at_ (tx,ty) et) 0 0 rfl) bH.out.aD bH.out.HX bH.out.x5 res uJ;exact au.mono fun e w' h=>⟨h.res,aK.two (eW.out.trans (cN.mono eW.out.size)) h.2.1 fun k aw az=>.inr ⟨aw,hN az eW.out.size⟩⟩);have cJ:=ao mz;clear mz fz uJ;obtain⟨s0,s1,s2,kV,l1,l2,l3,l4,l5,l6⟩:=dQ pS.out;go_upto_region 27 with fail
                     go_region_law (first|(rw[aW (by rfl)];go_simp;go_at_call 121;with_reducible refine (cJ.out _ ((Below.refl _ _).drew)).mono ?_;intro e b' c6;obtain⟨v6,rfl⟩:=c6.1.ret)|fail)
                     all_goals
                       clear s0 s1 s2 kV l1 l2 l3 l4 l5 l6 lZ dE tZ;go_wp2_with fail;go_ret;exact c6)
                | (have fX:¬p.mode=1:=by simpa using mC
                   have f0:=dc pS.out 0;obtain⟨s0,s1,s2,kV,l1,l2,l3,l4,l5,l6⟩:=dQ pS.out;go_upto_region 20 with fail;have rR:af ((X.setCell (aj gT 0) (I 5)).heap[gT]?=some (.cells #[I 5,I p.at_.1,I p.at_.2,I tx,I ty,I 0,I 0,I et,J 0,J 0] cQ)):=(by have:=dt (i:=0) (I 5) pS.out;exact this);have bT:af (an w w (X.setCell (aj gT 0) (I 5))):=eW.out.setCell (p:=⟨gT,0,none⟩) CS.out _;have Lx:af ((X.setCell (aj gT 0) (I 5)).heap[D+1+1]?=some (.cells #[I bx,I bO] de)):=(lT (by have:=Cw.out;omega)).trans r7.out;have nX:af ((X.setCell (aj gT 0) (I 5)).heap[T]?=some (.cells #[I k,I a7,I a',I aX,I a8,I dA,I dB,I r,ad ql nl dl,ad qp eA cf,I et,U true,U jn,ad eP no nn] j6)):=(lT (by have:=x8.out;omega)).trans x7.out;clear f0 s0 s1 s2 kV l1 l2 l3 l4 l5 l6 tZ dE lZ tt x7 r7 pS eW;generalize X.setCell (aj gT 0) (I 5)=A3 at rR bT Lx nX⊢;obtain⟨z1,dv⟩:∃z,p.at_.1+bx=z:=⟨_,rfl⟩;obtain⟨z2,dx⟩:∃z,p.at_.2+bO=z:=⟨_,rfl⟩;have aU:=ao (And.intro dv dx);have ry:ae (p.at_.1+bx)=z1:=(by have au:=bH.out.at_;have ax:=UY.out;unfold nU at au ax;simp only at ax;rw[gw _ (by omega)];exact dv);have x4:ae (p.at_.2+bO)=z2:=(by have au:=bH.out.at_;have ax:=UY.out;unfold nU at au ax;simp only at ax;rw[gw _ (by omega)];exact dx);have x9:=ao (tY.out.below (dY.out.trans (bT.out.mono dY.out.size)));have bB:A3.cell? ⟨P,9,none⟩=some (I p.at_.1):=cell_of (i:=9) x9.out.pl rfl;have di:A3.cell? ⟨P,10,none⟩=some (I p.at_.2):=cell_of (i:=10) x9.out.pl rfl;obtain⟨e9,aY⟩:=CQ Lx.out;obtain⟨s0,s1,s2,kV,l1,l2,l3,l4,l5,l6⟩:=dQ rR.out;have f5:=dc rR.out 5;have f6:=dc rR.out 6;clear dv dx;go_cut [] (fun cq=>((A3.setCell (aj gT 5) (I z1)).setCell (aj gT 6) (I z2)).drew=cq)
                   case first=>
                     go_region;all_goals go_wp2_with fail
                     all_goals go_meet
                     all_goals rfl
                   case rest=>
                     obtain rfl:=hcut;have jo:af (((A3.setCell (aj gT 5) (I z1)).setCell (aj gT 6) (I z2)).drew.heap[gT]?=some (.cells #[I 5,I p.at_.1,I p.at_.2,I tx,I ty,I z1,I z2,I et,J 0,J 0] cQ)):=(by have:=dt (i:=6) (I z2) (dt (i:=5) (I z1) rR.out);exact this);have fE:af (an w w (((A3.setCell (aj gT 5) (I z1)).setCell (aj gT 6) (I z2)).drew)):=((bT.out.setCell (p:=⟨gT,5,none⟩) CS.out _).setCell (p:=⟨gT,6,none⟩) CS.out _).drew;have CT:af (((A3.setCell (aj gT 5) (I z1)).setCell (aj gT 6) (I z2)).drew.heap[T]?=some (.cells #[I k,I a7,I a',I aX,I a8,I dA,I dB,I r,ad ql nl dl,ad qp eA cf,I et,U true,U jn,ad eP no nn] j6)):=(lT (by have:=x8.out;omega)).trans ((lT (by have:=x8.out;omega)).trans nX.out);clear bB di e9 aY s0 s1 s2 kV l1 l2 l3 l4 l5 l6 f5 f6 ry x4 x9 rR bT Lx nX;generalize ((A3.setCell (aj gT 5) (I z1)).setCell (aj gT 6) (I z2)).drew=j3 at jo fE CT⊢;obtain⟨⟨eu,eO⟩,hx⟩:∃x:b7,(if p.mode=2 then (tx,ty) else p.at_)=x:=⟨_,rfl⟩;obtain⟨⟨c0,ee⟩,hy⟩:∃x:b7,(if p.mode=2 then p.at_ else (tx,ty))=x:=⟨_,rfl⟩;have fz:af ((if Ab (z1,z2) (eu,eO) (c0,ee)=false then .error 9 else if et=0 then .ok p else iv p p.fe (nB {fN with k:=5,a:=(eu,eO),b:=(c0,ee),c:=(z1,z2),r:=et}))=res):=by show _=_;rw[←dC.out,aN (show ¬(true=false) by decide),aN fX,aU.out.1,aU.out.2,hx,hy]
                     have so:af (nU (eu,eO)∧nU (c0,ee)):=by
                       show _∧_;rw[←hx,←hy];by_cases h:p.mode=2
                       · rw[aW h,aW h];exact⟨abA.out,bH.out.at_⟩
                       · rw[aN h,aN h];exact⟨bH.out.at_,abA.out⟩
                     have Fs:=ao (tY.out.below (dY.out.trans (fE.out.mono dY.out.size)));have dE:j3.cell? ⟨P,11,none⟩=some (I p.mode):=cell_of (i:=11) Fs.out.pl rfl;clear dC;by_cases jH:p.mode=2
                     all_goals
                       first
                         | (rw[aW jH] at hx hy
                            obtain⟨aY,a6⟩:=Prod.mk.inj hx;rw[hy,aY,a6] at jo;clear hx hy aY a6;simp only at jo;obtain⟨s0,s1,s2,kV,l1,l2,l3,l4,l5,l6⟩:=dQ jo.out;have f1:=dc jo.out 1;have f2:=dc jo.out 2;have f3:=dc jo.out 3;have f4:=dc jo.out 4;have amJ:(p.mode==2)=true:=(by rw[jH];rfl);go_upto_region 23 with fail;clear f1 f2 f3 f4;have oH:af (((((j3.setCell (aj gT 1) (I eu)).setCell (aj gT 2) (I eO)).setCell (aj gT 3) (I c0)).setCell (aj gT 4) (I ee)).heap[gT]?=some (.cells #[I 5,I eu,I eO,I c0,I ee,I z1,I z2,I et,J 0,J 0] cQ)):=(by have:=dt (i:=4) (I ee) (dt (i:=3) (I c0) (dt (i:=2) (I eO) (dt (i:=1) (I eu) jo.out)));exact this);have mS:af (an w w ((((j3.setCell (aj gT 1) (I eu)).setCell (aj gT 2) (I eO)).setCell (aj gT 3) (I c0)).setCell (aj gT 4) (I ee))):=(((fE.out.setCell (p:=⟨gT,1,none⟩) CS.out _).setCell (p:=⟨gT,2,none⟩) CS.out _).setCell (p:=⟨gT,3,none⟩) CS.out _).setCell (p:=⟨gT,4,none⟩) CS.out _;have Ly:af (((((j3.setCell (aj gT 1) (I eu)).setCell (aj gT 2) (I eO)).setCell (aj gT 3) (I c0)).setCell (aj gT 4) (I ee)).heap[T]?=some (.cells #[I k,I a7,I a',I aX,I a8,I dA,I dB,I r,ad ql nl dl,ad qp eA cf,I et,U true,U jn,ad eP no nn] j6)):=(lT (by have:=x8.out;omega)).trans ((lT (by have:=x8.out;omega)).trans ((lT (by have:=x8.out;omega)).trans ((lT (by have:=x8.out;omega)).trans CT.out)));clear s0 s1 s2 kV l1 l2 l3 l4 l5 l6 dE jo fE CT Fs;generalize ((((j3.setCell (aj gT 1) (I eu)).setCell (aj gT 2) (I eO)).setCell (aj gT 3) (I c0)).setCell (aj gT 4) (I ee))=A4 at oH mS Ly⊢)
                         | (rw[aN jH] at hx hy
                            obtain⟨aY,a6⟩:=Prod.mk.inj hy;rw[hx,aY,a6] at jo;clear hx hy aY a6;simp only at jo;obtain⟨s0,s1,s2,kV,l1,l2,l3,l4,l5,l6⟩:=dQ jo.out;have amJ:(p.mode==2)=false:=beq_eq_false_iff_ne.2 jH;go_upto_region 23 with fail;have oH:=jo;have mS:=fE;have Ly:=CT;clear s0 s1 s2 kV l1 l2 l3 l4 l5 l6 dE jo fE CT Fs;generalize j3=A4 at oH mS Ly⊢)
                     all_goals
                       obtain⟨s0,s1,s2,kV,l1,l2,l3,l4,l5,l6⟩:=dQ oH.out;obtain⟨q,aG⟩:∃b,Ab (z1,z2) (eu,eO) (c0,ee)=b:=⟨_,rfl⟩;have bn:=ao aG;have uJ:af ((if q=false then .error 9 else if et=0 then .ok p else iv p p.fe (nB {fN with k:=5,a:=(eu,eO),b:=(c0,ee),c:=(z1,z2),r:=et}))=res):=(by show _=_;rw[←fz.out,aG]);have lf:af ((-1073741824≤z1∧z1≤1073741824)∧(-1073741824≤z2∧z2≤1073741824)):=(by have au:=bH.out.at_;have ax:=UY.out;have aA:=aU.out;unfold nU at au ax;simp only at ax;show _∧_;omega);clear aG fz;have abB:af (∀Z,Calls Tryz.prog 163 #[.agg #[I z1,I z2],.agg #[I eu,I eO],.agg #[I c0,I ee]] Z fun r w'=>r=ab (U q)∧an Z Z w'):=(by intro Z;have au:=lf.out;have ax:=so.out;unfold nU at ax;simp only at ax;exact X6 (z1,z2) (eu,eO) (c0,ee) (by unfold e5;simp only;omega) (by unfold e5;simp only;omega) (by unfold e5;simp only;omega) (by unfold oQ;simp only;omega) (by unfold oQ;simp only;omega) (by unfold oQ;simp only;omega) (by unfold oQ;simp only;omega) q bn Z);go_wp2_with fail;with_reducible refine (abB.out _).mono ?_
                       rintro e sD ⟨rfl,jP⟩;have oI:af (an w w sD):=mS.out.trans (jP.mono mS.out.size);have amK:=ao (ba Ly.out jP);have Pw:=ao (ba oH.out jP);clear s0 s1 s2 kV l1 l2 l3 l4 l5 l6 jP mS Ly oH abB;have Ls:af (an bk bk sD):=dY.out.trans (oI.out.mono dY.out.size);have Px:=ao (tY.out.fresh Ls.out);cases q with
                       |false=>
                         have hF: .error 9=res:=uJ.out;go_wp2_with fail;go_ret;rw[←hF];exact⟨⟨Px.out.aM,rfl⟩,aK.c4 oI.out⟩
                       |true=>
                         have tZ:sD.cell? ⟨T,10,none⟩=some (I et):=cell_of (i:=10) amK.out rfl;have tu:af ((if et=0 then .ok p else iv p p.fe (nB {fN with k:=5,a:=(eu,eO),b:=(c0,ee),c:=(z1,z2),r:=et}))=res):=uJ.out;clear uJ;by_cases A2:et=0
                         · have hF: .ok p=res:=by rw[←tu.out,aW A2]
                           subst A2;go_wp2_with fail;go_ret;rw[←hF];exact⟨gi.nR rfl Px.out,aK.c4 oI.out⟩
                         · have amI:(et==0)=false:=beq_eq_false_iff_ne.2 A2
                           have sf:af (iv p p.fe (nB {fN with k:=5,a:=(eu,eO),b:=(c0,ee),c:=(z1,z2),r:=et})=res):=(by show _=_;rw[←tu.out,aN A2]);have lZ:sD.cell? ⟨P,13,none⟩=some (U p.fe):=cell_of (i:=13) Px.out.pl rfl;have mz:∀Z,an sD sD Z→Calls Tryz.prog 121 #[ah P 0,U p.fe,.agg #[I 5,I eu,I eO,I c0,I ee,I z1,I z2,I et,J 0,J 0]] Z fun e w'=>gi w0 P res e w'∧aK (fun k=>bk.heap.size≤k) w w':=(by intro Z cN;have au:=Pm w0 P _ m L fu cv ov cx ox p p.fe {fN with k:=5,a:=(eu,eO),b:=(c0,ee),c:=(z1,z2),r:=et} .nil none 0 none 0 Z (Px.out.below cN) (dw.bare _ _ none none {fN with k:=5,a:=(eu,eO),b:=(c0,ee),c:=(z1,z2),r:=et} 0 0 rfl) bH.out.aD bH.out.HX bH.out.x5 res sf;exact au.mono fun e w' h=>⟨h.res,aK.two (oI.out.trans (cN.mono oI.out.size)) h.2.1 fun k aw az=>.inr ⟨aw,hN az oI.out.size⟩⟩);have cJ:=ao mz;clear mz tu sf;obtain⟨s0,s1,s2,kV,l1,l2,l3,l4,l5,l6⟩:=dQ Pw.out;go_upto_region 27 with fail
                           go_region_law (first|(rw[aW (by rfl)];go_simp;go_at_call 121;with_reducible refine (cJ.out _ ((Below.refl _ _).drew)).mono ?_;intro e b' c6;obtain⟨v6,rfl⟩:=c6.1.ret)|fail)
                           all_goals
                             clear s0 s1 s2 kV l1 l2 l3 l4 l5 l6 lZ tZ;go_wp2_with fail;go_ret;exact c6)
  · by_cases hm:p.mode=1
    · have mC:(p.mode !=1)=false:=by rw[hm];rfl
      by_cases Py:ci=[]∧t'=[]
      · obtain⟨rfl,rfl⟩:=Py
        cases rg with
        |false=>exact absurd ⟨rfl,.inl ⟨hm,rfl,rfl⟩⟩ aI
        |true=>
          have CU:p.bQ=[]:=by
            cases aB:p.bQ with
            |nil=>rfl
            |cons a l=>exact absurd ⟨hm,tX.out,by rw[aB];simp,rfl,rfl⟩ tF.out
          have a1:=bp.out.bg.own;obtain⟨q,d,rfl⟩:=iw a1;have wM:W.cell? ⟨P,20,none⟩=some (ad q 0 d):=(by have h:W.cell? ⟨P,20,none⟩=some (ad q p.bQ.length d):=cell_of (i:=20) bp.out.pl rfl;rw[CU] at h;exact h);have hF: .error 4=res:=(by rw[←o8.out];simp[hm,CU]);have dM:cS.toList.isEmpty=true:=Lv.out;have e6:lK.toList.isEmpty=true:=Lw.out;clear a1 o8 tF;go_wp2_with fail;go_ret;rw[←hF];exact⟨⟨bp.out.aM,rfl⟩,aK.c4 aH.out⟩
      · have hF: .error 4=res:=by rw[←o8.out,aN (fun h=>h.1 hm),aN (fun h=>h.1 hm),aW];exact⟨hm,by rcases Classical.em (ci=[]) with h|h;exact .inr fun ax=>Py ⟨h,ax⟩;exact .inl h⟩
        have dM:=Lv.out;have e6:=Lw.out;clear o8 tF;by_cases rH:ci=[]
        · have CV:¬t'=[]:=fun h=>Py ⟨rH,h⟩
          rw[gx rH] at dM;rw[fJ CV] at e6;go_wp2_with fail;go_ret;rw[←hF];exact⟨⟨bp.out.aM,rfl⟩,aK.c4 aH.out⟩
        · rw[fJ rH] at dM
          go_wp2_with fail;go_ret;rw[←hF];exact⟨⟨bp.out.aM,rfl⟩,aK.c4 aH.out⟩
    · have mC:(p.mode !=1)=true:=by rw[bne_iff_ne];exact hm
      cases rg with
      |true=>
        have hF: .error 8=res:=(by rw[←o8.out];simp[hm]);clear o8 tF;go_wp2_with fail;go_ret;rw[←hF];exact⟨⟨bp.out.aM,rfl⟩,aK.c4 aH.out⟩
      |false=>
        cases H3 with
        |true=>exact absurd ⟨rfl,.inr ⟨hm,rfl⟩⟩ aI
        |false=>
          have hF: .error 4=res:=(by rw[←o8.out];simp[hm]);clear o8 tF;go_wp2_with fail;go_ret;rw[←hF];exact⟨⟨bp.out.aM,rfl⟩,aK.c4 aH.out⟩
end c1
