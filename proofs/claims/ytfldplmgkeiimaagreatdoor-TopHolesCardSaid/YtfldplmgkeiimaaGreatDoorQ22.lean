/- Lemmas. -/
import Derived.Test.YtfldplmgkeiimaaGreatDoorQ21
set_option linter.all false
set_option maxRecDepth 100000
set_option maxHeartbeats 12800000
namespace Go.Proofs.YtfldplmgkeiimaaGreatDoor
abbrev FX:=@Int.natAbs_mul
abbrev DC:=@Int.natAbs_natCast
abbrev FY:=@Proofs.Tryz.func140
abbrev FZ:=@Proofs.Tryz.ntmps140
abbrev LX:=@Proofs.Tryz.func150
abbrev LY:=@Proofs.Tryz.ntmps150
namespace dE
open Go.RowKit el
open cf (C)
open jj (kd jk)
theorem Vr(l:bk):(⟨l.toArray⟩:aia).toList.isEmpty=decide (l=[]):=by rw[oY];cases l<;>simp
theorem anG(w0:bTo)(P:Nat)(p:cG)(c:C)(ca:Int)(dd bv:ada)(tx ty bz bK:Int)(bE w:bTo)(H:J (lF w0 P p bE))(dC:J (av bE bE w))(hs:FT p)(bx:nX p)(acA:rU (tx,ty))(acB:rU (bz,bK))(res:Except Nat cG)(dk:J (wE p c (tx,ty) (bz,bK)=res)):
    Calls Tryz.prog 147 #[dv P 0,kd c ca dd bv,.agg #[I tx,I ty],.agg #[I bz,I bK]] w fun e w'=>fm w0 P res e w'∧aL (fun k=>bE.heap.size≤k) w w':=by
  obtain⟨cN,cn,cC,db,bj,eM,eN,ci,qW,c7,hq⟩:=c;by_cases Vs:p.mode=1∧p.region=true∧p.bO≠[]∧ci=[]∧qW=[]
  · obtain⟨aa,ah,ax,rfl,rfl⟩:=Vs
    have hF: .ok {p with bO:=mc p.bO (tx,ty)}=res:=(by rw[←dk.out];unfold wE;simp[aa,ah,ax]);rw[←hF];exact anl w0 P p ca cN cn cC db ⟨bj.toArray⟩ ⟨eM.toArray⟩ ⟨eN.toArray⟩ dd bv tx ty bz bK bE w H dC hs aa ah ax
  show Calls _ _ #[dv P 0,.agg #[I ca,I cN,I cn,I cC,ai db,au ⟨bj.toArray⟩,au ⟨eM.toArray⟩,au ⟨eN.toArray⟩,au ⟨ci.toArray⟩,au ⟨qW.toArray⟩,dd,bv],.agg #[I tx,I ty],.agg #[I bz,I bK]] w _;obtain⟨R,m,L,fu,cv,ov,cx,ox,h⟩:=H.out;have og:=U h;have H1:=U (h.below dC.out);have cF:=U bx;have bq:=U hs;have LZ:=U acA;have L0:=U acB;have sD:=U Vs;obtain⟨rg,qs⟩:∃r,p.region=r:=⟨_,rfl⟩;have sV:=U qs;obtain⟨Iy,Vt⟩:∃r,p.ED=r:=⟨_,rfl⟩;have anH:=U Vt;have L1:=U (Vr ci);have L2:=U (Vr qW)
  have mN : J ((if p.mode≠1∧rg=true then .error 8 else if p.mode≠1∧Iy=false then .error 4 else if p.mode=1∧(ci≠[]∨qW≠[]) then .error 4 else if rg=true then (if p.bO=[] then .error 4 else .ok {p with bO:=mc p.bO (tx,ty)}) else match p.iX p.pr with
    |none=>.error 4
    |some a=>if a.round=false then .error 4 else if p.mode=1 then (if a.r=0 then .ok p else iM p p.fe (gT (uL p.at_ (tx,ty) a.r))) else
      if xA (p.at_.1+bz,p.at_.2+bK) (if p.mode=2 then (tx,ty) else p.at_) (if p.mode=2 then p.at_ else (tx,ty))=false then .error 9 else if a.r=0 then .ok p else iM p p.fe (gT {hb with k:=5,a:=(if p.mode=2 then (tx,ty) else p.at_),b:=(if p.mode=2 then p.at_ else (tx,ty)),c:=(p.at_.1+bz,p.at_.2+bK),r:=a.r}))=res):=by
    show _=_;rw[←dk.out,←qs,←Vt];rfl
  generalize (⟨ci.toArray⟩:aia)=dO at L1⊢;generalize (⟨qW.toArray⟩:aia)=lH at L2⊢;clear h hs bx H qs Vt acA acB Vs dk;go_enter Tryz.func147,Tryz.ntmps147;go_upto_region 1 with fail;obtain⟨W,a6⟩:∃W,((w.alloc (aD (#[I ca,I cN,I cn,I cC,ai db,au ⟨bj.toArray⟩,au ⟨eM.toArray⟩,au ⟨eN.toArray⟩,au dO,au lH,dd,bv]) gP)).alloc (aD (#[I tx,I ty]) eE)).alloc (.cells #[I bz,I bK] eE)=W:=⟨_,rfl⟩;obtain⟨aa,ah,ax,af,hh⟩:=rb a6;have cI:=U aa;have bm:=U ah;have aE:=U ax;have aH:=U af;rw[a6];clear a6 aa ah ax af hh;have b9:=U (H1.out.below aH.out);obtain⟨D,bZ⟩:∃D,w.heap.size=D:=⟨_,rfl⟩;rw[bZ] at cI bm aE⊢;clear bZ H1;have dq:W.cell? ⟨P,11,none⟩=some (I p.mode):=cell_of (i:=11) b9.out.pl rfl;have sX:W.cell? ⟨P,12,none⟩=some (ai Iy):=(by rw[←anH.out];exact cell_of (i:=12) b9.out.pl rfl);have qt:W.cell? ⟨P,19,none⟩=some (ai rg):=(by rw[←sV.out];exact cell_of (i:=19) b9.out.pl rfl);have d8:W.cell? ⟨D,8,none⟩=some (au dO):=cell_of (i:=8) cI.out rfl;have d9:W.cell? ⟨D,9,none⟩=some (au lH):=cell_of (i:=9) cI.out rfl;by_cases aX:rg=false∧((p.mode=1∧ci=[]∧qW=[])∨(p.mode≠1∧Iy=true))
  · obtain⟨rfl,aX⟩:=aX
    have b1:W.cell? ⟨P,6,none⟩=some (.map (some m)):=cell_of (i:=6) b9.out.pl rfl;have b5:W.cell? ⟨P,7,none⟩=some (I p.pr):=cell_of (i:=7) b9.out.pl rfl;have qu:=lt_of_heap b9.out.pl;have vw:m<W.heap.size:=(by obtain⟨_,_,hm⟩:=b9.out.mp.map;exact lt_of_heap hm);obtain⟨v,la,aS⟩:=b9.out.mp.look p.pr;obtain⟨o,bl⟩:∃o,p.iX p.pr=o:=⟨_,rfl⟩;have b':=U bl;rw[bl] at la aS;clear bl;cases o with
    |none=>
      have aS:v=FI:=aS;subst aS
      have hF: .error 4=res:=by
        rw[←mN.out,b'.out];rcases aX with ⟨aa,ah,ax⟩|⟨aa,ah⟩
        · simp[aa,ah,ax]
        · simp[aa,ah]
      have mS:=la W.drew rfl;have kb:=la (W.alloc (aD (#[I 0,I 0,I 0,I 0,I 0,I 0,I 0,I 0,ay 0,ay 0,I 0,ai false,ai false,ay 0]) kf)).drew (Bo _ _ _ vw);clear la mN sD;rcases aX with ⟨aa,ah,ax⟩|⟨aa,ah⟩
      · have oU:(p.mode !=1)=false:=by rw[aa];rfl
        have eO:dO.toList.isEmpty=true:=L1.out.trans (eH ah);have fG:lH.toList.isEmpty=true:=L2.out.trans (eH ax);go_upto_region 14 with fail;go_region
        all_goals
          clear mS kb b1 b5;go_wp2_with fail;go_ret;rw[←hF];exact⟨⟨b9.out.aY.trans (((ba W _).drew).mono b9.out.aY.size),rfl⟩,aL.dM (aH.out.trans (((ba W _).drew).mono aH.out.size))⟩
      · have oU:(p.mode !=1)=true:=by rw[tt];exact aa
        subst ah;go_upto_region 14 with fail;go_region
        all_goals
          clear mS kb b1 b5;go_wp2_with fail;go_ret;rw[←hF];exact⟨⟨b9.out.aY.trans (((ba W _).drew).mono b9.out.aY.size),rfl⟩,aL.dM (aH.out.trans (((ba W _).drew).mono aH.out.size))⟩
    |some a=>
      obtain⟨⟨⟨k,⟨aA,aB⟩,⟨aU,aZ⟩,⟨eM,eN⟩,r,l⟩,s⟩,eZ,nY,mq,fk⟩:=a;obtain⟨ql,dl,qp,cL,eG,hC,rfl,eF,FV,Ve⟩:=aS;obtain⟨nl,gp⟩:∃n,l.length=n:=⟨_,rfl⟩;obtain⟨hJ,w3⟩:∃n,s.len=n:=⟨_,rfl⟩;obtain⟨no,ow⟩:∃n,fk.length=n:=⟨_,rfl⟩;have mS:(Instr.lookup FH (.map (some m)) (I p.pr) true).run Tryz.prog W.drew=.ok (.tuple #[.agg #[I k,I aA,I aB,I aU,I aZ,I eM,I eN,I r,ad ql nl dl,ad qp hJ cL,I eZ,ai nY,ai mq,ad eG no hC],ai true]) W.drew:=(by rw[←gp,←w3,←ow];exact la W.drew rfl);have kb:(Instr.lookup FH (.map (some m)) (I p.pr) true).run Tryz.prog (W.alloc (aD (#[I 0,I 0,I 0,I 0,I 0,I 0,I 0,I 0,ay 0,ay 0,I 0,ai false,ai false,ay 0]) kf)).drew=.ok (.tuple #[.agg #[I k,I aA,I aB,I aU,I aZ,I eM,I eN,I r,ad ql nl dl,ad qp hJ cL,I eZ,ai nY,ai mq,ad eG no hC],ai true]) (W.alloc (aD (#[I 0,I 0,I 0,I 0,I 0,I 0,I 0,I 0,ay 0,ay 0,I 0,ai false,ai false,ay 0]) kf)).drew:=(by rw[←gp,←w3,←ow];exact la _ (Bo _ _ _ vw));clear la eF FV Ve gp w3 ow
      have eg : J ((if nY=false then .error 4 else if p.mode=1 then (if eZ=0 then .ok p else iM p p.fe (gT (uL p.at_ (tx,ty) eZ))) else
          if xA (p.at_.1+bz,p.at_.2+bK) (if p.mode=2 then (tx,ty) else p.at_) (if p.mode=2 then p.at_ else (tx,ty))=false then .error 9 else if eZ=0 then .ok p else iM p p.fe (gT {hb with k:=5,a:=(if p.mode=2 then (tx,ty) else p.at_),b:=(if p.mode=2 then p.at_ else (tx,ty)),c:=(p.at_.1+bz,p.at_.2+bK),r:=eZ}))=res):=by
        show _=_;rw[←mN.out,b'.out];rcases aX with ⟨aa,ah,ax⟩|⟨aa,ah⟩
        · simp[aa,ah,ax]
        · simp[aa,ah]
      clear mN sD;have fv:J (p.mode=1→ci=[]∧qW=[]):=fun h=>by rcases aX with ⟨_,ah,ax⟩|⟨aa,_⟩;exact⟨ah,ax⟩;exact absurd h aa
      have bB:J (p.mode≠1→Iy=true):=fun h=>by rcases aX with ⟨aa,_⟩|⟨_,ah⟩;exact absurd aa h;exact ah
      clear aX;obtain⟨Qa,oU⟩:∃b,(p.mode !=1)=b:=⟨_,rfl⟩;have eO:Qa=false→dO.toList.isEmpty=true:=fun h=>L1.out.trans (eH (fv.out (by rw[h] at oU;simpa using oU)).1);have fG:Qa=false→lH.toList.isEmpty=true:=fun h=>L2.out.trans (eH (fv.out (by rw[h] at oU;simpa using oU)).2);have ea:Qa=true→Iy=true:=fun h=>bB.out (by rw[h] at oU;simpa using oU);cases Qa
      all_goals
        first
          |(have eO:=eO rfl;have fG:=fG rfl;clear ea)
          |(obtain rfl:=ea rfl;clear eO fG)
        go_upto_region 14 with fail;go_cut [10,11] (fun a b fT=>a=.pointer (some (ag W.heap.size 0))∧b=ai true∧(W.alloc (aD (#[I k,I aA,I aB,I aU,I aZ,I eM,I eN,I r,ad ql nl dl,ad qp hJ cL,I eZ,ai nY,ai mq,ad eG no hC]) kf)).drew=fT)
        case first=>
          go_region;all_goals go_wp2_with fail
          all_goals go_meet
          all_goals exact⟨rfl,rfl,rfl⟩
        case rest=>
          obtain⟨rfl,rfl,rfl⟩:=hcut;have cS:=U (b9.out.below ((ba W (aD (#[I k,I aA,I aB,I aU,I aZ,I eM,I eN,I r,ad ql nl dl,ad qp hJ cL,I eZ,ai nY,ai mq,ad eG no hC]) kf)).drew));have qL:=U (aO bm.out ((ba W (aD (#[I k,I aA,I aB,I aU,I aZ,I eM,I eN,I r,ad ql nl dl,ad qp hJ cL,I eZ,ai nY,ai mq,ad eG no hC]) kf)).drew));have p7:=U (aO aE.out ((ba W (aD (#[I k,I aA,I aB,I aU,I aZ,I eM,I eN,I r,ad ql nl dl,ad qp hJ cL,I eZ,ai nY,ai mq,ad eG no hC]) kf)).drew));have dx:J (av w w ((W.alloc (aD (#[I k,I aA,I aB,I aU,I aZ,I eM,I eN,I r,ad ql nl dl,ad qp hJ cL,I eZ,ai nY,ai mq,ad eG no hC]) kf)).drew)):=aH.out.trans (((ba W _).drew).mono aH.out.size);have qV:J ((W.alloc (aD (#[I k,I aA,I aB,I aU,I aZ,I eM,I eN,I r,ad ql nl dl,ad qp hJ cL,I eZ,ai nY,ai mq,ad eG no hC]) kf)).drew.heap[W.heap.size]?=some (.cells #[I k,I aA,I aB,I aU,I aZ,I eM,I eN,I r,ad ql nl dl,ad qp hJ cL,I eZ,ai nY,ai mq,ad eG no hC] kf)):=cw _ _;clear mS kb b1 b5 dq sX qt d8 d9 qu vw b9 aH cI bm aE;generalize (W.alloc (aD (#[I k,I aA,I aB,I aU,I aZ,I eM,I eN,I r,ad ql nl dl,ad qp hJ cL,I eZ,ai nY,ai mq,ad eG no hC]) kf)).drew=c6 at cS qL p7 dx qV⊢;obtain⟨T,fh⟩:∃T,W.heap.size=T:=⟨_,rfl⟩;rw[fh] at qV⊢;clear fh;have Aj:c6.cell? ⟨T,10,none⟩=some (I eZ):=cell_of (i:=10) qV.out rfl;have anI:c6.cell? ⟨T,11,none⟩=some (ai nY):=cell_of (i:=11) qV.out rfl;have bf:c6.cell? ⟨P,9,none⟩=some (I p.at_.1):=cell_of (i:=9) cS.out.pl rfl;have cy:c6.cell? ⟨P,10,none⟩=some (I p.at_.2):=cell_of (i:=10) cS.out.pl rfl;have dq:c6.cell? ⟨P,11,none⟩=some (I p.mode):=cell_of (i:=11) cS.out.pl rfl;obtain⟨cJ,aN⟩:=DA qL.out;cases nY with
          |false=>
            have hF: .error 4=res:=eg.out;go_wp2_with fail;go_ret;rw[←hF];exact⟨⟨cS.out.aY,rfl⟩,aL.dM dx.out⟩
          |true=>
            have qu:=lt_of_heap cS.out.pl;have anJ:=lt_of_heap qV.out;have ach:=lt_of_heap qL.out;go_upto_region 17 with fail;go_cut [12] (fun a fT=>a=.pointer (some (ag c6.heap.size 0))∧(c6.alloc (aD (#[I 3,I p.at_.1,I p.at_.2,I tx,I ty,I 0,I 0,I eZ,ay 0,ay 0]) dh)).drew=fT)
            case first=>
              go_region;all_goals go_wp2_with fail
              all_goals go_meet
              all_goals exact⟨rfl,rfl⟩
            case rest=>
              obtain⟨rfl,rfl⟩:=hcut;have gB:av c6 c6 ((c6.alloc (aD (#[I 3,I p.at_.1,I p.at_.2,I tx,I ty,I 0,I 0,I eZ,ay 0,ay 0]) dh)).drew):=(ba c6 (aD (#[I 3,I p.at_.1,I p.at_.2,I tx,I ty,I 0,I 0,I eZ,ay 0,ay 0]) dh)).drew;have mM:J (av w w ((c6.alloc (aD (#[I 3,I p.at_.1,I p.at_.2,I tx,I ty,I 0,I 0,I eZ,ay 0,ay 0]) dh)).drew)):=dx.out.trans (gB.mono dx.out.size);have sW:J ((c6.alloc (aD (#[I 3,I p.at_.1,I p.at_.2,I tx,I ty,I 0,I 0,I eZ,ay 0,ay 0]) dh)).drew.heap[c6.heap.size]?=some (.cells #[I 3,I p.at_.1,I p.at_.2,I tx,I ty,I 0,I 0,I eZ,ay 0,ay 0] dh)):=cw _ _;have HE:=U (aO qV.out gB);have sb:=U (aO p7.out gB);have lz:=U (cS.out.below gB);have DD:J (w.heap.size≤c6.heap.size):=dx.out.size;have acC:J (D+1+1<c6.heap.size):=lt_of_heap p7.out;have rV:J (T<c6.heap.size):=lt_of_heap qV.out;clear gB Aj anI bf cy dq cJ aN qu anJ ach cS qL p7 dx qV;generalize (c6.alloc (aD (#[I 3,I p.at_.1,I p.at_.2,I tx,I ty,I 0,I 0,I eZ,ay 0,ay 0]) dh)).drew=X at mM sW HE sb lz⊢;obtain⟨e7,vk⟩:∃T,c6.heap.size=T:=⟨_,rfl⟩;rw[vk] at sW DD acC rV⊢;clear vk;have Aj:X.cell? ⟨T,10,none⟩=some (I eZ):=cell_of (i:=10) HE.out rfl;have dq:X.cell? ⟨P,11,none⟩=some (I p.mode):=cell_of (i:=11) lz.out.pl rfl;have Ak:X.cell? ⟨P,13,none⟩=some (ai p.fe):=cell_of (i:=13) lz.out.pl rfl
              first
                | (have kZ:p.mode=1:=by simpa using oU
                   have LV:J (av bE bE X):=dC.out.trans (mM.out.mono dC.out.size);have lN:J ((if eZ=0 then .ok p else iM p p.fe (gT (uL p.at_ (tx,ty) eZ)))=res):=(by show _=_;rw[←eg.out];simp[kZ]);clear eg;by_cases BI:eZ=0
                   · have hF: .ok p=res:=by rw[←lN.out,aT BI]
                     subst BI;go_wp2_with fail;go_ret;rw[←hF];exact⟨fm.mJ rfl lz.out,aL.dM mM.out⟩
                   · have anK:(eZ==0)=false:=beq_eq_false_iff_ne.2 BI
                     have uH:J (iM p p.fe (gT (uL p.at_ (tx,ty) eZ))=res):=(by show _=_;rw[←lN.out,aK BI]);have a7:=U (og.out.fresh LV.out);have px:∀Z,av X X Z→Calls Tryz.prog 145 #[dv P 0,ai p.fe,.agg #[I 3,I p.at_.1,I p.at_.2,I tx,I ty,I 0,I 0,I eZ,ay 0,ay 0]] Z fun e w'=>fm w0 P res e w'∧aL (fun k=>bE.heap.size≤k) w w':=(by intro Z eU;have aa:=P0 w0 P _ m L fu cv ov cx ox p p.fe (uL p.at_ (tx,ty) eZ) .nil none 0 none 0 Z (a7.out.below eU) (dY.bare _ _ none none (uL p.at_ (tx,ty) eZ) 0 0 rfl) cF.out.an cF.out.LS cF.out.Iw res uH;exact aa.mono fun e w' h=>⟨h.res,aL.two (mM.out.trans (eU.mono mM.out.size)) h.2.1 fun k ab aj=>.inr ⟨ab,jl aj mM.out.size⟩⟩);have b8:=U px;clear px lN uH;obtain⟨s0,s1,s2,kT,nm,nn,np,nr,ns,nt⟩:=en sW.out;go_upto_region 27 with fail
                     go_region_law (first|(rw[aT (by rfl)];go_simp;go_at_call 145;go_fit (b8.out _ ((Below.refl _ _).drew));intro e cX dk;obtain⟨v6,rfl⟩:=dk.1.ret)|fail)
                     all_goals
                       clear s0 s1 s2 kT nm nn np nr ns nt Ak dq Aj;go_wp2_with fail;go_ret;exact dk)
                | (have kZ:¬p.mode=1:=by simpa using oU
                   have f0:=cP sW.out 0;obtain⟨s0,s1,s2,kT,nm,nn,np,nr,ns,nt⟩:=en sW.out;go_upto_region 20 with fail;have yy:J ((X.setCell (ag e7 0) (I 5)).heap[e7]?=some (.cells #[I 5,I p.at_.1,I p.at_.2,I tx,I ty,I 0,I 0,I eZ,ay 0,ay 0] dh)):=(by have:=c4 (i:=0) (I 5) sW.out;exact this);have ek:J (av w w (X.setCell (ag e7 0) (I 5))):=mM.out.setCell (p:=⟨e7,0,none⟩) DD.out _;have DE:J ((X.setCell (ag e7 0) (I 5)).heap[D+1+1]?=some (.cells #[I bz,I bK] eE)):=(jg (by have:=acC.out;omega)).trans sb.out;have L3:J ((X.setCell (ag e7 0) (I 5)).heap[T]?=some (.cells #[I k,I aA,I aB,I aU,I aZ,I eM,I eN,I r,ad ql nl dl,ad qp hJ cL,I eZ,ai true,ai mq,ad eG no hC] kf)):=(jg (by have:=rV.out;omega)).trans HE.out;clear f0 s0 s1 s2 kT nm nn np nr ns nt Aj dq Ak lz HE sb sW mM;generalize X.setCell (ag e7 0) (I 5)=vz at yy ek DE L3⊢;obtain⟨z1,cW⟩:∃z,p.at_.1+bz=z:=⟨_,rfl⟩;obtain⟨z2,dz⟩:∃z,p.at_.2+bK=z:=⟨_,rfl⟩;have aV:=U (And.intro cW dz);have k6:bT (p.at_.1+bz)=z1:=(by have aa:=cF.out.at_;have ah:=L0.out;unfold rU at aa ah;simp only at ah;rw[b4 _ (by omega)];exact cW);have qd:bT (p.at_.2+bK)=z2:=(by have aa:=cF.out.at_;have ah:=L0.out;unfold rU at aa ah;simp only at ah;rw[b4 _ (by omega)];exact dz);have rT:=U (og.out.below (dC.out.trans (ek.out.mono dC.out.size)));have bf:vz.cell? ⟨P,9,none⟩=some (I p.at_.1):=cell_of (i:=9) rT.out.pl rfl;have cy:vz.cell? ⟨P,10,none⟩=some (I p.at_.2):=cell_of (i:=10) rT.out.pl rfl;obtain⟨cJ,aN⟩:=DA DE.out;obtain⟨s0,s1,s2,kT,nm,nn,np,nr,ns,nt⟩:=en yy.out;have f5:=cP yy.out 5;have f6:=cP yy.out 6;clear cW dz;go_cut [] (fun fT=>((vz.setCell (ag e7 5) (I z1)).setCell (ag e7 6) (I z2)).drew=fT)
                   case first=>
                     go_region;all_goals go_wp2_with fail
                     all_goals go_meet
                     all_goals rfl
                   case rest=>
                     obtain rfl:=hcut;have kD:J (((vz.setCell (ag e7 5) (I z1)).setCell (ag e7 6) (I z2)).drew.heap[e7]?=some (.cells #[I 5,I p.at_.1,I p.at_.2,I tx,I ty,I z1,I z2,I eZ,ay 0,ay 0] dh)):=(by have:=c4 (i:=6) (I z2) (c4 (i:=5) (I z1) yy.out);exact this);have im:J (av w w (((vz.setCell (ag e7 5) (I z1)).setCell (ag e7 6) (I z2)).drew)):=((ek.out.setCell (p:=⟨e7,5,none⟩) DD.out _).setCell (p:=⟨e7,6,none⟩) DD.out _).drew;have L4:J (((vz.setCell (ag e7 5) (I z1)).setCell (ag e7 6) (I z2)).drew.heap[T]?=some (.cells #[I k,I aA,I aB,I aU,I aZ,I eM,I eN,I r,ad ql nl dl,ad qp hJ cL,I eZ,ai true,ai mq,ad eG no hC] kf)):=(jg (by have:=rV.out;omega)).trans ((jg (by have:=rV.out;omega)).trans L3.out);clear bf cy cJ aN s0 s1 s2 kT nm nn np nr ns nt f5 f6 k6 qd rT yy ek DE L3;generalize ((vz.setCell (ag e7 5) (I z1)).setCell (ag e7 6) (I z2)).drew=F0 at kD im L4⊢;obtain⟨⟨ar,gY⟩,hx⟩:∃x:bp,(if p.mode=2 then (tx,ty) else p.at_)=x:=⟨_,rfl⟩;obtain⟨⟨aq,e1⟩,hy⟩:∃x:bp,(if p.mode=2 then p.at_ else (tx,ty))=x:=⟨_,rfl⟩;have lN:J ((if xA (z1,z2) (ar,gY) (aq,e1)=false then .error 9 else if eZ=0 then .ok p else iM p p.fe (gT {hb with k:=5,a:=(ar,gY),b:=(aq,e1),c:=(z1,z2),r:=eZ}))=res):=by show _=_;rw[←eg.out,aK (show ¬(true=false) by decide),aK kZ,aV.out.1,aV.out.2,hx,hy]
                     have zT:J (rU (ar,gY)∧rU (aq,e1)):=by
                       show _∧_;rw[←hx,←hy];by_cases h:p.mode=2
                       · rw[aT h,aT h];exact⟨LZ.out,cF.out.at_⟩
                       · rw[aK h,aK h];exact⟨cF.out.at_,LZ.out⟩
                     have w1:=U (og.out.below (dC.out.trans (im.out.mono dC.out.size)));have dq:F0.cell? ⟨P,11,none⟩=some (I p.mode):=cell_of (i:=11) w1.out.pl rfl;clear eg;by_cases iJ:p.mode=2
                     all_goals
                       first
                         | (rw[aT iJ] at hx hy
                            obtain⟨aN,aR⟩:=Prod.mk.inj hx;rw[hy,aN,aR] at kD;clear hx hy aN aR;simp only at kD;obtain⟨s0,s1,s2,kT,nm,nn,np,nr,ns,nt⟩:=en kD.out;have f1:=cP kD.out 1;have f2:=cP kD.out 2;have f3:=cP kD.out 3;have f4:=cP kD.out 4;have OU:(p.mode==2)=true:=(by rw[iJ];rfl);go_upto_region 23 with fail;clear f1 f2 f3 f4;have pN:J (((((F0.setCell (ag e7 1) (I ar)).setCell (ag e7 2) (I gY)).setCell (ag e7 3) (I aq)).setCell (ag e7 4) (I e1)).heap[e7]?=some (.cells #[I 5,I ar,I gY,I aq,I e1,I z1,I z2,I eZ,ay 0,ay 0] dh)):=(by have:=c4 (i:=4) (I e1) (c4 (i:=3) (I aq) (c4 (i:=2) (I gY) (c4 (i:=1) (I ar) kD.out)));exact this);have lQ:J (av w w ((((F0.setCell (ag e7 1) (I ar)).setCell (ag e7 2) (I gY)).setCell (ag e7 3) (I aq)).setCell (ag e7 4) (I e1))):=(((im.out.setCell (p:=⟨e7,1,none⟩) DD.out _).setCell (p:=⟨e7,2,none⟩) DD.out _).setCell (p:=⟨e7,3,none⟩) DD.out _).setCell (p:=⟨e7,4,none⟩) DD.out _;have L5:J (((((F0.setCell (ag e7 1) (I ar)).setCell (ag e7 2) (I gY)).setCell (ag e7 3) (I aq)).setCell (ag e7 4) (I e1)).heap[T]?=some (.cells #[I k,I aA,I aB,I aU,I aZ,I eM,I eN,I r,ad ql nl dl,ad qp hJ cL,I eZ,ai true,ai mq,ad eG no hC] kf)):=(jg (by have:=rV.out;omega)).trans ((jg (by have:=rV.out;omega)).trans ((jg (by have:=rV.out;omega)).trans ((jg (by have:=rV.out;omega)).trans L4.out)));clear s0 s1 s2 kT nm nn np nr ns nt dq kD im L4 w1;generalize ((((F0.setCell (ag e7 1) (I ar)).setCell (ag e7 2) (I gY)).setCell (ag e7 3) (I aq)).setCell (ag e7 4) (I e1))=BJ at pN lQ L5⊢)
                         | (rw[aK iJ] at hx hy
                            obtain⟨aN,aR⟩:=Prod.mk.inj hy;rw[hx,aN,aR] at kD;clear hx hy aN aR;simp only at kD;obtain⟨s0,s1,s2,kT,nm,nn,np,nr,ns,nt⟩:=en kD.out;have OU:(p.mode==2)=false:=beq_eq_false_iff_ne.2 iJ;go_upto_region 23 with fail;have pN:=kD;have lQ:=im;have L5:=L4;clear s0 s1 s2 kT nm nn np nr ns nt dq kD im L4 w1;generalize F0=BJ at pN lQ L5⊢)
                     all_goals
                       obtain⟨s0,s1,s2,kT,nm,nn,np,nr,ns,nt⟩:=en pN.out;obtain⟨q,aC⟩:∃b,xA (z1,z2) (ar,gY) (aq,e1)=b:=⟨_,rfl⟩;have a7:=U aC;have uH:J ((if q=false then .error 9 else if eZ=0 then .ok p else iM p p.fe (gT {hb with k:=5,a:=(ar,gY),b:=(aq,e1),c:=(z1,z2),r:=eZ}))=res):=(by show _=_;rw[←lN.out,aC]);have Ae:J ((-1073741824≤z1∧z1≤1073741824)∧(-1073741824≤z2∧z2≤1073741824)):=(by have aa:=cF.out.at_;have ah:=L0.out;have ax:=aV.out;unfold rU at aa ah;simp only at ah;show _∧_;omega);clear aC lN;have acD:J (∀Z,Calls Tryz.prog 187 #[.agg #[I z1,I z2],.agg #[I ar,I gY],.agg #[I aq,I e1]] Z fun r w'=>r=bb (ai q)∧av Z Z w'):=(by intro Z;have aa:=Ae.out;have ah:=zT.out;unfold rU at ah;simp only at ah;exact Sm (z1,z2) (ar,gY) (aq,e1) (by unfold e4;simp only;omega) (by unfold e4;simp only;omega) (by unfold e4;simp only;omega) (by unfold nD;simp only;omega) (by unfold nD;simp only;omega) (by unfold nD;simp only;omega) (by unfold nD;simp only;omega) q a7 Z);go_wp2_with fail;go_fit (acD.out _);rintro e fR ⟨rfl,yz⟩;have gE:J (av w w fR):=lQ.out.trans (yz.mono lQ.out.size);have anL:=U (aO L5.out yz);have Qb:=U (aO pN.out yz);clear s0 s1 s2 kT nm nn np nr ns nt yz lQ L5 pN acD;have LV:J (av bE bE fR):=dC.out.trans (gE.out.mono dC.out.size);have Qc:=U (og.out.fresh LV.out);cases q with
                       |false=>
                         have hF: .error 9=res:=uH.out;go_wp2_with fail;go_ret;rw[←hF];exact⟨⟨Qc.out.aY,rfl⟩,aL.dM gE.out⟩
                       |true=>
                         have Aj:fR.cell? ⟨T,10,none⟩=some (I eZ):=cell_of (i:=10) anL.out rfl;have zo:J ((if eZ=0 then .ok p else iM p p.fe (gT {hb with k:=5,a:=(ar,gY),b:=(aq,e1),c:=(z1,z2),r:=eZ}))=res):=uH.out;clear uH;by_cases BI:eZ=0
                         · have hF: .ok p=res:=by rw[←zo.out,aT BI]
                           subst BI;go_wp2_with fail;go_ret;rw[←hF];exact⟨fm.mJ rfl Qc.out,aL.dM gE.out⟩
                         · have anK:(eZ==0)=false:=beq_eq_false_iff_ne.2 BI
                           have zp:J (iM p p.fe (gT {hb with k:=5,a:=(ar,gY),b:=(aq,e1),c:=(z1,z2),r:=eZ})=res):=(by show _=_;rw[←zo.out,aK BI]);have Ak:fR.cell? ⟨P,13,none⟩=some (ai p.fe):=cell_of (i:=13) Qc.out.pl rfl;have px:∀Z,av fR fR Z→Calls Tryz.prog 145 #[dv P 0,ai p.fe,.agg #[I 5,I ar,I gY,I aq,I e1,I z1,I z2,I eZ,ay 0,ay 0]] Z fun e w'=>fm w0 P res e w'∧aL (fun k=>bE.heap.size≤k) w w':=(by intro Z eU;have aa:=P0 w0 P _ m L fu cv ov cx ox p p.fe {hb with k:=5,a:=(ar,gY),b:=(aq,e1),c:=(z1,z2),r:=eZ} .nil none 0 none 0 Z (Qc.out.below eU) (dY.bare _ _ none none {hb with k:=5,a:=(ar,gY),b:=(aq,e1),c:=(z1,z2),r:=eZ} 0 0 rfl) cF.out.an cF.out.LS cF.out.Iw res zp;exact aa.mono fun e w' h=>⟨h.res,aL.two (gE.out.trans (eU.mono gE.out.size)) h.2.1 fun k ab aj=>.inr ⟨ab,jl aj gE.out.size⟩⟩);have b8:=U px;clear px zo zp;obtain⟨s0,s1,s2,kT,nm,nn,np,nr,ns,nt⟩:=en Qb.out;go_upto_region 27 with fail
                           go_region_law (first|(rw[aT (by rfl)];go_simp;go_at_call 145;go_fit (b8.out _ ((Below.refl _ _).drew));intro e cX dk;obtain⟨v6,rfl⟩:=dk.1.ret)|fail)
                           all_goals
                             clear s0 s1 s2 kT nm nn np nr ns nt Ak Aj;go_wp2_with fail;go_ret;exact dk)
  · by_cases hm:p.mode=1
    · have oU:(p.mode !=1)=false:=by rw[hm];rfl
      by_cases Qd:ci=[]∧qW=[]
      · obtain⟨rfl,rfl⟩:=Qd
        cases rg with
        |false=>exact absurd ⟨rfl,.inl ⟨hm,rfl,rfl⟩⟩ aX
        |true=>
          have PH:p.bO=[]:=by
            cases hc:p.bO with
            |nil=>rfl
            |cons a l=>exact absurd ⟨hm,sV.out,by rw[hc];simp,rfl,rfl⟩ sD.out
          have bl:=b9.out.bj.own;obtain⟨q,d,rfl⟩:=ik bl;have wZ:W.cell? ⟨P,20,none⟩=some (ad q 0 d):=(by have h:W.cell? ⟨P,20,none⟩=some (ad q p.bO.length d):=cell_of (i:=20) b9.out.pl rfl;rw[PH] at h;exact h);have hF: .error 4=res:=(by rw[←mN.out];simp[hm,PH]);have eO:dO.toList.isEmpty=true:=L1.out;have fG:lH.toList.isEmpty=true:=L2.out;clear bl mN sD;go_wp2_with fail;go_ret;rw[←hF];exact⟨⟨b9.out.aY,rfl⟩,aL.dM aH.out⟩
      · have hF: .error 4=res:=by rw[←mN.out,aK (fun h=>h.1 hm),aK (fun h=>h.1 hm),aT];exact⟨hm,by rcases Classical.em (ci=[]) with h|h;exact .inr fun ah=>Qd ⟨h,ah⟩;exact .inl h⟩
        have eO:=L1.out;have fG:=L2.out;clear mN sD;by_cases yA:ci=[]
        · have anM:¬qW=[]:=fun h=>Qd ⟨yA,h⟩
          rw[eH yA] at eO;rw[eD anM] at fG;go_wp2_with fail;go_ret;rw[←hF];exact⟨⟨b9.out.aY,rfl⟩,aL.dM aH.out⟩
        · rw[eD yA] at eO
          go_wp2_with fail;go_ret;rw[←hF];exact⟨⟨b9.out.aY,rfl⟩,aL.dM aH.out⟩
    · have oU:(p.mode !=1)=true:=by rw[tt];exact hm
      cases rg with
      |true=>
        have hF: .error 8=res:=(by rw[←mN.out];simp[hm]);clear mN sD;go_wp2_with fail;go_ret;rw[←hF];exact⟨⟨b9.out.aY,rfl⟩,aL.dM aH.out⟩
      |false=>
        cases Iy with
        |true=>exact absurd ⟨rfl,.inr ⟨hm,rfl⟩⟩ aX
        |false=>
          have hF: .error 4=res:=(by rw[←mN.out];simp[hm]);clear mN sD;go_wp2_with fail;go_ret;rw[←hF];exact⟨⟨b9.out.aY,rfl⟩,aL.dM aH.out⟩
end dE
namespace Iz
open Go.RowKit kG pH qk wq
abbrev IA(u i d:Int)(t:Bool):Value:=.agg #[I u,I i,I d,ai t]
abbrev BK(u i d:Int)(t:Bool):Obj:=.cells #[I u,I i,I d,ai t] 161
theorem acE(u:Int)(w:bTo):Calls Tryz.prog 188 #[I u] w fun e w'=>e=bb (I (sh u))∧w=w':=by
 go_enter Tryz.func188,Tryz.ntmps188;by_cases aa:u=1
 ·subst aa;go_wp2;go_ret;exact⟨rfl,rfl⟩
 ·by_cases ah:u=2
  ·subst ah;go_wp2;go_ret;exact⟨rfl,rfl⟩
  ·have hp:sh u=0:=(by simp[sh,aa,ah]);have bL:=U hp;have b3:(u==1)=false:=(by simp[aa]);have bc:(u==2)=false:=(by simp[ah]);clear hp;go_wp2;go_ret;rw[bL.out];exact⟨rfl,rfl⟩
theorem Qe(u p:Int)(hp:J (sh u=p))(w:bTo):Calls Tryz.prog 188 #[I u] w fun e w'=>e=bb (I p)∧w=w':=by have:=hp.out;subst this;exact acE u w
theorem fU{k:IntKind}{a b:Int}(h:a=b):Ending.returned (.int k a)=bb (.int k b):=by rw[h]
theorem anN(n:Int)(k:Nat)(ab:k≤18)(af:n.natAbs *10^k≤1000000000000000000)(v:Int)(aS:J (n *((10^k:Nat):Int)=v))(w:bTo):
  Calls Tryz.prog 186 #[I n,I k] w fun e w'=>e=bb (I v)∧w=w':=by
 have aH:=U af;clear af;go_enter Tryz.func186,Tryz.ntmps186;go_wp2
 go_loop [0,6] (fun v i=>∃(j:Nat) (x:Int),j≤k∧x=n *((10^j:Nat):Int)∧i=I j∧v=I x) (fun _ i=>k -(intOf i).toNat)
 case atStart=>exact⟨0,n,eC _,by simp,rfl,rfl⟩
 case round=>
  obtain⟨j,x,cB,hx,rfl,rfl⟩:=hrel;by_cases b0:j<k
  ·have e5:x.natAbs *10≤1000000000000000000:=(by have aa:x.natAbs=n.natAbs *10^j:=(by rw[hx,FX,DC]);rw[aa,R2,←AE];exact dX (Nat.mul_le_mul_left _ (vU (by decide) b0)) aH.out);have eb:-100000000000000000≤x:=(by omega);have e6:x≤100000000000000000:=(by omega);have cV:J (x *10=n *((10 ^(j+1):Nat):Int)):=(by show _=_;rw[hx,AE,Ev,Int.mul_assoc];rfl);clear hx e5;go_wp2;go_round
   case rel=>exact⟨j+1,x *10,by omega,cV.out,by go_num,rfl⟩
   case measure=>simp[intOf];omega
  ·obtain rfl:j=k:=(by omega);have cV:=U hx;clear hx;go_wp2;go_ret;exact⟨fU (cV.out.trans aS.out),rfl⟩
theorem Vu(n:Int)(i:Int)(k:Nat)(hi:i=k)(ab:k≤18)(af:n.natAbs *10^k≤1000000000000000000)(v:Int)(aS:J (n *((10^k:Nat):Int)=v))(w:bTo):
  Calls Tryz.prog 186 #[I n,I i] w fun e w'=>e=bb (I v)∧w=w':=by
 subst hi;exact anN n k ab af v aS w
theorem anO(u i d:Int)(t:Bool)(w:bTo):Calls Tryz.prog 140 #[IA u i d t] w fun e w'=>e=bb (ai (si u i d))∧w.alloc (BK u i d t)=w':=by
 cases hf:si u i d with
 |true=>
  obtain⟨aa,ah,ax,bg,b7,c0⟩:=(Sx u i d).1 hf;clear hf;rcases aa with rfl|rfl
  all_goals
   go_enter FY,FZ;by_cases ea:0<i
   ·go_wp2;go_ret;exact⟨rfl,rfl⟩
   ·have eO:0<d:=(by omega);go_wp2;go_ret;exact⟨rfl,rfl⟩
 |false=>
  have hn:¬((u=1∨u=2)∧0≤i∧i≤6∧0≤d∧d≤6∧0<i+d):=(fun h=>by rw[(Sx u i d).2 h] at hf;cases hf);clear hf;by_cases aa:u=1∨u=2
  ·have ic:¬(0≤i∧i≤6∧0≤d∧d≤6∧0<i+d):=fun h=>hn ⟨aa,h⟩;clear hn;rcases aa with rfl|rfl
   all_goals
    by_cases aI:0≤i
    ·by_cases c2:i≤6
     ·by_cases c3:0≤d
      ·by_cases bF:d≤6
       ·have c5:¬0<i:=(by omega);have b1:¬0<d:=(by omega);clear ic;go_enter FY,FZ;go_wp2;go_ret;exact⟨rfl,rfl⟩
       ·clear ic;go_enter FY,FZ;go_wp2;go_ret;exact⟨rfl,rfl⟩
      ·clear ic;go_enter FY,FZ;go_wp2;go_ret;exact⟨rfl,rfl⟩
     ·clear ic;go_enter FY,FZ;go_wp2;go_ret;exact⟨rfl,rfl⟩
    ·clear ic;go_enter FY,FZ;go_wp2;go_ret;exact⟨rfl,rfl⟩
  ·clear hn;have b3:(u==1)=false:=(by simp;omega);have bc:(u==2)=false:=(by simp;omega);have ev:(u !=1)=true:=(by simp;omega);have F1:(u !=2)=true:=(by simp;omega);clear aa;go_enter FY,FZ;go_wp2;go_ret;exact⟨rfl,rfl⟩
theorem Qf(u i d:Int)(t:Bool)(b:Bool)(af:J (si u i d=b))(w:bTo):Calls Tryz.prog 140 #[IA u i d t] w fun e w'=>e=bb (ai b)∧w.alloc (BK u i d t)=w':=by have:=af.out;subst this;exact anO u i d t w
theorem anP{n:Int}(h:tj n=true):-1000000000000<n∧n<1000000000000:=(ah3 n).1 h
theorem anQ(n u:Int)(w:bTo):
  Calls Tryz.prog 150 #[I n,I u] w fun e w'=>e=bb (.tuple #[I ((ig n u).getD 0),ai (ig n u).isSome])∧w=w':=by
 cases ff:tj n with
 |false=>
  have aX:ig n u=none:=(by unfold ig;rw[aK];rintro⟨h,_⟩;rw[ff] at h;cases h);have fv:=U aX;have rW:=U ff;clear aX ff;go_enter LX,LY;go_wp2_with fail;refine (acE u _).mono ?_;rintro e w' ⟨rfl,rfl⟩;generalize sh u=p;go_wp2_with fail;refine (Lo n _).mono ?_;rintro e w' ⟨rfl,rfl⟩;rw[rW.out];go_wp2_with fail;go_ret2;rw[fv.out];exact⟨rfl,rfl⟩
 |true=>
  have af:=anP ff;obtain⟨e5,eb⟩:=af;by_cases hu:u=1∨u=2
  ·have hp:=aiK hu;obtain⟨p,IB⟩:=az (sh u);rw[IB] at hp;have bL:=U IB;have rW:=U ff;by_cases hr:-536870912≤n *p∧n *p≤536870912
   ·have aX:ig n u=some (n *p):=(by unfold ig;rw[IB,aT ⟨ff,hu,hr⟩]);have fv:=U aX;obtain⟨ie,ly⟩:=hr;clear aX ff IB hu;rcases hp with rfl|rfl
    all_goals
     go_enter LX,LY;go_wp2_with fail;refine (Qe u _ bL _).mono ?_;rintro e w' ⟨rfl,rfl⟩;go_wp2_with fail;refine (Lo n _).mono ?_;rintro e w' ⟨rfl,rfl⟩;rw[rW.out];go_wp2_with fail;go_ret2;rw[fv.out];exact⟨rfl,rfl⟩
   ·have aX:ig n u=none:=(by unfold ig;rw[IB,aK];rintro⟨_,_,h⟩;exact hr h);have fv:=U aX;clear aX ff IB hu;by_cases ie:-536870912≤n *p
    ·have ly:¬n *p≤536870912:=fun h=>hr ⟨ie,h⟩;clear hr;rcases hp with rfl|rfl
     all_goals
      go_enter LX,LY;go_wp2_with fail;refine (Qe u _ bL _).mono ?_;rintro e w' ⟨rfl,rfl⟩;go_wp2_with fail;refine (Lo n _).mono ?_;rintro e w' ⟨rfl,rfl⟩;rw[rW.out];go_wp2_with fail;go_ret2;rw[fv.out];exact⟨rfl,rfl⟩
    ·clear hr;rcases hp with rfl|rfl
     all_goals
      go_enter LX,LY;go_wp2_with fail;refine (Qe u _ bL _).mono ?_;rintro e w' ⟨rfl,rfl⟩;go_wp2_with fail;refine (Lo n _).mono ?_;rintro e w' ⟨rfl,rfl⟩;rw[rW.out];go_wp2_with fail;go_ret2;rw[fv.out];exact⟨rfl,rfl⟩
  ·have aX:ig n u=none:=(by unfold ig;rw[aK];rintro⟨_,h,_⟩;exact hu h);have hp:sh u=0:=(by unfold sh;rw[aK (fun h=>hu (.inl h)),aK (fun h=>hu (.inr h))]);have fv:=U aX;have bL:=U hp;have rW:=U ff;clear aX ff hp hu;go_enter LX,LY;go_wp2_with fail;refine (Qe u _ bL _).mono ?_;rintro e w' ⟨rfl,rfl⟩;go_wp2_with fail;refine (Lo n _).mono ?_;rintro e w' ⟨rfl,rfl⟩;rw[rW.out];go_wp2_with fail;go_ret2;rw[fv.out];exact⟨rfl,rfl⟩
theorem IC(n u v:Int)(b:Bool)(aS:J ((ig n u).getD 0=v∧(ig n u).isSome=b))(w:bTo):
  Calls Tryz.prog 150 #[I n,I u] w fun e w'=>e=bb (.tuple #[I v,ai b])∧w=w':=by
 obtain⟨aa,ah⟩:=aS.out;subst aa;subst ah;exact anQ n u w
end Iz
namespace wq
open kG
open Go.Lib (decDigits nDigits trimRightB dg)
def F2(l:bk)(size d:Nat)(t:Bool):Nat:=val l *(if t then 10 ^(size-l.length) else 1) *10 ^(6-d)
variable{l:bk}
theorem Qg{u i d:Int}{t:Bool}(h:¬(si u i d=true∧1≤(strip l).2.length∧((strip l).2.length:Int)≤i+d∧bC (strip l).2=(strip l).2.length)):lB l u i d t=none:=by unfold lB;rw[aK h]
theorem anR{u:Int}{eo D:Nat}{t:Bool}(h:si u eo D=true∧1≤(strip l).2.length∧((strip l).2.length:Int)≤(eo:Int)+D∧bC (strip l).2=(strip l).2.length):
  lB l u eo D t=ig (if (strip l).1 then -((F2 (strip l).2 (eo+D) D t:Nat):Int) else ((F2 (strip l).2 (eo+D) D t:Nat):Int)) u:=by
 unfold lB;rw[aT h];rfl
theorem anS(h:bC l=l.length):val l<10^l.length:=by
 have:=Ei l l.length (by omega)
 rwa [uo] at this
theorem acF(h:∀c∈l,fi c=true):bC l=l.length:=by have:=Yj l h [];simpa[ahW] using this
theorem acG(v:Nat):∀c∈decDigits v,fi c=true:=by rw[R6];exact aic _ _
theorem acH(v:Nat):val (decDigits v)=v:=by rw[R6,Yi];exact Nat.mod_eq_of_lt (RZ _)
variable{size:Nat}
theorem Vv{v:Nat}(hs:1≤size):nDigits v≤size↔v<10^size:=by
 constructor
 ·intro h;have aa:=RZ v;have ah:10^nDigits v≤10^size:=vU (by decide) h;omega
 ·intro h;exact R7 size v h hs
theorem aaX{v:Nat}{t:Bool}(hs:1≤size)(h:v<10^size):1≤(Sy v size t).length∧(Sy v size t).length≤size:=by
 unfold Sy;split
 ·split
  ·exact⟨bD _,hs⟩
  ·rename_i hne;have aa:=ah9 (pad v size) 48;rw[R5] at aa;refine⟨?_,aa⟩;cases hx:trimRightB (pad v size) 48 with
   |nil=>exact absurd hx hne
   |cons _ _=>simp
 ·rw[Lib.decDigits_length];exact⟨R0 v,(Vv hs).2 h⟩
end wq
