/- Lemmas. -/
import Derived.Test.YtkaiaijcieaofaaGreatDoorQ18
set_option linter.all false
set_option maxRecDepth 100000
set_option maxHeartbeats 12800000
namespace Go.Proofs.YtkaiaijcieaofaaGreatDoor
namespace c1
open Go.RowKit ef
def nU(p:b7):Prop:=-536870912≤p.1∧p.1≤536870912∧-536870912≤p.2∧p.2≤536870912
structure nV(p:cy):Prop where
 er:∀v∈p.top::p.levels,(v.eg.length:Int)≤p.made∧0≤v.n∧v.n≤10000∧0≤v.m∧v.m≤10000∧nU v.eI
 ap:∀k a,p.jC k=some a→(a.eg.length:Int)≤p.made
 q1:0≤p.made
 md:p.made≤100000
 bo:p.budget≤100000
 kB:p.levels.length≤16
 at_:nU p.at_
 ej:p.gM.length≤1000000
variable{p q:cy}
theorem nV.aD(h:nV p):p.top.eg.length≤1000000:=by have:=(h.er p.top (by simp)).1;have:=h.md;omega
theorem nV.HX(h:nV p):0≤p.made∧p.made≤1000000:=⟨h.q1,by have:=h.md;omega⟩
theorem nV.x5(h:nV p):p.levels.length≤1000:=cd h.kB (by decide)
variable{d:Bool}{s:dq}
theorem UL(h:iv p d s=.ok q):q={p with made:=p.made+1,top:={p.top with eg:=p.top.eg++[(d,s)]}}∧p.made<p.budget:=by
 unfold iv at h;split at h
 ·cases h
 ·split at h
  ·cases h
  ·injection h with h;exact⟨h.symm,by omega⟩
theorem nV.iv{p q:cy}{d:Bool}{s:dq}(h:nV p)(aG:iv p d s=.ok q):nV q:=by
 obtain⟨rfl,bm⟩:=UL aG;have ay:=h.bo;refine⟨fun v aS=>?_,fun k a ha=>?_,?_,?_,ay,h.kB,h.at_,h.ej⟩
 ·rcases List.mem_cons.1 aS with rfl|aS
  ·have au:=h.er p.top (by simp);refine⟨?_,au.2⟩;show ((p.top.eg++[(d,s)]).length:Int)≤p.made+1;rw[fH];have:=au.1;simp;omega
  ·have au:=h.er v (by simp[aS]);exact⟨by show _≤p.made+1;omega,au.2⟩
 ·have:=h.ap k a ha;show _≤p.made+1;omega
 ·show 0≤p.made+1;have:=h.q1;omega
 ·show p.made+1≤100000;omega
theorem nV.jU{p q:cy}{d:Bool}{s:dq}{t:gj}(h:nV p)(aG:jU p d s t=.ok q):nV q:=by
 unfold ef.jU at aG;split at aG
 ·cases aG
 ·exact h.iv aG
theorem nV.mq{f:Bool→Bool}{t:gj}:∀{l:List iH} {p q:cy},nV p→mq f t l p=.ok q→nV q
 |[],p,q,h,aG=>by unfold ef.mq at aG;injection aG with aG;exact aG ▸ h
 |o::l,p,q,h,aG=>by
  unfold ef.mq at aG;split at aG
  ·cases aG
  ·rename_i r hr;exact nV.mq (h.jU hr) aG
variable{t:gj}{e:Nat}
theorem amu{f:Bool→Bool}{o:iH}{l:List iH}(h:jU p (f o.1) o.2 t=.error e):mq f t (o::l) p=.error e:=by rw[ef.mq,h]
theorem amv{f:Bool→Bool}{o:iH}{l:List iH}(h:jU p (f o.1) o.2 t=.ok q):mq f t (o::l) p=mq f t l q:=by rw[ef.mq,h]
theorem abn(h:iv p d s=.error e):e=5∨e=6:=by
 unfold ef.iv at h;split at h
 ·injection h with h;exact .inl h.symm
 ·split at h
  ·injection h with h;exact .inr h.symm
  ·cases h
theorem Pu(h:jU p d s t=.error e):e=5∨e=6:=by
 unfold ef.jU at h;split at h
 ·injection h with h;exact .inl h.symm
 ·exact abn h
theorem aK.two{S kS:afp}{w X w':aeo}(au:an w w X)(ax:aK kS X w')(aA:∀k,S k→k<w.heap.size→kS k):aK S w w':=⟨ax.os.trans au.os,ax.tape.trans au.tape,ax.output.trans au.output,cd au.size ax.size,fun k hS aw=>(ax.block k (aA k hS aw) (hN aw au.size)).trans (au.block k aw)⟩
theorem amw(h:jU p d s t=.ok q):q.fe=p.fe:=by
 unfold ef.jU at h;split at h
 ·cases h
 ·rw[(UL h).1]
theorem amx{w:aeo}{k:Nat}{v0 v1 v2 v3 v4 v5 v6 bS b0 v9 v10 v11 v12 abo:ada}{t:aai}(h:al w k (#[v0,v1,v2,v3,v4,v5,v6,bS,b0,v9,v10,v11,v12,abo]) t):
  ak w k 0 v0∧ak w k 1 v1∧ak w k 2 v2∧ak w k 3 v3∧ak w k 4 v4∧ak w k 5 v5∧ak w k 6 v6∧ak w k 7 bS∧ak w k 8 b0∧ak w k 9 v9∧ak w k 10 v10∧ak w k 11 v11∧ak w k 12 v12∧ak w k 13 abo:=by
 refine⟨?_,?_,?_,?_,?_,?_,?_,?_,?_,?_,?_,?_,?_,?_⟩<;>simp[World.cell?,h]
theorem amy(w0:aeo)(P:Nat)(p:cy)(tx ty:Int)(bk w:aeo)(H:af (jl w0 P p bk))(dY:af (an bk bk w))(hs:nV p)(fj:af (e5 tx∧e5 ty))(res:Except Nat cy)(c6:af (xd p (tx,ty)=res)):
  Calls Tryz.prog 125 #[ah P 0,.agg #[I tx,I ty]] w fun e w'=>gi w0 P res e w'∧aK (fun k=>bk.heap.size≤k) w w':=by
 obtain⟨R,m,L,fu,cv,ov,cx,ox,h⟩:=H.out;have tY:=ao h;have H1:=ao (h.below dY.out);have bH:=ao hs;obtain⟨o,a1⟩:=aq (p.jC p.pt);have bE:=ao a1;obtain⟨rg,qm⟩:=aq p.region;have tX:=ao qm;clear h hs H a1 qm;go_enter Tryz.func125,Tryz.ntmps125;go_upto_region 1 with fail;have bp:=ao (H1.out.below (bh w (ai (#[I tx,I ty]) de)));have lC:af ((w.alloc (ai (#[I tx,I ty]) de)).heap[w.heap.size]?=some (.cells #[I tx,I ty] de)):=cR _ _;have gH:af (an w w (w.alloc (ai (#[I tx,I ty]) de))):=bh _ _;generalize w.alloc (.cells #[I tx,I ty] de)=W at bp lC gH⊢;obtain⟨D,b4⟩:=aq w.heap.size;rw[b4] at lC⊢;clear b4 H1;have cX:ak W P 6 (.map (some m)):=cell_of (i:=6) bp.out.pl rfl;have c7:ak W P 7 (I p.pt):=cell_of (i:=7) bp.out.pl rfl;have nT:ak W P 19 (U rg):=by rw[←tX.out];exact cell_of (i:=19) bp.out.pl rfl
 have oE:=lt_of_heap bp.out.pl;have vp:m<W.heap.size:=by obtain⟨_,_,hm⟩:=bp.out.mp.map;exact lt_of_heap hm
 obtain⟨v,jZ,aS⟩:=bp.out.mp.look p.pt;rw[bE.out] at jZ aS;cases o with
 |none=>
  have aS:v=Fb:=aS;subst aS;have aJ:af (.error 4=res):=(by show _=_;rw[←c6.out];unfold xd;rw[bE.out]);have lq:=jZ W.drew rfl;have hc:=jZ (W.alloc (ai (#[I 0,I 0,I 0,I 0,I 0,I 0,I 0,I 0,J 0,J 0,I 0,U false,U false,J 0]) j6)).drew (qL _ _ _ vp);clear jZ c6;go_region
  all_goals
   clear lq hc cX c7;cases rg
   all_goals
    go_wp2_with fail;go_ret;rw[←aJ.out];exact⟨⟨bp.out.aM.trans (((bh W _).drew).mono bp.out.aM.size),rfl⟩,aK.c4 (gH.out.trans (((bh W _).drew).mono gH.out.size))⟩
 |some a=>
  obtain⟨⟨⟨k,⟨a7,a'⟩,⟨aX,a8⟩,⟨dA,dB⟩,r,l⟩,s⟩,et,nW,jn,eg⟩:=a;obtain⟨ql,dl,qp,cf,eP,nn,rfl,ff,Fm,UM⟩:=aS;obtain⟨nl,eU⟩:=aq l.length;obtain⟨eA,oF⟩:=aq s.len;obtain⟨no,ji⟩:=aq eg.length;have lq:(Instr.lookup Fa (.map (some m)) (I p.pt) true).run Tryz.prog W.drew=.ok (.tuple #[.agg #[I k,I a7,I a',I aX,I a8,I dA,I dB,I r,ad ql nl dl,ad qp eA cf,I et,U nW,U jn,ad eP no nn],U true]) W.drew:=(by rw[←eU,←oF,←ji];exact jZ W.drew rfl);have hc:(Instr.lookup Fa (.map (some m)) (I p.pt) true).run Tryz.prog (W.alloc (ai (#[I 0,I 0,I 0,I 0,I 0,I 0,I 0,I 0,J 0,J 0,I 0,U false,U false,J 0]) j6)).drew=.ok (.tuple #[.agg #[I k,I a7,I a',I aX,I a8,I dA,I dB,I r,ad ql nl dl,ad qp eA cf,I et,U nW,U jn,ad eP no nn],U true]) (W.alloc (ai (#[I 0,I 0,I 0,I 0,I 0,I 0,I 0,I 0,J 0,J 0,I 0,U false,U false,J 0]) j6)).drew:=(by rw[←eU,←oF,←ji];exact jZ _ (qL _ _ _ vp));have r9:=ao eU;have HY:=ao oF;have rE:=ao ji;have qM:af (dw R W ql dl qp cf ⟨⟨k,(a7,a'),(aX,a8),(dA,dB),r,l⟩,s⟩):=ff;have qQ:af (gz R W eP eg):=Fm;have avw:no≤1000000:=(by have au:=bH.out.ap _ _ bE.out;have ax:=bH.out.md;have aA:(eg.length:Int)≤p.made:=au;rw[ji] at aA;omega);clear jZ ff Fm UM eU oF ji;have aJ:af ((if rg=true then .error 4 else if jn=false then jU p p.fe ⟨⟨k,(a7,a'),(aX,a8),(dA,dB),r,l⟩,s⟩ {p.cz with eI:=(tx,ty)} else mq (fun d=>decide (d=p.fe)) {p.cz with eI:=(tx,ty)} eg p)=res):=(by show _=_;rw[←c6.out];unfold xd;rw[bE.out,←tX.out]);clear c6;go_region
  all_goals
   have bW:=ao (bp.out.below ((bh W (ai (#[I k,I a7,I a',I aX,I a8,I dA,I dB,I r,ad ql nl dl,ad qp eA cf,I et,U nW,U jn,ad eP no nn]) j6)).drew));have iQ:=ao (ba lC.out ((bh W (ai (#[I k,I a7,I a',I aX,I a8,I dA,I dB,I r,ad ql nl dl,ad qp eA cf,I et,U nW,U jn,ad eP no nn]) j6)).drew));have dO:af (an W W ((W.alloc (ai (#[I k,I a7,I a',I aX,I a8,I dA,I dB,I r,ad ql nl dl,ad qp eA cf,I et,U nW,U jn,ad eP no nn]) j6)).drew)):=(bh W _).drew;have o3:af ((W.alloc (ai (#[I k,I a7,I a',I aX,I a8,I dA,I dB,I r,ad ql nl dl,ad qp eA cf,I et,U nW,U jn,ad eP no nn]) j6)).drew.heap[W.heap.size]?=some (.cells #[I k,I a7,I a',I aX,I a8,I dA,I dB,I r,ad ql nl dl,ad qp eA cf,I et,U nW,U jn,ad eP no nn] j6)):=cR _ _;clear lq hc cX c7 nT oE vp lC;generalize (W.alloc (ai (#[I k,I a7,I a',I aX,I a8,I dA,I dB,I r,ad ql nl dl,ad qp eA cf,I et,U nW,U jn,ad eP no nn]) j6)).drew=dZ at bW iQ dO o3⊢;obtain⟨T,dm⟩:=aq W.heap.size;rw[dm] at o3⊢;clear dm;have abp:=ao (qM.out.below dO.out);have abq:=ao (qQ.out.below dO.out);have vq:af (an w w dZ):=gH.out.trans (dO.out.mono gH.out.size);clear bp qM qQ gH dO;have nT:ak dZ P 19 (U rg):=(by rw[←tX.out];exact cell_of (i:=19) bW.out.pl rfl);cases rg with
   |true=>
    have aJ:af (.error 4=res):=aJ.out;go_wp2_with fail;go_ret;rw[←aJ.out];exact⟨⟨bW.out.aM,rfl⟩,aK.c4 vq.out⟩
   |false=>
    have abr:ak dZ P 14 (U p.cz.bx):=cell_of (i:=14) bW.out.pl rfl;have abt:ak dZ P 15 (U p.cz.bO):=cell_of (i:=15) bW.out.pl rfl;have abu:ak dZ P 16 (I p.cz.q):=cell_of (i:=16) bW.out.pl rfl;have amz:ak dZ P 17 (I p.cz.eI.1):=cell_of (i:=17) bW.out.pl rfl;have amA:ak dZ P 18 (I p.cz.eI.2):=cell_of (i:=18) bW.out.pl rfl;obtain⟨d0,d1⟩:=CQ iQ.out;have rz:=lt_of_heap iQ.out;go_upto_region 6 with fail;have ht:=ao (bW.out.below (bh dZ (ai (#[U p.cz.bx,U p.cz.bO,I p.cz.q,I tx,I ty]) pA)));have iJ:af (an dZ dZ (dZ.alloc (ai (#[U p.cz.bx,U p.cz.bO,I p.cz.q,I tx,I ty]) pA))):=bh _ _;have pS:af ((dZ.alloc (ai (#[U p.cz.bx,U p.cz.bO,I p.cz.q,I tx,I ty]) pA)).heap[dZ.heap.size]?=some (.cells #[U p.cz.bx,U p.cz.bO,I p.cz.q,I tx,I ty] pA)):=cR _ _;generalize dZ.alloc (.cells #[U p.cz.bx,U p.cz.bO,I p.cz.q,I tx,I ty] pA)=X at ht iJ pS⊢;obtain⟨gT,wy⟩:=aq dZ.heap.size;rw[wy] at pS⊢;have qN:af (bk.heap.size≤gT):=(by show _;rw[←wy];exact (dY.out.trans (vq.out.mono dY.out.size)).size);clear wy abr abt abu amz amA nT d0 d1 rz iQ;have o3:=ao (ba o3.out iJ.out);have eW:af (an w w X):=vq.out.trans (iJ.out.mono vq.out.size);have Ls:af (an bk bk X):=dY.out.trans (eW.out.mono dY.out.size);have qM:=ao ((abp.out.below iJ.out).mono (R:=fun k=>R k∨(bk.heap.size≤k∧k<X.heap.size)) fun _ _ h=>.inl h);have qQ:=ao ((abq.out.below iJ.out).mono (R:=fun k=>R k∨(bk.heap.size≤k∧k<X.heap.size)) fun _ _ h=>.inl h);clear bW iJ vq abp abq ht;have ht:=ao (tY.out.fresh Ls.out);have bn:af (∀k,bk.heap.size≤k→k<w.heap.size→(fun k=>R k∨(bk.heap.size≤k∧k<X.heap.size)) k):=fun k au ax=>.inr ⟨au,hN ax eW.out.size⟩;have abv:af ((fun k=>R k∨(bk.heap.size≤k∧k<X.heap.size)) gT):=.inr ⟨qN.out,lt_of_heap pS.out⟩;generalize (fun k=>R k∨(bk.heap.size≤k∧k<X.heap.size))=kS at ht qM qQ bn abv;have tZ:ak X T 10 (I et):=cell_of (i:=10) o3.out rfl;have abw:ak X T 12 (U jn):=cell_of (i:=12) o3.out rfl;cases jn with
    |false=>
     have aQ:af (jU p p.fe ⟨⟨k,(a7,a'),(aX,a8),(dA,dB),r,l⟩,s⟩ {p.cz with eI:=(tx,ty)}=res):=aJ.out;have mz:∀Z,an X X Z→Calls Tryz.prog 128 #[ah P 0,U p.fe,.agg #[I k,I a7,I a',I aX,I a8,I dA,I dB,I r,ad ql nl dl,ad qp eA cf],.agg #[U p.cz.bx,U p.cz.bO,I p.cz.q,I tx,I ty]] Z fun e w'=>gi w0 P res e w'∧aK (fun k=>bk.heap.size≤k) w w':=(by intro Z cN;have au:=UE w0 P kS m L fu cv ov cx ox p p.fe ⟨k,(a7,a'),(aX,a8),(dA,dB),r,l⟩ s ql dl qp cf {p.cz with eI:=(tx,ty)} X Z ht cN qM fj bH.out.aD bH.out.HX bH.out.x5 res aQ;rw[←r9.out,←HY.out];refine au.mono fun e w' h=>⟨h.res,aK.two (eW.out.trans (cN.mono eW.out.size)) h.2.1 fun k aw az=>.inl (bn.out k aw az)⟩);have cJ:=ao mz;clear mz aQ aJ;obtain⟨g0,g1,g2,g3,g4,g5,g6,g7,g8,g9,g10,g11,g12,g13⟩:=amx o3.out;obtain⟨t0,t1,t2,t3,t4⟩:=uF pS.out;have lZ:ak X P 13 (U p.fe):=cell_of (i:=13) ht.out.pl rfl;clear tZ abw;go_upto_region 7 with fail
     go_region_law (first|(rw[aW (by rfl)];go_simp;go_at_call 128;with_reducible refine (cJ.out _ ((Below.refl _ _).drew)).mono ?_;intro e b' c6;obtain⟨v6,rfl⟩:=c6.1.ret)|fail)
     all_goals
      clear g0 g1 g2 g3 g4 g5 g6 g7 g8 g9 g10 g11 g12 g13 t0 t1 t2 t3 t4 lZ;go_wp2_with fail;go_ret;exact c6
    |true=>
     have aQ:af (mq (fun d=>decide (d=p.fe)) {p.cz with eI:=(tx,ty)} eg p=res):=aJ.out;have amB:ak X T 13 (ad eP no nn):=cell_of (i:=13) o3.out rfl;clear aJ qM;go_upto_region 9 with fail;clear tZ abw amB
     go_loopw [52] (fun i wr=>∃(j:Nat) (q:cy) (rQ:afp) (zw:Nat) (zx:nm) (zy:Int) (zz zA:ada) (zB zC:aev) (aL:aeo),aL=wr∧j≤no∧i=I j∧af (dV w0 P rQ zw zx zy zz zA zB zC q aL)∧af (∀k,kS k→rQ k)∧af (aK kS X aL)∧af (mq (fun d=>decide (d=p.fe)) {p.cz with eI:=(tx,ty)} (eg.drop j) q=res)∧af (nV q)∧af (q.fe=p.fe)) (fun i _=>no -(intOf i).toNat)
     case atStart=>exact⟨0,p,kS,m,L,fu,cv,ov,cx,ox,_,rfl,cO _,rfl,ht.out,fun _ h=>h,aK.refl _ _,aQ.out,bH.out,rfl⟩
     case round=>
     obtain⟨j,q,rQ,zw,zx,zy,zz,zA,zB,zC,aL,rfl,b6,rfl,zD,HZ,Fo,UN,Pv,abx⟩:=hrel;clear ht aQ;by_cases bm:j<no
     ·have fD:(j:Int)<(no:Int):=(by omega);have gD:j<eg.length:=(by rw[rE.out];exact bm);obtain⟨⟨iB,⟨⟨k,⟨a7,a'⟩,⟨aX,a8⟩,⟨dA,dB⟩,r,l⟩,s⟩⟩,H0⟩:=aq (eg[j]);obtain⟨ea,eS,ql,dl,qp,cf,UO,py,_,H2,k4,ek,bV,gl,hI,jF,jG,nG,nH,mx,Fp⟩:=(qQ.out.keep Fo.out).at gD H0;subst UO;have Fq:=ao (H2.mono (R:=rQ) fun k _ h=>HZ.out k h);have Es:=ao H0;obtain⟨nl,eU⟩:=aq l.length;obtain⟨eA,oF⟩:=aq s.len;simp only at ek bV gl hI jF jG nG nH mx Fp;rw[eU] at mx;rw[oF] at Fp;have UP:=ao eU;have UQ:=ao oF;have qG:(0:Int)≤(j:Int):=(by omega);clear H2 H0 eU oF;go_upto_region 11 with fail;clear k4 ek bV gl hI jF jG nG nH mx Fp;have bT:af (an aL aL (aL.alloc (ai (#[U iB,I k,I a7,I a',I aX,I a8,I dA,I dB,I r,ad ql nl dl,ad qp eA cf]) fA))):=bh _ _;have rR:af ((aL.alloc (ai (#[U iB,I k,I a7,I a',I aX,I a8,I dA,I dB,I r,ad ql nl dl,ad qp eA cf]) fA)).heap[aL.heap.size]?=some (.cells #[U iB,I k,I a7,I a',I aX,I a8,I dA,I dB,I r,ad ql nl dl,ad qp eA cf] fA)):=cR _ _;generalize aL.alloc (.cells #[U iB,I k,I a7,I a',I aX,I a8,I dA,I dB,I r,ad ql nl dl,ad qp eA cf] fA)=Y at bT rR⊢;obtain⟨amC,Lt⟩:=aq aL.heap.size;rw[Lt] at rR⊢;clear Lt;have x6:=ao (zD.out.below bT.out);have jo:=ao (ba (Fo.out.get abv.out pS.out) bT.out);obtain⟨q2,gY⟩:=aq (jU q (decide (iB=p.fe)) ⟨⟨k,(a7,a'),(aX,a8),(dA,dB),r,l⟩,s⟩ {p.cz with eI:=(tx,ty)});have oG:=ao gY;have K4:(iB==q.fe)=decide (iB=p.fe):=(by rw[abx.out];rfl);have mz:∀Z,an Y Y Z→Calls Tryz.prog 128 #[ah P 0,U (iB==q.fe),.agg #[I k,I a7,I a',I aX,I a8,I dA,I dB,I r,ad ql nl dl,ad qp eA cf],.agg #[U p.cz.bx,U p.cz.bO,I p.cz.q,I tx,I ty]] Z fun e w'=>vm w0 P rQ kS aL q2 e w':=(by intro Z cN;have au:=UE w0 P rQ zw zx zy zz zA zB zC q (decide (iB=p.fe)) ⟨k,(a7,a'),(aX,a8),(dA,dB),r,l⟩ s ql dl qp cf {p.cz with eI:=(tx,ty)} aL Z zD (bT.out.trans (cN.mono bT.out.size)) Fq fj Pv.out.aD Pv.out.HX Pv.out.x5 q2 oG;rw[←UP.out,←UQ.out,K4];exact au.mono fun e w' h=>h.wide (bT.out.trans (cN.mono bT.out.size)) (fun k aw _=>.inl (HZ.out k aw)) (fun k aw=>aw));have cJ:=ao mz;clear mz gY K4;obtain⟨g0,g1,g2,g3,g4,g5,g6,g7,g8,g9,g10⟩:=pE rR.out;obtain⟨t0,t1,t2,t3,t4⟩:=uF jo.out;have lZ:ak Y P 13 (U q.fe):=cell_of (i:=13) x6.out.pl rfl
      go_region_law (first|(rw[aW (by rfl)];go_simp;go_at_call 128;with_reducible refine (cJ.out _ ((Below.refl _ _).drew)).mono ?_;intro e b' c6;obtain⟨v6,rfl⟩:=c6.res.ret)|fail)
      all_goals
       clear g0 g1 g2 g3 g4 g5 g6 g7 g8 g9 g10 t0 t1 t2 t3 t4 lZ cJ rR jo x6 bT;obtain⟨gY,hD,zE⟩:=c6;have np:=ao (Fo.out.trans hD);have fE:=ao gY;cases q2 with
       |error aY=>
        have aS:v6=(aY:Int):=(by injection zE with h;injection h with _ h);subst aS;have my:(((aY:Int)) !=0)=true:=by rcases Pu oG.out with rfl|rfl<;>rfl
        have aJ:af (.error aY=res):=(by show _=_;rw[←UN.out,rZ gD,Es.out];exact (amu oG.out).symm);clear gY hD zE;go_wp2_with fail;go_ret;rw[←aJ.out];exact⟨⟨fE.out,rfl⟩,aK.two eW.out np.out fun k aw az=>bn.out k aw az⟩
       |ok bJ=>
        obtain⟨aS,rL,ey,UR,f',US,HP,NU,UU,A1,Lu⟩:=zE;have aS:v6=0:=(by injection aS with h;injection h with _ h);subst aS;have amD:=ao Lu;have lY:af (∀k,kS k→rL k):=fun k aw=>A1 k (HZ.out k aw);have aJ:af (mq (fun d=>decide (d=p.fe)) {p.cz with eI:=(tx,ty)} (eg.drop (j+1)) bJ=res):=(by show _=_;rw[←UN.out,rZ gD,Es.out];exact (amv oG.out).symm);have gu:=ao (Pv.out.jU oG.out);have lC:af (bJ.fe=p.fe):=(amw oG.out).trans abx.out;clear gY hD Lu A1;go_wp2_with fail;go_round<;>first|exact⟨j+1,bJ,rL,ey,UR,f',US,HP,NU,UU,_,rfl,by omega,by go_num,amD.out,lY.out,np.out,aJ.out,gu.out,lC.out⟩|(simp[intOf]<;>omega)
     ·have kM:j=no:=(by omega);subst kM;have aJ:af (.ok q=res):=(by show _=_;rw[←UN.out,Ac (by rw[rE.out];exact aP _)];rfl);go_wp2_with fail;go_ret;rw[←aJ.out];exact⟨gi.nR rfl zD.out,aK.two eW.out Fo.out fun k aw az=>bn.out k aw az⟩
end c1
