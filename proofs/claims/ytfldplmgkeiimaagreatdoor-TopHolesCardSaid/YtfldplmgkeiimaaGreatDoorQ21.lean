/- Lemmas. -/
import Derived.Test.YtfldplmgkeiimaaGreatDoorQ19
import Derived.Test.YtfldplmgkeiimaaGreatDoorQ20
set_option linter.all false
set_option maxRecDepth 100000
set_option maxHeartbeats 12800000
namespace Go.Proofs.YtfldplmgkeiimaaGreatDoor
namespace dE
open Go.RowKit el
def rU(p:bp):Prop:=-536870912≤p.1∧p.1≤536870912∧-536870912≤p.2∧p.2≤536870912
structure nX(p:cG):Prop where
 e3:∀v∈p.top::p.levels,(v.fk.length:Int)≤p.made∧0≤v.n∧v.n≤10000∧0≤v.m∧v.m≤10000∧rU v.fF
 ap:∀k a,p.iX k=some a→(a.fk.length:Int)≤p.made
 BE:0≤p.made
 md:p.made≤100000
 dr:p.budget≤100000
 nk:p.levels.length≤16
 at_:rU p.at_
 fl:p.gd.length≤1000000
variable{p q:cG}
theorem nX.an(h:nX p):p.top.fk.length≤1000000:=by have:=(h.e3 p.top (by simp)).1;have:=h.md;omega
theorem nX.LS(h:nX p):0≤p.made∧p.made≤1000000:=⟨h.BE,by have:=h.md;omega⟩
theorem nX.Iw(h:nX p):p.levels.length≤1000:=dX h.nk (by decide)
variable{d:Bool}{s:ey}
theorem Vd(h:iM p d s=.ok q):q={p with made:=p.made+1,top:={p.top with fk:=p.top.fk++[(d,s)]}}∧p.made<p.budget:=by
 unfold iM at h;split at h
 ·cases h
 ·split at h
  ·cases h
  ·injection h with h;exact⟨h.symm,by omega⟩
theorem nX.iM{p q:cG}{d:Bool}{s:ey}(h:nX p)(aC:iM p d s=.ok q):nX q:=by
 obtain⟨rfl,b0⟩:=Vd aC;have af:=h.dr;refine⟨fun v aS=>?_,fun k a ha=>?_,?_,?_,af,h.nk,h.at_,h.fl⟩
 ·rcases List.mem_cons.1 aS with rfl|aS
  ·have aa:=h.e3 p.top (by simp);refine⟨?_,aa.2⟩;show ((p.top.fk++[(d,s)]).length:Int)≤p.made+1;rw[gh];have:=aa.1;simp;omega
  ·have aa:=h.e3 v (by simp[aS]);exact⟨by show _≤p.made+1;omega,aa.2⟩
 ·have:=h.ap k a ha;show _≤p.made+1;omega
 ·show 0≤p.made+1;have:=h.BE;omega
 ·show p.made+1≤100000;omega
theorem nX.k3{p q:cG}{d:Bool}{s:ey}{t:hE}(h:nX p)(aC:k3 p d s t=.ok q):nX q:=by
 unfold el.k3 at aC;split at aC
 ·cases aC
 ·exact h.iM aC
theorem nX.mb{f:Bool→Bool}{t:hE}:∀{l:List ec} {p q:cG},nX p→mb f t l p=.ok q→nX q
 |[],p,q,h,aC=>by unfold el.mb at aC;injection aC with aC;exact aC ▸ h
 |o::l,p,q,h,aC=>by
  unfold el.mb at aC;split at aC
  ·cases aC
  ·rename_i r hr;exact nX.mb (h.k3 hr) aC
variable{t:hE}{e:Nat}
theorem anq{f:Bool→Bool}{o:ec}{l:List ec}(h:k3 p (f o.1) o.2 t=.error e):mb f t (o::l) p=.error e:=by rw[el.mb,h]
theorem anr{f:Bool→Bool}{o:ec}{l:List ec}(h:k3 p (f o.1) o.2 t=.ok q):mb f t (o::l) p=mb f t l q:=by rw[el.mb,h]
theorem acj(h:iM p d s=.error e):e=5∨e=6:=by
 unfold el.iM at h;split at h
 ·injection h with h;exact .inl h.symm
 ·split at h
  ·injection h with h;exact .inr h.symm
  ·cases h
theorem ack(h:k3 p d s t=.error e):e=5∨e=6:=by
 unfold el.k3 at h;split at h
 ·injection h with h;exact .inl h.symm
 ·exact acj h
theorem aL.two{S zU:Jp}{w X w':bTo}(aa:av w w X)(ah:aL zU X w')(ax:∀k,S k→k<w.heap.size→zU k):aL S w w':=⟨ah.os.trans aa.os,ah.tape.trans aa.tape,ah.output.trans aa.output,dX aa.size ah.size,fun k hS ab=>(ah.block k (ax k hS ab) (jl ab aa.size)).trans (aa.block k ab)⟩
theorem ans(h:k3 p d s t=.ok q):q.fe=p.fe:=by
 unfold el.k3 at h;split at h
 ·cases h
 ·rw[(Vd h).1]
theorem ant{w:bTo}{k:Nat}{v0 v1 v2 v3 v4 v5 v6 du ds v9 v10 v11 v12 acm:ada}{t:aui}(h:bo w k (#[v0,v1,v2,v3,v4,v5,v6,du,ds,v9,v10,v11,v12,acm]) t):
  aw w k 0 v0∧aw w k 1 v1∧aw w k 2 v2∧aw w k 3 v3∧aw w k 4 v4∧aw w k 5 v5∧aw w k 6 v6∧aw w k 7 du∧aw w k 8 ds∧aw w k 9 v9∧aw w k 10 v10∧aw w k 11 v11∧aw w k 12 v12∧aw w k 13 acm:=by
 refine⟨?_,?_,?_,?_,?_,?_,?_,?_,?_,?_,?_,?_,?_,?_⟩<;>simp[World.cell?,h]
theorem anu(w0:bTo)(P:Nat)(p:cG)(tx ty:Int)(bE w:bTo)(H:J (lF w0 P p bE))(dC:J (av bE bE w))(hs:nX p)(gz:J (e4 tx∧e4 ty))(res:Except Nat cG)(dk:J (wD p (tx,ty)=res)):
  Calls Tryz.prog 149 #[dv P 0,.agg #[I tx,I ty]] w fun e w'=>fm w0 P res e w'∧aL (fun k=>bE.heap.size≤k) w w':=by
 obtain⟨R,m,L,fu,cv,ov,cx,ox,h⟩:=H.out;have og:=U h;have H1:=U (h.below dC.out);have cF:=U hs;obtain⟨o,bl⟩:=az (p.iX p.pr);have b':=U bl;obtain⟨rg,qs⟩:=az p.region;have sV:=U qs;clear h hs H bl qs;go_enter Tryz.func149,Tryz.ntmps149;go_upto_region 1 with fail;have b9:=U (H1.out.below (ba w (aD (#[I tx,I ty]) eE)));have oX:J ((w.alloc (aD (#[I tx,I ty]) eE)).heap[w.heap.size]?=some (.cells #[I tx,I ty] eE)):=cw _ _;have iC:J (av w w (w.alloc (aD (#[I tx,I ty]) eE))):=ba _ _;generalize w.alloc (.cells #[I tx,I ty] eE)=W at b9 oX iC⊢;obtain⟨D,bZ⟩:=az w.heap.size;rw[bZ] at oX⊢;clear bZ H1;have b1:aw W P 6 (.map (some m)):=cell_of (i:=6) b9.out.pl rfl;have b5:aw W P 7 (I p.pr):=cell_of (i:=7) b9.out.pl rfl;have qt:aw W P 19 (ai rg):=by rw[←sV.out];exact cell_of (i:=19) b9.out.pl rfl
 have qu:=lt_of_heap b9.out.pl;have vw:m<W.heap.size:=by obtain⟨_,_,hm⟩:=b9.out.mp.map;exact lt_of_heap hm
 obtain⟨v,la,aS⟩:=b9.out.mp.look p.pr;rw[b'.out] at la aS;cases o with
 |none=>
  have aS:v=FI:=aS;subst aS;have aE:J (.error 4=res):=(by show _=_;rw[←dk.out];unfold wD;rw[b'.out]);have mS:=la W.drew rfl;have kb:=la (W.alloc (aD (#[I 0,I 0,I 0,I 0,I 0,I 0,I 0,I 0,ay 0,ay 0,I 0,ai false,ai false,ay 0]) kf)).drew (Bo _ _ _ vw);clear la dk;go_region
  all_goals
   clear mS kb b1 b5;cases rg
   all_goals
    go_wp2_with fail;go_ret;rw[←aE.out];exact⟨⟨b9.out.aY.trans (((ba W _).drew).mono b9.out.aY.size),rfl⟩,aL.dM (iC.out.trans (((ba W _).drew).mono iC.out.size))⟩
 |some a=>
  obtain⟨⟨⟨k,⟨aA,aB⟩,⟨aU,aZ⟩,⟨eM,eN⟩,r,l⟩,s⟩,eZ,nY,mq,fk⟩:=a;obtain⟨ql,dl,qp,cL,eG,hC,rfl,eF,FV,Ve⟩:=aS;obtain⟨nl,gp⟩:=az l.length;obtain⟨hJ,w3⟩:=az s.len;obtain⟨no,ow⟩:=az fk.length;have mS:(Instr.lookup FH (.map (some m)) (I p.pr) true).run Tryz.prog W.drew=.ok (.tuple #[.agg #[I k,I aA,I aB,I aU,I aZ,I eM,I eN,I r,ad ql nl dl,ad qp hJ cL,I eZ,ai nY,ai mq,ad eG no hC],ai true]) W.drew:=(by rw[←gp,←w3,←ow];exact la W.drew rfl);have kb:(Instr.lookup FH (.map (some m)) (I p.pr) true).run Tryz.prog (W.alloc (aD (#[I 0,I 0,I 0,I 0,I 0,I 0,I 0,I 0,ay 0,ay 0,I 0,ai false,ai false,ay 0]) kf)).drew=.ok (.tuple #[.agg #[I k,I aA,I aB,I aU,I aZ,I eM,I eN,I r,ad ql nl dl,ad qp hJ cL,I eZ,ai nY,ai mq,ad eG no hC],ai true]) (W.alloc (aD (#[I 0,I 0,I 0,I 0,I 0,I 0,I 0,I 0,ay 0,ay 0,I 0,ai false,ai false,ay 0]) kf)).drew:=(by rw[←gp,←w3,←ow];exact la _ (Bo _ _ _ vw));have rf:=U gp;have LU:=U w3;have BF:=U ow;have pw:J (dY R W ql dl qp cL ⟨⟨k,(aA,aB),(aU,aZ),(eM,eN),r,l⟩,s⟩):=eF;have vl:J (iD R W eG fk):=FV;have awR:no≤1000000:=(by have aa:=cF.out.ap _ _ b'.out;have ah:=cF.out.md;have ax:(fk.length:Int)≤p.made:=aa;rw[ow] at ax;omega);clear la eF FV Ve gp w3 ow;have aE:J ((if rg=true then .error 4 else if mq=false then k3 p p.fe ⟨⟨k,(aA,aB),(aU,aZ),(eM,eN),r,l⟩,s⟩ {p.c9 with fF:=(tx,ty)} else mb (fun d=>decide (d=p.fe)) {p.c9 with fF:=(tx,ty)} fk p)=res):=(by show _=_;rw[←dk.out];unfold wD;rw[b'.out,←sV.out]);clear dk;go_region
  all_goals
   have cS:=U (b9.out.below ((ba W (aD (#[I k,I aA,I aB,I aU,I aZ,I eM,I eN,I r,ad ql nl dl,ad qp hJ cL,I eZ,ai nY,ai mq,ad eG no hC]) kf)).drew));have kB:=U (aO oX.out ((ba W (aD (#[I k,I aA,I aB,I aU,I aZ,I eM,I eN,I r,ad ql nl dl,ad qp hJ cL,I eZ,ai nY,ai mq,ad eG no hC]) kf)).drew));have dx:J (av W W ((W.alloc (aD (#[I k,I aA,I aB,I aU,I aZ,I eM,I eN,I r,ad ql nl dl,ad qp hJ cL,I eZ,ai nY,ai mq,ad eG no hC]) kf)).drew)):=(ba W _).drew;have qV:J ((W.alloc (aD (#[I k,I aA,I aB,I aU,I aZ,I eM,I eN,I r,ad ql nl dl,ad qp hJ cL,I eZ,ai nY,ai mq,ad eG no hC]) kf)).drew.heap[W.heap.size]?=some (.cells #[I k,I aA,I aB,I aU,I aZ,I eM,I eN,I r,ad ql nl dl,ad qp hJ cL,I eZ,ai nY,ai mq,ad eG no hC] kf)):=cw _ _;clear mS kb b1 b5 qt qu vw oX;generalize (W.alloc (aD (#[I k,I aA,I aB,I aU,I aZ,I eM,I eN,I r,ad ql nl dl,ad qp hJ cL,I eZ,ai nY,ai mq,ad eG no hC]) kf)).drew=c6 at cS kB dx qV⊢;obtain⟨T,fh⟩:=az W.heap.size;rw[fh] at qV⊢;clear fh;have acn:=U (pw.out.below dx.out);have aco:=U (vl.out.below dx.out);have FW:J (av w w c6):=iC.out.trans (dx.out.mono iC.out.size);clear b9 pw vl iC dx;have qt:aw c6 P 19 (ai rg):=(by rw[←sV.out];exact cell_of (i:=19) cS.out.pl rfl);cases rg with
   |true=>
    have aE:J (.error 4=res):=aE.out;go_wp2_with fail;go_ret;rw[←aE.out];exact⟨⟨cS.out.aY,rfl⟩,aL.dM FW.out⟩
   |false=>
    have acp:aw c6 P 14 (ai p.c9.bz):=cell_of (i:=14) cS.out.pl rfl;have acq:aw c6 P 15 (ai p.c9.bK):=cell_of (i:=15) cS.out.pl rfl;have acr:aw c6 P 16 (I p.c9.q):=cell_of (i:=16) cS.out.pl rfl;have anv:aw c6 P 17 (I p.c9.fF.1):=cell_of (i:=17) cS.out.pl rfl;have anw:aw c6 P 18 (I p.c9.fF.2):=cell_of (i:=18) cS.out.pl rfl;obtain⟨d0,d1⟩:=DA kB.out;have qj:=lt_of_heap kB.out;go_upto_region 6 with fail;have iT:=U (cS.out.below (ba c6 (aD (#[ai p.c9.bz,ai p.c9.bK,I p.c9.q,I tx,I ty]) p9)));have fq:J (av c6 c6 (c6.alloc (aD (#[ai p.c9.bz,ai p.c9.bK,I p.c9.q,I tx,I ty]) p9))):=ba _ _;have sW:J ((c6.alloc (aD (#[ai p.c9.bz,ai p.c9.bK,I p.c9.q,I tx,I ty]) p9)).heap[c6.heap.size]?=some (.cells #[ai p.c9.bz,ai p.c9.bK,I p.c9.q,I tx,I ty] p9)):=cw _ _;generalize c6.alloc (.cells #[ai p.c9.bz,ai p.c9.bK,I p.c9.q,I tx,I ty] p9)=X at iT fq sW⊢;obtain⟨e7,vk⟩:=az c6.heap.size;rw[vk] at sW⊢;have lC:J (bE.heap.size≤e7):=(by show _;rw[←vk];exact (dC.out.trans (FW.out.mono dC.out.size)).size);clear vk acp acq acr anv anw qt d0 d1 qj kB;have qV:=U (aO qV.out fq.out);have mM:J (av w w X):=FW.out.trans (fq.out.mono FW.out.size);have LV:J (av bE bE X):=dC.out.trans (mM.out.mono dC.out.size);have pw:=U ((acn.out.below fq.out).mono (R:=fun k=>R k∨(bE.heap.size≤k∧k<X.heap.size)) fun _ _ h=>.inl h);have vl:=U ((aco.out.below fq.out).mono (R:=fun k=>R k∨(bE.heap.size≤k∧k<X.heap.size)) fun _ _ h=>.inl h);clear cS fq FW acn aco iT;have iT:=U (og.out.fresh LV.out);have a7:J (∀k,bE.heap.size≤k→k<w.heap.size→(fun k=>R k∨(bE.heap.size≤k∧k<X.heap.size)) k):=fun k aa ah=>.inr ⟨aa,jl ah mM.out.size⟩;have acs:J ((fun k=>R k∨(bE.heap.size≤k∧k<X.heap.size)) e7):=.inr ⟨lC.out,lt_of_heap sW.out⟩;generalize (fun k=>R k∨(bE.heap.size≤k∧k<X.heap.size))=zU at iT pw vl a7 acs;have Aj:aw X T 10 (I eZ):=cell_of (i:=10) qV.out rfl;have acu:aw X T 12 (ai mq):=cell_of (i:=12) qV.out rfl;cases mq with
    |false=>
     have br:J (k3 p p.fe ⟨⟨k,(aA,aB),(aU,aZ),(eM,eN),r,l⟩,s⟩ {p.c9 with fF:=(tx,ty)}=res):=aE.out;have px:∀Z,av X X Z→Calls Tryz.prog 152 #[dv P 0,ai p.fe,.agg #[I k,I aA,I aB,I aU,I aZ,I eM,I eN,I r,ad ql nl dl,ad qp hJ cL],.agg #[ai p.c9.bz,ai p.c9.bK,I p.c9.q,I tx,I ty]] Z fun e w'=>fm w0 P res e w'∧aL (fun k=>bE.heap.size≤k) w w':=(by intro Z eU;have aa:=aca w0 P zU m L fu cv ov cx ox p p.fe ⟨k,(aA,aB),(aU,aZ),(eM,eN),r,l⟩ s ql dl qp cL {p.c9 with fF:=(tx,ty)} X Z iT eU pw gz cF.out.an cF.out.LS cF.out.Iw res br;rw[←rf.out,←LU.out];refine aa.mono fun e w' h=>⟨h.res,aL.two (mM.out.trans (eU.mono mM.out.size)) h.2.1 fun k ab aj=>.inl (a7.out k ab aj)⟩);have b8:=U px;clear px br aE;obtain⟨g0,g1,g2,g3,g4,g5,g6,g7,g8,g9,g10,g11,g12,g13⟩:=ant qV.out;obtain⟨t0,t1,t2,t3,t4⟩:=uD sW.out;have Ak:aw X P 13 (ai p.fe):=cell_of (i:=13) iT.out.pl rfl;clear Aj acu;go_upto_region 7 with fail
     go_region_law (first|(rw[aT (by rfl)];go_simp;go_at_call 152;go_fit (b8.out _ ((Below.refl _ _).drew));intro e cX dk;obtain⟨v6,rfl⟩:=dk.1.ret)|fail)
     all_goals
      clear g0 g1 g2 g3 g4 g5 g6 g7 g8 g9 g10 g11 g12 g13 t0 t1 t2 t3 t4 Ak;go_wp2_with fail;go_ret;exact dk
    |true=>
     have br:J (mb (fun d=>decide (d=p.fe)) {p.c9 with fF:=(tx,ty)} fk p=res):=aE.out;have anx:aw X T 13 (ad eG no hC):=cell_of (i:=13) qV.out rfl;clear aE pw;go_upto_region 9 with fail;clear Aj acu anx
     go_loopw [52] (fun i wr=>∃(j:Nat) (q:cG) (Ix:Jp) (Vf:Nat) (Vg:o3) (Vh:Int) (Vi Vj:ada) (Vk Vl:bTv) (aG:bTo),aG=wr∧j≤no∧i=I j∧J (eR w0 P Ix Vf Vg Vh Vi Vj Vk Vl q aG)∧J (∀k,zU k→Ix k)∧J (aL zU X aG)∧J (mb (fun d=>decide (d=p.fe)) {p.c9 with fF:=(tx,ty)} (fk.drop j) q=res)∧J (nX q)∧J (q.fe=p.fe)) (fun i _=>no -(intOf i).toNat)
     case atStart=>exact⟨0,p,zU,m,L,fu,cv,ov,cx,ox,_,rfl,eC _,rfl,iT.out,fun _ h=>h,aL.refl _ _,br.out,cF.out,rfl⟩
     case round=>
     obtain⟨j,q,Ix,Vf,Vg,Vh,Vi,Vj,Vk,Vl,aG,rfl,cB,rfl,DB,Vm,P',Vn,tF,acv⟩:=hrel;clear iT br;by_cases b0:j<no
     ·have ib:(j:Int)<(no:Int):=(by omega);have fs:j<fk.length:=(by rw[BF.out];exact b0);obtain⟨⟨od,⟨⟨k,⟨aA,aB⟩,⟨aU,aZ⟩,⟨eM,eN⟩,r,l⟩,s⟩⟩,Vo⟩:=az (fk[j]);obtain⟨hY,lK,ql,dl,qp,cL,anz,ri,_,acw,l9,dt,cE,ft,gr,iW,gu,lL,lM,kJ,Vp⟩:=(vl.out.keep P'.out).at fs Vo;subst anz;have LW:=U (acw.mono (R:=Ix) fun k _ h=>Vm.out k h);have Fk:=U Vo;obtain⟨nl,gp⟩:=az l.length;obtain⟨hJ,w3⟩:=az s.len;simp only at dt cE ft gr iW gu lL lM kJ Vp;rw[gp] at kJ;rw[w3] at Vp;have anA:=U gp;have anB:=U w3;have Bi:(0:Int)≤(j:Int):=(by omega);clear acw Vo gp w3;go_upto_region 11 with fail;clear l9 dt cE ft gr iW gu lL lM kJ Vp;have ek:J (av aG aG (aG.alloc (aD (#[ai od,I k,I aA,I aB,I aU,I aZ,I eM,I eN,I r,ad ql nl dl,ad qp hJ cL]) dQ))):=ba _ _;have yy:J ((aG.alloc (aD (#[ai od,I k,I aA,I aB,I aU,I aZ,I eM,I eN,I r,ad ql nl dl,ad qp hJ cL]) dQ)).heap[aG.heap.size]?=some (.cells #[ai od,I k,I aA,I aB,I aU,I aZ,I eM,I eN,I r,ad ql nl dl,ad qp hJ cL] dQ)):=cw _ _;generalize aG.alloc (.cells #[ai od,I k,I aA,I aB,I aU,I aZ,I eM,I eN,I r,ad ql nl dl,ad qp hJ cL] dQ)=Y at ek yy⊢;obtain⟨awS,acx⟩:=az aG.heap.size;rw[acx] at yy⊢;clear acx;have Bb:=U (DB.out.below ek.out);have kD:=U (aO (P'.out.get acs.out sW.out) ek.out);obtain⟨vx,h4⟩:=az (k3 q (decide (od=p.fe)) ⟨⟨k,(aA,aB),(aU,aZ),(eM,eN),r,l⟩,s⟩ {p.c9 with fF:=(tx,ty)});have BG:=U h4;have acy:(od==q.fe)=decide (od=p.fe):=(by rw[acv.out];rfl);have px:∀Z,av Y Y Z→Calls Tryz.prog 152 #[dv P 0,ai (od==q.fe),.agg #[I k,I aA,I aB,I aU,I aZ,I eM,I eN,I r,ad ql nl dl,ad qp hJ cL],.agg #[ai p.c9.bz,ai p.c9.bK,I p.c9.q,I tx,I ty]] Z fun e w'=>wY w0 P Ix zU aG vx e w':=(by intro Z eU;have aa:=aca w0 P Ix Vf Vg Vh Vi Vj Vk Vl q (decide (od=p.fe)) ⟨k,(aA,aB),(aU,aZ),(eM,eN),r,l⟩ s ql dl qp cL {p.c9 with fF:=(tx,ty)} aG Z DB (ek.out.trans (eU.mono ek.out.size)) LW gz tF.out.an tF.out.LS tF.out.Iw vx BG;rw[←anA.out,←anB.out,acy];exact aa.mono fun e w' h=>h.wide (ek.out.trans (eU.mono ek.out.size)) (fun k ab _=>.inl (Vm.out k ab)) (fun k ab=>ab));have b8:=U px;clear px h4 acy;obtain⟨g0,g1,g2,g3,g4,g5,g6,g7,g8,g9,g10⟩:=qM yy.out;obtain⟨t0,t1,t2,t3,t4⟩:=uD kD.out;have Ak:aw Y P 13 (ai q.fe):=cell_of (i:=13) Bb.out.pl rfl
      go_region_law (first|(rw[aT (by rfl)];go_simp;go_at_call 152;go_fit (b8.out _ ((Below.refl _ _).drew));intro e cX dk;obtain⟨v6,rfl⟩:=dk.res.ret)|fail)
      all_goals
       clear g0 g1 g2 g3 g4 g5 g6 g7 g8 g9 g10 t0 t1 t2 t3 t4 Ak b8 yy kD Bb ek;obtain⟨h4,vy,Vq⟩:=dk;have BH:=U (P'.out.trans vy);have im:=U h4;cases vx with
       |error aN=>
        have aS:v6=(aN:Int):=(by injection Vq with h;injection h with _ h);subst aS;have qF:(((aN:Int)) !=0)=true:=by rcases ack BG.out with rfl|rfl<;>rfl
        have aE:J (.error aN=res):=(by show _=_;rw[←Vn.out,l3 fs,Fk.out];exact (anq BG.out).symm);clear h4 vy Vq;go_wp2_with fail;go_ret;rw[←aE.out];exact⟨⟨im.out,rfl⟩,aL.two mM.out BH.out fun k ab aj=>a7.out k ab aj⟩
       |ok ch=>
        obtain⟨aS,R',cQ,anC,f',anD,PX,ZS,anE,Ih,acz⟩:=Vq;have aS:v6=0:=(by injection aS with h;injection h with _ h);subst aS;have anF:=U acz;have vo:J (∀k,zU k→R' k):=fun k ab=>Ih k (Vm.out k ab);have aE:J (mb (fun d=>decide (d=p.fe)) {p.c9 with fF:=(tx,ty)} (fk.drop (j+1)) ch=res):=(by show _=_;rw[←Vn.out,l3 fs,Fk.out];exact (anr BG.out).symm);have pz:=U (tF.out.k3 BG.out);have oX:J (ch.fe=p.fe):=(ans BG.out).trans acv.out;clear h4 vy acz Ih;go_wp2_with fail;go_round<;>first|exact⟨j+1,ch,R',cQ,anC,f',anD,PX,ZS,anE,_,rfl,by omega,by go_num,anF.out,vo.out,BH.out,aE.out,pz.out,oX.out⟩|(simp[intOf]<;>omega)
     ·have iH:j=no:=(by omega);subst iH;have aE:J (.ok q=res):=(by show _=_;rw[←Vn.out,n7 (by rw[BF.out];exact bD _)];rfl);go_wp2_with fail;go_ret;rw[←aE.out];exact⟨fm.mJ rfl DB.out,aL.two mM.out P'.out fun k ab aj=>a7.out k ab aj⟩
end dE
