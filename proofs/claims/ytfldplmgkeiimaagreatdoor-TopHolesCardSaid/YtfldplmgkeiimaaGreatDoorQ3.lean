/- Lemmas. -/
import Derived.Test.YtfldplmgkeiimaaGreatDoorQ2
set_option linter.all false
set_option maxRecDepth 100000
set_option maxHeartbeats 12800000
namespace Go.Proofs.YtfldplmgkeiimaaGreatDoor
abbrev gA:=@Prod.mk.injEq
abbrev Ev:=@Int.natCast_mul
abbrev rk:=@Int.le_refl
abbrev J5:=@Int.toNat_natCast
abbrev N2:=@Array.getElem?_setIfInBounds_self_of_lt
abbrev Ew:=@Array.getElem?_setIfInBounds_ne
abbrev fN:=@Ne.symm
abbrev hk:=@List.length_map
abbrev J6:=@List.getElem_map
abbrev AN:=@Array.size_setIfInBounds
abbrev j4:=@List.getElem_mem
abbrev N3:=@Proofs.Tryz.underlying72
abbrev N4:=@size_madeCells
abbrev Sv:=@Proofs.Tryz.underlying78
abbrev J7:=@List.mem_singleton
abbrev tt:=@bne_iff_ne
abbrev J8:=@List.nil_append
namespace dE
open Go.RowKit el
theorem Ha{P:Program}(t e:aui)(z:ada)(size bytes:Nat)(bH:P.underlying t=some (.slice e))(Hb:(P.info? e).map (fun i=>(i.zero,i.size,i.bytes))=some (some z,size,bytes))(n:Nat)(Hc:bytes *n≤281474976710656)(J9:n≤9223372036854775807)(w:bTo):
  (Instr.makeSlice t (I (n:Int)) (I (n:Int))).run P w=.ok (bG w.heap.size 0 n n) (w.alloc (aD (madeCells z.cells (n *size)) e)):=by
 obtain⟨i,hi,YC⟩:=Option.map_eq_some_iff.1 Hb;simp only[gA] at YC;obtain⟨bx,hs,af⟩:=YC
 have sg:(i.bytes:Int) *(n:Int)≤281474976710656:=by
  have h:((i.bytes *n:Nat):Int)≤281474976710656:=by rw[af];omega
  rwa [Ev] at h
 have hr:=run_make (P:=P) w t e i z bH hi bx .i64 .i64 n n (by omega) (rk _) sg (by omega);simp only[J5,hs] at hr;exact hr
theorem YD:(Tryz.prog.info? 78).map (fun i=>(i.zero,i.size,i.bytes))=some (some (ay 0),1,24):=by kernel_rfl
theorem YE:(Tryz.prog.info? 71).map (fun i=>(i.zero,i.size,i.bytes))=some (some (.agg #[I 0,I 0]),2,16):=by kernel_rfl
def nF(R:Jp)(x:bTo)(cs:agv)(t:hE)(l:List (List bp))(j:Nat):Prop:=∀i (hi:i<l.length),i<j→∃q c,cs[i]?=some (.slice q l[i].length c)∧l[i].length≤c∧hX R x q (l[i].map (iU t))
theorem nF.keep{R:Jp}{x y:bTo}{cs:agv}{t:hE}{l:List (List bp)}{j:Nat}(h:nF R x cs t l j)(ab:aL R x y):nF R y cs t l j:=by intro i hi cB;obtain⟨q,c,aa,ah,ax⟩:=h i hi cB;exact⟨q,c,aa,ah,ax.keep ab⟩
theorem nF.mono{R Q:Jp}{x:bTo}{cs:agv}{t:hE}{l:List (List bp)}{j:Nat}(h:nF R x cs t l j)(ab:∀k,k<x.heap.size→R k→Q k):nF Q x cs t l j:=by intro i hi cB;obtain⟨q,c,aa,ah,ax⟩:=h i hi cB;exact⟨q,c,aa,ah,ax.mono ab⟩
variable{x:bTo}{cs ps:agv}{t:hE}{r:List bp}
theorem nF.next{R:Jp}{l:List (List bp)}{j:Nat}(h:nF R x cs t l j)(hs:j<cs.size){q:aya}{m c:Nat}(cB:j<l.length)(hr:l[j]=r)(hm:r.length=m)(hc:m≤c)(hp:hX R x q (r.map (iU t))):nF R x (cs.setIfInBounds j (ad q m c)) t l (j+1):=by
 intro i hi b0;by_cases e:i=j
 ·subst e;refine⟨q,c,?_,by rw[hr,hm];exact hc,by rw[hr];exact hp⟩;rw[N2 hs,hr,hm]
 ·obtain⟨jF,c',aa,ah,ax⟩:=h i hi (by omega);exact⟨jF,c',by rw[Ew (fN e)];exact aa,ah,ax⟩
theorem nF.cons{R:Jp}{x:bTo}{cs:agv}{B:Nat}{t:hE}{l:List (List bp)}(h:nF R x cs t l l.length)(bJ:R B)(aF:bo x B cs fo)(af:l.length≤nA):iF R x (some (ag B 0)) (l.map fun c=>c.map (iU t)):=by
 refine⟨by rw[hk];exact af,fun _=>⟨B,0,cs,rfl,bJ,aF,fun i hi=>?_⟩⟩;rw[hk] at hi;obtain⟨q,c,aa,ah,ax⟩:=h i hi hi;refine⟨q,c,?_,?_,?_⟩
 ·rw[lk,aa];simp
 ·simpa using ah
 ·rw[J6];exact ax
def AO(ps:agv)(t:hE)(r:List bp)(k:Nat):Prop:=∀i (hi:i<r.length),i<k→ps[i *2]?=some (I (iU t r[i]).1)∧ps[i *2+1]?=some (I (iU t r[i]).2)
theorem AO.next{k:Nat}(h:AO ps t r k)(hs:k *2+1<ps.size){z u:bp}(ab:k<r.length)(bx:r[k]=z)(hu:iU t z=u):AO ((ps.setIfInBounds (k *2) (I u.1)).setIfInBounds (k *2+1) (I u.2)) t r (k+1):=by
 intro i hi b0;by_cases e:i=k
 ·subst e;rw[bx,hu];constructor
  ·rw[Ew (by omega),N2 (by omega)]
  ·rw[N2 (by rw[AN];exact hs)]
 ·obtain⟨aa,ah⟩:=h i hi (by omega);constructor
  ·rw[Ew (by omega),Ew (by omega)];exact aa
  ·rw[Ew (by omega),Ew (by omega)];exact ah
theorem AO.J'{R:Jp}{C:Nat}(h:AO ps t r r.length)(lA:R C)(aF:bo x C ps eE)(af:r.length≤nA):hX R x (some (ag C 0)) (r.map (iU t)):=by refine⟨by rw[hk];exact af,fun _=>⟨C,0,ps,rfl,lA,aF,fun i hi=>?_⟩⟩;rw[hk] at hi;obtain⟨aa,ah⟩:=h i hi hi;rw[lk,aa,ah];simp
theorem Ka{w:bTo}{k i:Nat}{t:aui}(h:bo w k cs t)(hi:i<cs.size):∃v,aw w k i v:=by rw[show w.cell? ⟨k,i,none⟩=cs[i]? from by simp[World.cell?,h],Array.getElem?_eq_getElem hi];exact⟨_,rfl⟩
theorem YF(w:bTo)(a:Addr)(u:ada):(w.setCell a u).heap.size=w.heap.size:=by simp[World.setCell]
theorem fM.off{w0:bTo}{g:Nat}{dP c9 out:agv}(h:fM w0 g dP c9 out x){j:Nat}(cB:g+1+1+1<j)(i:Nat)(u:ada):fM w0 g dP c9 out (x.setCell (ag j i) u):=
 ⟨(xI (by omega)).trans h.dP,(xI (by omega)).trans h.c9,(xI (by omega)).trans h.res,(xI (by omega)).trans h.out,h.aY.setCell (p:=⟨j,i,none⟩) (by show g≤j;omega) _⟩
theorem aiH(s:bh)(b:dL)(ab:b.k=2)(f:Nat)(left m:Int)(S:Jp)(pl:aya)(cl:Nat)(pp:aya)(cp:Nat)(w:bTo)(t:hE)
  (gz:J (e4 t.fF.1∧e4 t.fF.2)) (eF:J (dY S w pl cl pp cp ⟨b,s⟩)) (bl:J (kY b s f left=some m)):
  Calls Tryz.prog 228 #[j0 b (ad pl b.l.length cl) (ad pp s.len cp),uC t] w (xJ w t b s):=by
 obtain⟨k,⟨aA,aB⟩,⟨aU,aZ⟩,⟨cx,aP⟩,r,l⟩:=b;obtain⟨bz,bK,ck,ex,bw⟩:=t;simp only at ab;subst ab;show Calls _ _ #[.agg #[I 2,I aA,I aB,I aU,I aZ,I cx,I aP,I r,ad pl l.length cl,ad pp s.len cp],.agg #[ai bz,ai bK,I ck,I ex,I bw]] w _;have nG:J (∀i (hi:i<l.length) k (ab:k<l[i].length),gI l[i][k]=true):=by intro i hi k ab;have h:=((AL bl.out).2.2.1 (show (2:Int)≠6 by decide)).1;simp[ia,p0] at h;have ah:=h.2 l[i] (j4 hi);have ax:=ah l[i][k].1 l[i][k].2 (j4 ab);exact ax
 obtain⟨n,hn⟩:=az l.length;have a1:=U hn;have oG:n≤1000000000:=by rw[←hn];exact eF.out.l.1
 rw[hn];have uF:=Ha (P:=Tryz.prog) 72 78 (ay 0) 1 24 N3 YD n (by omega) (by omega);clear hn;go_enter G9,G';go_upto_region 2 with fail;obtain⟨W,a6⟩:=az ((((w.alloc (aD (#[I 2,I aA,I aB,I aU,I aZ,I cx,I aP,I r,ad pl n cl,ad pp s.len cp]) dh)).alloc (aD (#[ai bz,ai bK,I ck,I ex,I bw]) p9)).alloc (aD (#[I 0,I 0,I 0,I 0,I 0,I 0,I 0,I 0,ay 0,ay 0]) dh)).alloc (aD (#[I 2,I 0,I 0,I 0,I 0,I 0,I 0,I r,ay 0,ay 0]) dh));have bB:J (fM w w.heap.size #[I 2,I aA,I aB,I aU,I aZ,I cx,I aP,I r,ad pl n cl,ad pp s.len cp] #[ai bz,ai bK,I ck,I ex,I bw] #[I 2,I 0,I 0,I 0,I 0,I 0,I 0,I r,ay 0,ay 0] W):=by obtain⟨aa,ah,ax,bg,af⟩:=zj a6;exact⟨aa,ah,ax,bg,af⟩
 rw[a6];clear a6;obtain⟨g0,g1,g2,g3,g4,g5,g6,g7,g8,g9⟩:=en bB.out.dP;obtain⟨l9,dt,cE,ft,gr,iW,gu,lL,lM,kJ⟩:=en bB.out.out;have n0:=lt_of_heap bB.out.out;have ef:=lu bB.out.out;go_upto_region 14 with fail;have dn:J (fM w w.heap.size #[I 2,I aA,I aB,I aU,I aZ,I cx,I aP,I r,ad pl n cl,ad pp s.len cp] #[ai bz,ai bK,I ck,I ex,I bw] #[I 2,I 0,I 0,I 0,I 0,I 0,I 0,I r,bG W.heap.size 0 n n,ay 0] ((W.setCell (ag (w.heap.size+1+1+1) 8) (bG W.heap.size 0 n n)).alloc (aD (madeCells #[ay 0] n) fo))):=(bB.out.set 8 _).below (ba _ _)
 have h0:J (((W.setCell (ag (w.heap.size+1+1+1) 8) (bG W.heap.size 0 n n)).alloc (aD (madeCells #[ay 0] n) fo)).heap[W.heap.size]?=some (.cells (madeCells #[ay 0] n) fo)):=by
  have h:=cw (W.setCell (ag (w.heap.size+1+1+1) 8) (bG W.heap.size 0 n n)) (aD (madeCells #[ay 0] n) fo)
  rwa [YF] at h
 obtain⟨B,bJ⟩:=az W.heap.size;have nH:J (w.heap.size+1+1+1<B):=by show _<_;rw[←bJ];exact lt_of_heap bB.out.out
 clear g0 g1 g2 g3 g4 g5 g6 g7 g9 l9 dt cE ft gr iW gu lL lM kJ n0 ef uF;rw[bJ] at dn h0⊢;generalize (W.setCell (ag (w.heap.size+1+1+1) 8) (bG B 0 n n)).alloc (.cells (madeCells #[ay 0] n) fo)=cr at dn h0⊢;clear g8 bB bJ;clear W;obtain⟨g0,g1,g2,g3,g4,g5,g6,g7,g8,g9⟩:=en dn.out.dP;go_wp2_with fail
 go_loopw [78] (fun i wr=>∃(j:Nat) (aG:bTo),aG=wr∧j≤n∧i=I j∧J (fM w w.heap.size #[I 2,I aA,I aB,I aU,I aZ,I cx,I aP,I r,ad pl n cl,ad pp s.len cp] #[ai bz,ai bK,I ck,I ex,I bw] #[I 2,I 0,I 0,I 0,I 0,I 0,I 0,I r,bG B 0 n n,ay 0] aG)∧J (∃cs,bo aG B cs fo∧cs.size=n∧nF (fun k=>w.heap.size+1+1+1<k∧k≠B) aG cs ⟨bz,bK,ck,(ex,bw)⟩ l j)) (fun i _=>n -(intOf i).toNat)
 case atStart=>exact⟨0,_,rfl,eC _,rfl,dn.out,⟨_,h0.out,by rw[N4],fun i hi h=>absurd h (l7 _)⟩⟩
 case round=>
 clear g0 g1 g2 g3 g4 g5 g6 g7 g8 g9;obtain⟨j,aG,rfl,cB,rfl,p',Cu⟩:=hrel;by_cases b0:j<n
 ·have fs:j<l.length:=(by rw[a1.out];exact b0);have ib:(j:Int)<(n:Int):=(by omega);obtain⟨gm,hr⟩:=az (l[j]);obtain⟨fS,o,q,jB,rfl,nB,ph,mx⟩:=(eF.out.l.below p'.out.aY).at fs hr;have bL:=U mx;have br:=U hr;have r9:gm.length≤1000000000:=mx.1;obtain⟨cQ,Cs⟩:=az gm.length;have xK:=U Cs;rw[Cs] at nB r9 ph;have aiI:=Ha (P:=Tryz.prog) 78 71 (.agg #[I 0,I 0]) 2 16 Sv YE cQ (by omega) (by omega);clear mx hr Cs;go_upto_region 18 with fail;obtain⟨C,lA⟩:=az aG.heap.size;have j5:J (B<C):=(by obtain⟨cs,h,_⟩:=Cu.out;show B<C;rw[←lA];exact lt_of_heap h);have wk:=U (p'.out.below (ba aG (aD (madeCells #[I 0,I 0] (cQ *2)) eE)));have Cv:J (∃cs,(aG.alloc (aD (madeCells #[I 0,I 0] (cQ *2)) eE)).heap[B]?=some (.cells cs fo)∧cs.size=n∧nF (fun k=>(w.heap.size+1+1+1<k∧k≠B)∧k<C) (aG.alloc (aD (madeCells #[I 0,I 0] (cQ *2)) eE)) cs ⟨bz,bK,ck,(ex,bw)⟩ l j):=(by obtain⟨cs,aa,ah,ax⟩:=Cu.out;exact⟨cs,aO aa (ba _ _),ah,(ax.mono fun k ab h=>⟨h,by omega⟩).keep (.alloc _ _ _)⟩);have YG:J ((aG.alloc (aD (madeCells #[I 0,I 0] (cQ *2)) eE)).heap[C]?=some (.cells (madeCells #[I 0,I 0] (cQ *2)) eE)):=(by show _=_;rw[←lA];exact cw _ _);have kL:=U (ba aG (aD (madeCells #[I 0,I 0] (cQ *2)) eE));have N5:=U lA;rw[lA];clear aiI nB lA;generalize aG.alloc (.cells (madeCells #[I 0,I 0] (cQ *2)) eE)=avE at wk Cv YG kL⊢;go_wp2_with fail
  go_loopw [88] (fun i fT=>∃(k:Nat) (cO:bTo),cO=fT∧k≤cQ∧i=I k∧J (fM w w.heap.size #[I 2,I aA,I aB,I aU,I aZ,I cx,I aP,I r,bG fS o n cl,ad pp s.len cp] #[ai bz,ai bK,I ck,I ex,I bw] #[I 2,I 0,I 0,I 0,I 0,I 0,I 0,I r,bG B 0 n n,ay 0] cO)∧J (∃cs,bo cO B cs fo∧cs.size=n∧nF (fun k=>(w.heap.size+1+1+1<k∧k≠B)∧k<C) cO cs ⟨bz,bK,ck,(ex,bw)⟩ l j)∧J (Below C aG cO)∧J (∃ps,bo cO C ps eE∧ps.size=cQ *2∧AO ps ⟨bz,bK,ck,(ex,bw)⟩ gm k)) (fun i _=>cQ -(intOf i).toNat)
  case atStart=>exact⟨0,_,rfl,eC _,rfl,wk.out,Cv.out,N5.out ▸ kL.out,⟨_,YG.out,by rw[N4],fun i hi h=>absurd h (l7 _)⟩⟩
  case round=>
  obtain⟨k,cO,rfl,ab,rfl,kr,lN,dx,nI⟩:=hrel;by_cases ko:k<cQ
  ·have qA:k<gm.length:=(by rw[xK.out];exact ko);have NP:(k:Int)<(cQ:Int):=(by omega);obtain⟨z,bx⟩:=az (gm[k]);have Sw:=bL.out.below (w':=cO) (N5.out ▸ dx.out);obtain⟨nC,l6,rfl,s0,s1⟩:=Sw.at qA bx;have aiJ:nC<cO.heap.size:=(by obtain⟨bd,uG,kM,he,_,aF,_⟩:=Sw.2 (by omega);injection he with he;injection he with qF pj;rw[qF];exact lt_of_heap aF);have oc:gI z=true:=(by have h:=nG.out j fs k (by rw[br.out];exact qA);simp only[br.out] at h;rw[←bx];exact h);obtain⟨gR,gS⟩:=z;have aV:=U bx;have aE:=U (uA oc);clear bx oc Sw;go_upto_region 21 with fail;have rl:=U (kr.out.below (ba cO (dB (gR,gS))));have uH:J (∃cs,(cO.alloc (dB (gR,gS))).heap[B]?=some (.cells cs fo)∧cs.size=n∧nF (fun k=>(w.heap.size+1+1+1<k∧k≠B)∧k<C) (cO.alloc (dB (gR,gS))) cs ⟨bz,bK,ck,(ex,bw)⟩ l j):=(by obtain⟨cs,aa,ah,ax⟩:=lN.out;exact⟨cs,aO aa (ba _ _),ah,ax.keep (.alloc _ _ _)⟩);have fq:=U (dx.out.trans ((ba cO (dB (gR,gS))).mono (by have:=dx.out.size;have:=N5.out;omega)));have iL:J (∃ps,(cO.alloc (dB (gR,gS))).heap[C]?=some (.cells ps eE)∧ps.size=cQ *2∧AO ps ⟨bz,bK,ck,(ex,bw)⟩ gm k):=(by obtain⟨ps,aa,ah,ax⟩:=nI.out;exact⟨ps,aO aa (ba _ _),ah,ax⟩);have wm:J ((cO.alloc (dB (gR,gS))).heap[cO.heap.size]?=some (dB (gR,gS))):=cw _ _;clear s0 s1 aiJ kr lN dx nI;generalize cO.heap.size=D at wm⊢;generalize cO.alloc (dB (gR,gS))=dJ at rl uH fq iL wm⊢;obtain⟨d0,d1,_,_⟩:=Es wm.out;obtain⟨t0,t1,t2,t3,t4⟩:=uD rl.out.c9;obtain⟨⟨x,y⟩,hp⟩:∃p:bp,iU ⟨bz,bK,ck,(ex,bw)⟩ (gR,gS)=p:=⟨_,rfl⟩;have zn:=U hp;clear hp;go_wp2_with fail;refine (AJ ⟨bz,bK,ck,(ex,bw)⟩ gR gS aE.out.1 aE.out.2 gz.out.1 gz.out.2 x y zn dJ).mono ?_;rintro e cb ⟨rfl,gB⟩;have jS:=U (rl.out.below gB);have zo:J (∃cs,bo cb B cs fo∧cs.size=n∧nF (fun k=>(w.heap.size+1+1+1<k∧k≠B)∧k<C) cb cs ⟨bz,bK,ck,(ex,bw)⟩ l j):=(by obtain⟨cs,aa,ah,ax⟩:=uH.out;exact⟨cs,aO aa gB,ah,ax.keep (.dM gB)⟩);have ek:=U (fq.out.trans (gB.mono (by have:=fq.out.size;have:=N5.out;omega)));obtain⟨ps,kp,oH,YH⟩:=iL.out;have Ex:=aO kp gB;have Kb:=U Ex;have rm:=U oH;have N6:=U YH;clear d0 d1 t0 t1 t2 t3 t4 rl uH fq iL wm gB kp YH;obtain⟨v0,aJ⟩:=Ka (i:=k *2) Ex (by omega);obtain⟨v1,aI⟩:=Ka (i:=k *2+1) Ex (by omega);have f0:=lu Ex (k *2);have f1:=lu Ex (k *2+1);have hl:=lt_of_heap Ex;clear Ex oH;go_upto_region 22 with fail;have wo:J (fM w w.heap.size #[I 2,I aA,I aB,I aU,I aZ,I cx,I aP,I r,bG fS o n cl,ad pp s.len cp] #[ai bz,ai bK,I ck,I ex,I bw] #[I 2,I 0,I 0,I 0,I 0,I 0,I 0,I r,bG B 0 n n,ay 0] ((cb.setCell (ag C (k *2)) (I x)).setCell (ag C (k *2+1)) (I y))):=(by have aa:=j5.out;have ah:=nH.out;exact (jS.out.off (by omega) _ _).off (by omega) _ _);have zp:J (∃cs,((cb.setCell (ag C (k *2)) (I x)).setCell (ag C (k *2+1)) (I y)).heap[B]?=some (.cells cs fo)∧cs.size=n∧nF (fun k=>(w.heap.size+1+1+1<k∧k≠B)∧k<C) ((cb.setCell (ag C (k *2)) (I x)).setCell (ag C (k *2+1)) (I y)) cs ⟨bz,bK,ck,(ex,bw)⟩ l j):=(by have bg:=j5.out;obtain⟨cs,aa,ah,ax⟩:=zo.out;exact⟨cs,(xI (by omega)).trans ((xI (by omega)).trans aa),ah,ax.keep ((aL.set (a:=⟨C,k *2,none⟩) (fun h=>nz _ h.2) _).trans (.set (a:=⟨C,k *2+1,none⟩) (fun h=>nz _ h.2) _))⟩);have im:J (Below C aG ((cb.setCell (ag C (k *2)) (I x)).setCell (ag C (k *2+1)) (I y))):=(ek.out.setCell (p:=⟨C,k *2,none⟩) (bD _) _).setCell (p:=⟨C,k *2+1,none⟩) (bD _) _
   have oI:J (∃ps,((cb.setCell (ag C (k *2)) (I x)).setCell (ag C (k *2+1)) (I y)).heap[C]?=some (.cells ps eE)∧ps.size=cQ *2∧AO ps ⟨bz,bK,ck,(ex,bw)⟩ gm (k+1)):=
    ⟨_,c4 _ (c4 _ Kb.out),by rw[AN,AN];exact rm.out,N6.out.next (by have:=rm.out;omega) qA aV.out zn.out⟩
   clear aJ aI f0 f1 hl Kb jS zo ek;generalize (cb.setCell (ag C (k *2)) (I x)).setCell (ag C (k *2+1)) (I y)=bt at wo zp im oI⊢;go_wp2_with fail;go_round<;>first|exact⟨k+1,_,rfl,by omega,by go_num,wo.out,zp.out,im.out,oI.out⟩|(simp[intOf]<;>omega)
  ·have zd:k=cQ:=(by omega);subst zd;obtain⟨l9,dt,cE,ft,gr,iW,gu,lL,lM,kJ⟩:=en kr.out.out;have dK:=lt_of_heap kr.out.out;obtain⟨cs,h1,hl,YI⟩:=lN.out;have Ey:=U h1;have YJ:=U hl;have Hd:=U YI;obtain⟨v0,aJ⟩:=Ka (i:=j) h1 (by omega);have f0:=lu h1 j;have e':=lt_of_heap h1;clear h1 hl YI;go_upto_region 24 with fail;have wo:J (fM w w.heap.size #[I 2,I aA,I aB,I aU,I aZ,I cx,I aP,I r,bG fS o n cl,ad pp s.len cp] #[ai bz,ai bK,I ck,I ex,I bw] #[I 2,I 0,I 0,I 0,I 0,I 0,I 0,I r,bG B 0 n n,ay 0] (cO.setCell (ag B j) (bG C 0 k k))):=by have ah:=nH.out;exact kr.out.off (by omega) _ _
   have zp:J (∃cs,(cO.setCell (ag B j) (bG C 0 k k)).heap[B]?=some (.cells cs fo)∧cs.size=n∧nF (fun k=>w.heap.size+1+1+1<k∧k≠B) (cO.setCell (ag B j) (bG C 0 k k)) cs ⟨bz,bK,ck,(ex,bw)⟩ l (j+1)):=by
    refine⟨_,c4 _ Ey.out,by rw[AN];exact YJ.out,?_⟩;have AP:aL (fun k=>w.heap.size+1+1+1<k∧k≠B) cO (cO.setCell (ag B j) (bG C 0 k k)):=.set (a:=⟨B,j,none⟩) (fun h=>h.2 rfl) _;refine ((Hd.out.mono fun k _ h=>h.1).keep AP).next (by rw[YJ.out];exact b0) fs br.out xK.out (bD _) ?_
    obtain⟨ps,aa,ah,ax⟩:=nI.out;have bg:=j5.out;have b7:=nH.out;exact (AO.J' (xK.out ▸ ax) (R:=fun k=>w.heap.size+1+1+1<k∧k≠B) ⟨by omega,by omega⟩ aa bL.out.1).keep AP
   clear l9 dt cE ft gr iW gu lL lM kJ aJ f0 dK e' Ey Hd kr lN dx nI;generalize cO.setCell (ag B j) (ad (some (ag C 0)) k k)=bt at wo zp⊢;go_wp2_with fail;go_round<;>first|exact⟨j+1,_,rfl,by omega,by go_num,wo.out,zp.out⟩|(simp[intOf]<;>omega)
 ·have iH:j=n:=(by omega);subst iH;go_upto_region 32 with fail;obtain⟨l9,dt,cE,ft,gr,iW,gu,lL,lM,kJ⟩:=en p'.out.out;obtain⟨jD,ie,ly,qD,sf,uE,qE,wh,wi,mz⟩:=en p'.out.res;have fr:=lu p'.out.res;have dK:=lt_of_heap p'.out.res;go_wp2_with fail;change bodyPost _ _ _ _ _ (iA aG (w.heap.size+1+1) (I 2) (I 0) (I 0) (I 0) (I 0) (I 0) (I 0) (I r) (bG B 0 j j) (ay 0));have hF:=we (I 2) (I 0) (I 0) (I 0) (I 0) (I 0) (I 0) (I r) (bG B 0 j j) (ay 0) p'.out.res;have bJ:=wg (I 2) (I 0) (I 0) (I 0) (I 0) (I 0) (I 0) (I r) (bG B 0 j j) (ay 0) p'.out.aY (show w.heap.size≤w.heap.size+1+1 by omega);have hS:dY (fun k=>w.heap.size≤k) (iA aG (w.heap.size+1+1) (I 2) (I 0) (I 0) (I 0) (I 0) (I 0) (I 0) (I r) (bG B 0 j j) (ay 0)) (some (ag B 0)) j none 0 ⟨⟨2,(0,0),(0,0),(0,0),r,l.map fun c=>c.map (iU ⟨bz,bK,ck,(ex,bw)⟩)⟩,.nil⟩:=(by obtain⟨cs,aa,ah,ax⟩:=Cu.out;rw[←a1.out] at ax;have b7:=nH.out;have c0:hX (fun _=>True) aG none []:=.nil _ _ _;have ea:iF (fun k=>w.heap.size+1+1+1<k) aG (some (ag B 0)) (l.map fun c=>c.map (iU ⟨bz,bK,ck,(ex,bw)⟩)):=(ax.mono fun k _ h=>h.1).cons (by omega) aa (by rw[a1.out];exact oG);exact⟨(ea.keep (Su (I 2) (I 0) (I 0) (I 0) (I 0) (I 0) (I 0) (I r) (bG B 0 j j) (ay 0) (by omega))).mono fun k _ h=>by omega,.nil _ _ _,by simp[a1.out],eC _⟩);generalize iA aG (w.heap.size+1+1) (I 2) (I 0) (I 0) (I 0) (I 0) (I 0) (I 0) (I r) (bG B 0 j j) (ay 0)=fB at hF bJ hS⊢;obtain⟨aJ,aI,c2,c3,bF,c5,b1,b5,bS,bf⟩:=en hF;exact dH (v:=.agg #[I 2,I 0,I 0,I 0,I 0,I 0,I 0,I r,bG B 0 j j,ay 0]) (by simp[results,AK,go_sem,aJ,aI,c2,c3,bF,c5,b1,b5,bS,bf]) rfl (.mk (by simp[n9,xB,hb]:_=(⟨⟨2,(0,0),(0,0),(0,0),r,l.map fun c=>c.map (iU ⟨bz,bK,ck,(ex,bw)⟩)⟩,.nil⟩:ey)) (some (ag B 0)) j none 0 (by simp[a1.out,bh.len]) hS bJ)
end dE
namespace wq
open kG
open Go.Lib (decDigits nDigits trimRightB)
def sh(u:Int):Int:=if u=1 then 10 else if u=2 then 254 else 0
def si(u i d:Int):Bool:=(decide (u=1)|| decide (u=2))&&(decide (0≤i)&&decide (i≤6))&&(decide (0≤d)&&decide (d≤6))&&decide (0<i+d)
theorem Sx(u i d:Int):si u i d=true↔(u=1∨u=2)∧0≤i∧i≤6∧0≤d∧d≤6∧0<i+d:=by simp[si];omega
def ig(n u:Int):Option Int:=
 if tj n=true∧(u=1∨u=2)∧-536870912≤n *sh u∧n *sh u≤536870912 then some (n *sh u) else none
def lB(l:bk)(u i d:Int)(t:Bool):Option Int:=
 if si u i d=true∧1≤(strip l).2.length∧((strip l).2.length:Int)≤i+d∧bC (strip l).2=(strip l).2.length then
  let v:Int:=(val (strip l).2 *(if t then 10 ^((i+d).toNat -(strip l).2.length) else 1) *10 ^(6-d.toNat):Nat)
  ig (if (strip l).1 then -v else v) u
 else none
def Sy(v size:Nat)(t:Bool):List UInt8:=
 if t then (if trimRightB (pad v size) 48=[] then[48] else trimRightB (pad v size) 48) else decDigits v
theorem aiK{u:Int}(h:u=1∨u=2):sh u=10∨sh u=254:=by rcases h with rfl|rfl<;>simp[sh]
theorem Kc(k:Nat)(h:k≤12):10^k≤1000000000000:=by have:=vU (n:=10) (by decide) h;simpa using this
end wq
namespace Fr
def zq(n d:Int):Int×Int×Nat:=
 if d=0 then (0,0,10) else if 1073741824<n.natAbs/Nat.gcd n.natAbs d.natAbs∨1073741824<d.natAbs/Nat.gcd n.natAbs d.natAbs then (0,0,5)
 else (if (n<0)≠(d<0) then -((n.natAbs/Nat.gcd n.natAbs d.natAbs:Nat):Int) else ((n.natAbs/Nat.gcd n.natAbs d.natAbs:Nat):Int),((d.natAbs/Nat.gcd n.natAbs d.natAbs:Nat):Int),0)
def In(n d:Int):Prop:=1≤d∧d≤1073741824∧-1073741824≤n∧n≤1073741824
instance(n d:Int):Decidable (In n d):=by unfold In;infer_instance
def Sz(n d:Int):Bool:=decide (In n d)&&decide (Nat.gcd n.natAbs d.natAbs=1)
def SA(k n d m e:Int):Int×Int×Nat:=
 if Sz n d=true∧Sz m e=true then
  (if k=3 then zq (n *e+m *d) (d *e) else if k=4 then zq (n *e-m *d) (d *e) else if k=5 then zq (n *m) (d *e) else if k=6 then zq (n *e) (d *m) else (0,0,5))
 else (0,0,5)
end Fr
namespace Fr
open kG
def oJ(k n:Int):Bool:=
 if k=1 then decide (0≤n)&&tj n else if k=2 then decide (1≤n∧n≤99) else if 3≤k∧k≤7 then decide (n=0) else false
def zr(k:Int):Nat:=if k=1∨k=2 then 0 else if k=7 then 1 else 2
def top(st:List (Int×Int))(i:Nat):Int×Int:=st.getD (st.length-i) (0,0)
def ll(vars:List (Int×Int))(n:Int):Int×Int:=if n≤vars.length then vars.getD (n.toNat-1) (0,0) else (0,1)
def tu(vars st:List (Int×Int))(k n:Int):Int×Int×Nat:=
 if k=1 then zq n 1000000
 else if k=2 then ((ll vars n).1,(ll vars n).2,if Sz (ll vars n).1 (ll vars n).2=true then 0 else 5)
 else if k=7 then (-(top st 1).1,(top st 1).2,0)
 else SA k (top st 2).1 (top st 2).2 (top st 1).1 (top st 1).2
def SB(vars st:List (Int×Int))(k n:Int):List (Int×Int)× Nat:=
 if oJ k n=false∨st.length<zr k then (st,3)
 else if (tu vars st k n).2.2=0 then (st.take (st.length-zr k)++[((tu vars st k n).1,(tu vars st k n).2.1)],0) else (st,(tu vars st k n).2.2)
def vW(st:List (Int×Int)):Int×Int×Nat:=match st with
 |[x]=>(x.1,x.2,0)
 |_=>(0,0,3)
def Cj(vars:List (Int×Int)):List (Int×Int)→List (Int×Int)→Int×Int×Nat
 |[],st=>vW st
 |o::l,st=>if (SB vars st o.1 o.2).2=0 then Cj vars l (SB vars st o.1 o.2).1 else (0,0,(SB vars st o.1 o.2).2)
def Kd(vars l:List (Int×Int)):Int×Int×Nat:=Cj vars l []
def Small(st:List (Int×Int)):Prop:=∀x∈st,-1073741824≤x.1∧x.1≤1073741824∧0≤x.2∧x.2≤1073741824
theorem Small.take{st:List (Int×Int)}(h:Small st)(k:Nat):Small (st.take k):=fun x hx=>h x (List.mem_of_mem_take hx)
theorem Small.snoc{st:List (Int×Int)}(h:Small st){n d:Int}(aa:-1073741824≤n)(ah:n≤1073741824)(ax:0≤d)(bg:d≤1073741824):Small (st++[(n,d)]):=by
 intro x hx;rcases List.mem_append.1 hx with hx|hx
 ·exact h x hx
 ·simp only[J7] at hx;subst hx;exact⟨aa,ah,ax,bg⟩
end Fr
namespace cf
open kG
open xy (zb)
structure ew where
 a:Nat
 ext:Bool
 first:Bool
 t:List UInt8
deriving DecidableEq
structure iB where
 words:List ew
 text:List UInt8
 a:Nat
 group:Bool
 inner:Nat
deriving DecidableEq
def xL:iB:=⟨[],[],0,false,0⟩
def He(s:iB):Except Nat iB:=
 if s.text=[] then .error 2 else .ok {s with words:=s.words++[⟨s.a,s.group,decide (s.inner=0),s.text⟩],inner:=(if s.group=true then s.inner+1 else s.inner),text:=[]}
def xM(s:iB)(c:UInt8):Except Nat iB:=if s.text.length=10000 then .error 6 else .ok {s with text:=s.text++[c]}
def sj(s:iB)(c:UInt8)(i:Nat):Except Nat iB:=
 if c=13∨c=10 then .ok s
 else if c.toNat<32∨126<c.toNat then .error 2
 else if c=42 then He s
 else if c=37 then (if s.text≠[]∨(s.group=true∧s.inner=0) then .error 2 else .ok {s with group:=!s.group,inner:=0})
 else if s.text=[] then (if s.words.length=20000 then .error 6 else xM {s with a:=i} c)
 else xM s c
def jG:bk→Nat→iB→Except (Nat×Nat) iB
 |[],_,s=>.ok s
 |c::r,i,s=>match sj s c i with
  |.error e=>.error (i,e)
  |.ok s'=>jG r (i+1) s'
def uI(s:bk):List ew×Nat×Nat:=
 if 1000000<s.length then ([],0,6) else match jG s 0 xL with
  |.error (i,e)=>([],i,e)
  |.ok st=>if st.text≠[]∨st.group=true then ([],s.length,2) else (st.words,0,0)
structure eI where
 k:Int
 n:Int
 t:List UInt8
 args:List (List (Int×Int))
deriving DecidableEq
def bX:eI:=⟨0,0,[],[]⟩
def wt(s:bk):Option (List UInt8×List UInt8):=if bC s=0∨s.headD 0=48 then none else some (s.take (bC s),s.drop (bC s))
def Ke(s:bk):Except Nat eI:=match wt s with
 |none=>.error 3
 |some (d,r)=>if 2<d.length∨r.headD 0≠61 then .error 3 else match zb (r.drop 1) with
  |(l,_,e)=>if e≠0 then .error e else .ok ⟨2,val d,[],[l]⟩
def rn(d:bk):Int:=if d=[49] then 1 else if d=[52] then 4 else if d=[55] then 7 else if d=[50,48] then 20 else if d=[50,49] then 21 else 0
def eT(c:UInt8)(s:bk):List UInt8×List UInt8×Bool:=
 if (s.takeWhile (· !=c)).length<s.length then (s.takeWhile (· !=c),s.drop ((s.takeWhile (· !=c)).length+1),true) else (s,[],false)
def pk(n:Int)(k:Nat):Bool:=
 if n=1 then decide (k=4)|| decide (k=5) else if n=20 then decide (k=7) else if n=21∨n=7 then decide (k=6) else if n=4 then decide (k%2=1)&&(decide (7≤k)&&decide (k≤1100)) else false
def zs:Nat→bk→List (List (Int×Int))→Except Nat (List (List (Int×Int)))
 |0,_,acc=>.ok acc
 |f+1,s,acc=>if acc.length=1100 then .error 6 else match zb (eT 44 s).1 with
  |(l,_,e)=>if e≠0 then .error e else if (eT 44 s).2.2=true then zs f (eT 44 s).2.1 (acc++[l]) else .ok (acc++[l])
def wu(s:bk):Except Nat eI:=match wt s with
 |none=>.error 3
 |some (d,r)=>if r.headD 0≠44 then .error 3 else if rn d=0 then .error 8 else match zs (r.length+1) (r.drop 1) [] with
  |.error e=>.error e
  |.ok l=>if pk (rn d) l.length=true then .ok ⟨3,rn d,[],l⟩ else .error 3
def AQ(s:bk):Except Nat eI:=
 if s=[48] then .ok {bX with k:=1} else if s.take 2=[48,32] then .ok {bX with k:=1,t:=s.drop 2} else if s.headD 0=36 then Ke (s.drop 1) else wu s
def AR:List (List UInt8)→Nat→List eI→Except (Nat×Nat) (List eI)
 |[],_,acc=>.ok acc
 |s::l,i,acc=>match AQ s with
  |.error e=>.error (i,e)
  |.ok b=>AR l (i+1) (acc++[b])
def Cw(l:List (List UInt8)):List eI×Nat×Nat:=if 500<l.length then ([],0,6) else match AR l 0 [] with
 |.error (i,e)=>([],i,e)
 |.ok b=>(b,0,0)
structure C where
 k:Int
 n:Int
 m:Int
 on:Bool
 t:List UInt8
 x:List UInt8
 y:List UInt8
 i:List UInt8
 j:List UInt8
 cj:List Int
 blocks:List eI
deriving DecidableEq
def aJ:C:=⟨0,0,0,false,[],[],[],[],[],[],[]⟩
def b2(k:Int):C:={aJ with k:=k}
def Ez(t:bk):Option Nat:=if t.length<1∨4<t.length∨bC t≠t.length then none else some (val t)
def wv(t:bk):Option Nat:=if t.length<2∨t.headD 0=48 then none else Ez t
def N7(c:UInt8):Bool:=(decide (97≤c.toNat)&&decide (c.toNat≤122))||(decide (65≤c.toNat)&&decide (c.toNat≤90))|| c==95 || c==46 || c==36
def SC(c:UInt8):Bool:=fi c || c==45
def tv(t:bk):Bool:=decide (1≤t.length)&&(decide (t.length≤100)&&(N7 (t.headD 0)&&(t.drop 1).all fun c=>N7 c || SC c))
def wx(r:bk):Nat:=if r≠[]∧(r.headD 0=43∨r.headD 0=45) then 1 else 0
def k0(t:bk)(c:UInt8):List UInt8×List UInt8:=
 if t≠[]∧t.headD 0=c then (
  if bC ((t.drop 1).drop (wx (t.drop 1)))<1∨12<bC ((t.drop 1).drop (wx (t.drop 1))) then ([],t)
  else ((t.drop 1).take (wx (t.drop 1)+bC ((t.drop 1).drop (wx (t.drop 1)))),(t.drop 1).drop (wx (t.drop 1)+bC ((t.drop 1).drop (wx (t.drop 1))))))
 else ([],t)
def uJ(t:bk):Int:=if t=[68,48,49] then 1 else if t=[68,48,50] then 2 else if t=[68,48,51] then 3 else 0
def tu(t:bk):Option C:=
 let x:=k0 t 88;let y:=k0 x.2 89;let i:=k0 y.2 73;let j:=k0 i.2 74
 if uJ j.2=0 then none else some {b2 7 with n:=uJ j.2,x:=x.1,y:=y.1,i:=i.1,j:=j.1}
def rp(t:bk)(cs:List C):Except Nat (List C):=
 match (if t≠[]∧t.headD 0=68∧cs=[] then wv (t.drop 1) else none) with
 |some n=>.ok [{b2 6 with n:=n}]
 |none=>match tu t with
  |none=>.error 3
  |some c=>.ok (cs++[c])
def uK(t:bk)(n:Int):Except Nat (List C):=if t.drop 3=[] then .ok [{b2 2 with n:=n}] else rp (t.drop 3) [{b2 2 with n:=n}]
def wy(t:bk):Except Nat (List C):=
 if t=[71,51,54] then .ok [{b2 3 with on:=true}]
 else if t=[71,51,55] then .ok [b2 3]
 else if t=[71,55,52] then .error 8
 else if t=[71,55,53] then .ok [b2 4]
 else if t=[77,48,50] then .ok [b2 5]
 else if t.take 3=[71,48,52] then .ok [{b2 1 with t:=t.drop 3}]
 else if t.take 3=[71,48,49] then uK t 1
 else if t.take 3=[71,48,50] then uK t 2
 else if t.take 3=[71,48,51] then uK t 3
 else rp t []
def Hf:List (List UInt8×C):=
 [([77,79,77,77],{b2 9 with n:=1}),([77,79,73,78],{b2 9 with n:=2}),([65,66],b2 12),([83,82],b2 14),([76,80,68],{b2 15 with on:=true}),([76,80,67],b2 15),([76,77,78],b2 16),([76,77,88],{b2 16 with n:=1}),([76,77,89],{b2 16 with n:=2}),([76,77,88,89],{b2 16 with n:=3})]
def N8(t:bk):Option C:=
 if t.length≠8∨(t.headD 0≠76∧t.headD 0≠84)∨(t.drop 1).take 2≠[65,88]∨bC (t.drop 3)≠2∨(t.drop 5).headD 0≠89∨t.drop 6≠(t.drop 3).take 2 then none
 else some {b2 8 with on:=decide (t.headD 0=84),n:=(((t.drop 3).headD 0).toNat:Int)-48,m:=(((t.drop 4).headD 0).toNat:Int)-48}
def Cx:Nat→bk→List Int→Option (List Int)
 |0,_,acc=>some acc
 |f+1,s,acc=>match dec (eT 88 s).1 with
  |none=>none
  |some v=>if (eT 88 s).2.2=true then Cx f (eT 88 s).2.1 (acc++[v]) else some (acc++[v])
def po(t:bk):Option C:=
 if t.headD 0≠68 then none else match N9 (t.drop 1) with
  |none=>none
  |some (n,r)=>if tv (eT 44 r).1=false then none else if (eT 44 r).2.2=false then some {b2 10 with n:=n,t:=(eT 44 r).1} else
   (match Cx (r.length+1) (eT 44 r).2.1 [] with
    |none=>none
    |some l=>some {b2 10 with n:=n,t:=(eT 44 r).1,cj:=l})
where N9 (r:bk):Option (Nat×List UInt8):=match wv (r.take (bC r)) with
 |none=>none
 |some n=>some (n,r.drop (bC r))
def N'(t:bk):Option C:=if t.headD 0≠68 then none else match wv (t.drop 1) with
 |none=>none
 |some n=>some {b2 11 with n:=n}
def stepG(t:bk):Option C:=
 if t.headD 0≠88 then none else
 match Ez (eT 89 (t.drop 1)).1,Ez (eT 73 (eT 89 (t.drop 1)).2.1).1,dec (eT 74 (eT 73 (eT 89 (t.drop 1)).2.1).2.1).1,dec (eT 74 (eT 73 (eT 89 (t.drop 1)).2.1).2.1).2.1 with
 |some n,some m,some x,some y=>some {b2 13 with n:=n,m:=m,cj:=[x,y]}
 |_,_,_,_=>none
def YK(t:bk):Option C:=match dec t with
 |none=>none
 |some v=>some {b2 17 with cj:=[v]}
def Oa(t:bk):Option C:=
 if t.take 2=[70,83] then N8 (t.drop 2) else if t.take 2=[65,68] then po (t.drop 2) else if t.take 2=[65,66] then N' (t.drop 2) else if t.take 2=[83,82] then stepG (t.drop 2) else if t.take 2=[76,82] then YK (t.drop 2)
 else if t.take 2=[84,70]∨t.take 2=[84,65]∨t.take 2=[84,79]∨t.take 2=[84,68] then some {b2 18 with t:=t} else none
def xN(t:bk):Except Nat C:=
 if t.take 2=[76,83] then .error 8 else match Hf.lookup t with
  |some c=>.ok c
  |none=>match Oa t with
   |none=>.error 3
   |some c=>.ok c
def zt(w:ew)(ws:List ew):Except (Nat×Nat) (List C):=
 if w.t.take 2≠[65,77] then (match xN w.t with
  |.error e=>.error (w.a,e)
  |.ok c=>match ws with
   |[]=>.ok [c]
   |x::_=>.error (x.a,3))
 else if tv (w.t.drop 2)=false then .error (w.a,3)
 else match Cw (ws.map ew.t) with
  |(b,i,e)=>if e≠0 then .error (((ws.map ew.a)[i]?).getD 0,e) else .ok [{b2 19 with t:=w.t.drop 2,blocks:=b}]
def wz(w:ew)(ws:List ew):Except (Nat×Nat) (List C):=
 if w.ext=true then zt w ws else match wy w.t with
  |.error e=>.error (w.a,e)
  |.ok l=>.ok l
def tw:Nat→List ew→List (Nat×C)→Except (Nat×Nat) (List (Nat×C))
 |0,_,acc=>.ok acc
 |_+1,[],acc=>.ok acc
 |f+1,w::ws,acc=>match wz w (ws.takeWhile fun x=>!x.first) with
  |.error e=>.error e
  |.ok l=>tw f (ws.dropWhile fun x=>!x.first) (acc++l.map fun c=>(w.a,c))
def ks(s:bk):List (Nat×C)× Nat×Nat:=match uI s with
 |(ws,i,e)=>if e≠0 then ([],i,e) else match tw ws.length ws [] with
  |.error (i,e)=>([],i,e)
  |.ok l=>(l,0,0)
theorem Hg(c:UInt8)(r:bk)(i:Nat)(s:iB):jG (c::r) i s=match sj s c i with|.error e=>.error (i,e)|.ok s'=>jG r (i+1) s':=rfl
theorem go_append:∀(s t:bk) (i:Nat) (st:iB),jG (s++t) i st=match jG s i st with|.error x=>.error x|.ok dy=>jG t (i+s.length) dy
 |[],t,i,st=>by simp[jG]
 |c::s,t,i,st=>by
  rw[JL,Hg,Hg];cases h:sj st c i with
  |error e=>rfl
  |ok dy=>
   simp only[];rw[go_append s t (i+1) dy,fK,show i+1+s.length=i+(s.length+1) by omega]
def base(ws:List ew)(a:Nat):iB:=⟨ws,[],a,false,0⟩
theorem aiL:xL=base [] 0:=rfl
def Hh(s:bk):Prop:=∀i a ws,ws.length+s.count 42<20000→(∃x,jG s i (base ws a)=.error x)∨∃YL h2,jG s i (base ws a)=.ok (base YL h2)∧YL.length≤ws.length+s.count 42
theorem Hh.nil:Hh []:=fun i a ws _=>.inr ⟨ws,a,rfl,bD _⟩
theorem Hh.append{s t:bk}(hs:Hh s)(bH:Hh t):Hh (s++t):=by
 intro i a ws h;rw[List.count_append] at h;rw[go_append];rcases hs i a ws (by omega) with ⟨x,e⟩|⟨aiM,a',e,aa⟩
 ·rw[e];exact .inl ⟨x,rfl⟩
 ·rw[e];simp only[];rcases bH (i+s.length) a' aiM (by omega) with ⟨x,aR⟩|⟨EA,a2,aR,ah⟩
  ·exact .inl ⟨x,aR⟩
  ·exact .inr ⟨EA,a2,aR,by rw[List.count_append];omega⟩
def wc(c:UInt8):Bool:=decide (32≤c.toNat)&&(decide (c.toNat≤126)&&(c !=42 &&c !=37))
theorem YM{c:UInt8}(h:wc c=true)(st:iB)(i:Nat):sj st c i=if st.text=[] then (if st.words.length=20000 then .error 6 else xM {st with a:=i} c) else xM st c:=by simp only[wc,gy,gH,tt] at h;unfold sj;rw[aK (by rintro (rfl|rfl)<;>simp at h),aK (by omega),aK h.2.2.1,aK h.2.2.2]
theorem go_more:∀(p:bk) (i:Nat) (st:iB),(∀c∈p,wc c=true)→st.text≠[]→st.text.length+p.length≤10000→jG p i st=.ok {st with text:=st.text++p}
 |[],i,st,_,_,_=>by simp[jG]
 |c::p,i,st,h,hn,aj=>by simp only[fK] at aj;rw[Hg,YM (h c (by simp)),aK hn];unfold xM;rw[aK (by omega)];simp only[];rw[go_more p (i+1) _ (fun x hx=>h x (by simp[hx])) (by simp) (by simp;omega)];simp
variable{p:bk}
theorem go_text(h:∀c∈p,wc c=true)(hn:p≠[])(aj:p.length≤10000)(i a:Nat)(ws:List ew)(g:Bool)(n:Nat)(hw:ws.length<20000):jG p i ⟨ws,[],a,g,n⟩=.ok ⟨ws,p,i,g,n⟩:=by
 cases p with
 |nil=>exact absurd rfl hn
 |cons c p=>
  simp only[fK] at aj;rw[Hg,YM (h c (by simp)),aT rfl,aK (by show ¬ws.length=20000;omega)];unfold xM;rw[aK (by simp)];simp only[J8];rw[go_more p (i+1) _ (fun x hx=>h x (by simp[hx])) (by simp) (by simp;omega)];simp
theorem go_word(h:∀c∈p,wc c=true)(hn:p≠[])(aj:p.length≤10000)(i a:Nat)(ws:List ew)(g:Bool)(n:Nat)(hw:ws.length<20000):
  jG (p++[42]) i ⟨ws,[],a,g,n⟩=.ok ⟨ws++[⟨i,g,decide (n=0),p⟩],[],i,g,if g=true then n+1 else n⟩:=by
 rw[go_append,go_text h hn aj i a ws g n hw];simp only[];rw[Hg];unfold sj;rw[aK (by decide),aK (by decide),aT rfl];unfold He;rw[aK hn];rfl
theorem go_pct{st:iB}(aa:st.text=[])(ah:¬(st.group=true∧st.inner=0))(i:Nat):jG [37] i st=.ok {st with group:=!st.group,inner:=0}:=by rw[Hg];unfold sj;rw[aK (by decide),aK (by decide),aK (by decide),aT rfl,aK (by rintro (e|e);exact e aa;exact ah e)];rfl
def dP(d:Nat)(w:ew):ew:={w with a:=w.a+d}
end cf
namespace cf
open kG
open xy (zb dU)
def wA(x:ew):Bool:=!x.first
def YN(ws:List ew):Prop:=∀w∈ws.head?,w.first=true
theorem aiN(r:List ew){EA:List ew}(h:YN EA):(r++EA).takeWhile wA=r.takeWhile wA∧(r++EA).dropWhile wA=r.dropWhile wA++EA:=by
 induction r with
 |nil=>
  cases EA with
  |nil=>exact⟨rfl,rfl⟩
  |cons w l=>
   have:w.first=true:=h w rfl;simp[wA,this]
 |cons x r dc=>
  by_cases hx:wA x=true
  ·simp[hx,dc.1,dc.2]
  ·simp[hx]
theorem SD(f:Nat)(acc:List (Nat×C)):tw f [] acc=.ok acc:=by cases f<;>rfl
theorem aiO(f:Nat)(w:ew)(ws:List ew)(acc:List (Nat×C)):tw (f+1) (w::ws) acc=match wz w (ws.takeWhile wA) with|.error e=>.error e|.ok l=>tw f (ws.dropWhile wA) (acc++l.map fun c=>(w.a,c)):=rfl
theorem aiP{s:bk}{ws:List ew}(h:uI s=(ws,0,0)):ks s=match tw ws.length ws [] with|.error (i,e)=>([],i,e)|.ok l=>(l,0,0):=by unfold ks;rw[h];exact aK (by decide)
end cf
namespace el
open wq (ig)
open Fr (SA zq Kd)
open cf (eI pk)
def wB(p:bp)(r:Int):dL:={hb with k:=1,a:=p,r:=r}
def uL(p q:bp)(r:Int):dL:={hb with k:=3,a:=p,b:=q,r:=r}
def jo(l:List (List bp)):dL:={hb with k:=2,l:=l}
def AS:dL:={hb with k:=6}
def gT(b:dL):ey:=⟨b,.nil⟩
def SE(c:bp)(w h:Int):List bp:=[(c.1-w,c.2-h),(c.1+w,c.2-h),(c.1+w,c.2+h),(c.1-w,c.2+h)]
def YO(n d u:Int):Int×Nat:=
 if (SA 3 n d 0 1).2.2≠0 then (0,5)
 else if u≠1∧u≠2 then (0,5)
 else if (n *(if u=1 then 10000000 else 254000000)).tmod d≠0 then (0,7)
 else if (n *(if u=1 then 10000000 else 254000000)).tdiv d< -536870912∨536870912<(n *(if u=1 then 10000000 else 254000000)).tdiv d then (0,5)
 else ((n *(if u=1 then 10000000 else 254000000)).tdiv d,0)
structure k1 where
 v:List (Int×Int)
 e:Nat
def k1.fail(t:k1)(e:Nat):k1:=if t.e=0 then {t with e:=e} else t
def k1.next(t:k1):(Int×Int)× k1:=(t.v.headD (0,0),{t with v:=t.v.drop 1})
def k1.len(t:k1)(u:Int):Int×k1:=((YO t.next.1.1 t.next.1.2 u).1,t.next.2.fail (YO t.next.1.1 t.next.1.2 u).2)
def k1.lO(t:k1)(u:Int):bp×k1:=(((t.len u).1,((t.len u).2.len u).1),((t.len u).2.len u).2)
def k1.half(t:k1)(u:Int):Int×k1:=
 let g:=(t.len u).1;let t1:=if g<0 then (t.len u).2.fail 4 else (t.len u).2
 (g.tdiv 2,if g.tmod 2≠0 then t1.fail 7 else t1)
def k1.SF(t:k1):hE×k1:=
 if t.v=[] then (tn,t) else
 ({tn with q:=(t.next.1.1.tdiv 90).tmod 4},if t.next.1.2≠1∨t.next.1.1.tmod 90≠0 then t.next.2.fail 7 else t.next.2)
def k1.J'(u:Int):Nat→k1→List bp×k1
 |0,t=>([],t)
 |n+1,t=>((t.lO u).1::(k1.J' u n (t.lO u).2).1,(k1.J' u n (t.lO u).2).2)
def k1.aiQ(t:k1)(k u:Int)(n:Nat):ey×Bool×k1:=
 if k=1 then
  let (r,t):=t.half u;let (c,t):=t.lO u
  (gT (wB c r),decide (0<r),t)
 else if k=20 then
  let (r,t):=t.half u;let (a,t):=t.lO u;let (b,t):=t.lO u
  (gT {hb with k:=4,a:=a,b:=b,r:=r},decide (0<r)&&decide (a≠b),t)
 else if k=21 then
  let (w,t):=t.half u;let (h,t):=t.half u;let (c,t):=t.lO u
  (gT (jo [SE c w h]),decide (0<w)&&decide (0<h),t)
 else if k=4 then
  let v:=t.next.1;let t:=if v.2≠1∨v.1<1∨500<v.1∨2 *v.1+5≠(n:Int) then t.next.2.fail 4 else t.next.2
  let (l,t):=k1.J' u ((n-3)/ 2) t
  (gT (jo [l.dropLast]),true,if l.getLast?≠l.head? then t.fail 4 else t)
 else if k=7 then
  let (c,t):=t.lO u;let (o,t):=t.half u;let (i,t):=t.half u;let (g,t):=t.half u;let t:=if o≤i∨o≤g then t.fail 4 else t
  (⟨AS,.cons true (wB c o) .nil
   ((if 0<i then bh.cons false (wB c i) .nil .nil else .nil).append
   (if 0<g then .cons false (jo [SE c o g]) .nil (.cons false (jo [SE c g o]) .nil .nil) else .nil))⟩,true,t)
 else (Yo,true,t)
def Ob(k u:Int)(v:List (Int×Int)):bh×Nat:=
 let t:k1:=⟨v,0⟩;let add:=if k≠7 then decide (t.next.1.1=1) else true
 let t:=if k≠7 then (if t.next.1.2≠1∨(t.next.1.1≠0∧t.next.1.1≠1) then t.next.2.fail 4 else t.next.2) else t
 let p:=t.aiQ k u v.length;let s:=p.2.2.SF
 if s.2.e≠0∨p.2.1=false then (.nil,s.2.e) else match Cm s.1 p.1 with
  |none=>(.nil,5)
  |some m=>(.one add m,0)
def Oc(vars:List (Int×Int)):List (List (Int×Int))→Except Nat (List (Int×Int))
 |[]=>.ok []
 |a::l=>if (Kd vars a).2.2≠0 then .error (Kd vars a).2.2 else match Oc vars l with
  |.error e=>.error e
  |.ok r=>.ok (((Kd vars a).1,(Kd vars a).2.1)::r)
def aiR(b:eI):Bool:=
 if b.k=1 then decide (b.n=0)&&decide (b.args.length=0)
 else if b.k=2 then decide (1≤b.n)&&(decide (b.n≤99)&&decide (b.args.length=1))
 else if b.k=3 then pk b.n b.args.length
 else false
def Hi(u:Int):List eI→List (Int×Int)→bh→Except Nat bh
 |[],_,p=>.ok p
 |b::l,vars,p=>match Oc vars b.args with
  |.error e=>.error e
  |.ok v=>if b.k=2 then Hi u l (vars.set (b.n.toNat-1) (v.headD (0,0))) p
   else if b.k=3 then (if (Ob b.n u v).2≠0 then .error (Ob b.n u v).2 else if 900<(p.append (Ob b.n u v).1).count+1 then .error 6 else Hi u l vars (p.append (Ob b.n u v).1))
   else Hi u l vars p
def YP(l:List eI)(args:List (Int×Int))(u:Int):Except Nat ey:=
 if 500<l.length∨l.all aiR=false then .error 3 else match Hi u l ((args++List.replicate (99-args.length) (0,1)).take 99) .nil with
  |.error e=>.error e
  |.ok p=>.ok ⟨AS,p⟩
structure ma where
 name:List UInt8
 b:List eI
def qG(s:Nat)(u:Int):List Int→Nat→Except Nat (List Int)
 |[],_=>.ok []
 |n::l,i=>match ig n u with
  |none=>.error 5
  |some g=>if g<0∨(g=0∧s=2∧i<s) then .error 4 else if g.tmod 2≠0 then .error 7 else match qG s u l (i+1) with
   |.error e=>.error e
   |.ok r=>.ok (g.tdiv 2::r)
def Od:List Int→Except Nat (List (Int×Int))
 |[]=>.ok []
 |n::l=>if (zq n 1000000).2.2≠0 then .error (zq n 1000000).2.2 else match Od l with
  |.error e=>.error e
  |.ok r=>.ok (((zq n 1000000).1,(zq n 1000000).2.1)::r)
def aiS(name:bk)(ms:List ma):Option ma:=ms.reverse.find? fun m=>m.name==name
def YQ(name:bk)(cj:List Int)(u:Int)(ms:List ma):Except Nat (ey×Int):=match aiS name ms with
 |none=>.error 4
 |some m=>match Od cj with
  |.error e=>.error e
  |.ok a=>match YP m.b a u with
   |.error e=>.error e
   |.ok s=>.ok (s,0)
def Kf(r:Int):dL:=if r=0 then AS else wB (0,0) r
def SG(w h:Int):dL:=jo [[(-w,-h),(w,-h),(w,h),(-w,h)]]
def Hj(w h:Int):dL:=if h<w then uL (h-w,0) (w-h,0) h else if w<h then uL (0,w-h) (0,h-w) w else wB (0,0) w
def Cy(b:dL)(h:Int):ey:=if 0<h then⟨AS,.cons true b .nil (.cons false (wB (0,0) h) .nil .nil)⟩ else gT b
def oK(name:bk)(cj:List Int)(u:Int)(ms:List ma):Except Nat (ey×Int):=
 if name=[67]∨name=[82]∨name=[79] then
  let s:=if name=[67] then 1 else 2
  if cj.length≠s∧cj.length≠s+1 then .error 4 else match qG s u cj 0 with
   |.error e=>.error e
   |.ok h=>let g:=fun i=>h.getD i 0
    if name=[67] then .ok (Cy (Kf (g 0)) (g 1),if g 1=0 then g 0 else 0)
    else if name=[82] then .ok (Cy (SG (g 0) (g 1)) (g 2),0)
    else .ok (Cy (Hj (g 0) (g 1)) (g 2),0)
 else YQ name cj u ms
end el
