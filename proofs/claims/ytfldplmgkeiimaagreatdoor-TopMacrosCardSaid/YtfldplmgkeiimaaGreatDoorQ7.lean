/- Lemmas. -/
import Derived.Test.YtfldplmgkeiimaaGreatDoorQ6
import Derived.Laws.ResultCell
set_option linter.all false
set_option maxRecDepth 100000
set_option maxHeartbeats 12800000
namespace Go.Proofs.YtfldplmgkeiimaaGreatDoor
abbrev J5:=@Int.natCast_mul
abbrev J6:=@Int.toNat_natCast
abbrev G':=@Array.getElem?_setIfInBounds_self_of_lt
abbrev we:=@Array.getElem?_setIfInBounds_ne
abbrev Ha:=@List.getElem_map
abbrev Ci:=@Array.size_setIfInBounds
abbrev J7:=@Array.getElem?_eq_getElem
abbrev mu:=@List.getElem_mem
abbrev Hb:=@size_madeCells
abbrev Hc:=@List.ext_getElem?
abbrev Sr:=@List.getElem?_eq_none
abbrev N3:=@Array.ext_getElem?
abbrev Ef:=@List.take_take
abbrev xH:=@Nat.min_eq_left
abbrev N4:=@List.drop_take
abbrev Hd:=@Result.andThen_ok
abbrev pD:=@results_cell_row
namespace c4
open Go.RowKit dH
theorem AF{P:Program}(t e:aai)(z:ada)(size bytes:Nat)(bB:P.underlying t=some (.slice e))(He:(P.info? e).map (fun i=>(i.zero,i.size,i.bytes))=some (some z,size,bytes))(n:Nat)(Hf:bytes *n≤281474976710656)(J8:n≤9223372036854775807)(w:aeo):
  (Instr.makeSlice t (I (n:Int)) (I (n:Int))).run P w=.ok (ag w.heap.size 0 n n) (w.alloc (ai (madeCells z.cells (n *size)) e)):=by
 obtain⟨i,hi,Zx⟩:=Option.map_eq_some_iff.1 He;simp only[fS] at Zx;obtain⟨bn,hs,ay⟩:=Zx
 have r2:(i.bytes:Int) *(n:Int)≤281474976710656:=by
  have h:((i.bytes *n:Nat):Int)≤281474976710656:=by rw[ay];omega
  rwa [J5] at h
 have hr:=run_make (P:=P) w t e i z bB hi bn .i64 .i64 n n (by omega) (oJ _) r2 (by omega);simp only[J6,hs] at hr;exact hr
theorem Zy:(Tryz.prog.info? 78).map (fun i=>(i.zero,i.size,i.bytes))=some (some (J 0),1,24):=by kernel_rfl
theorem Zz:(Tryz.prog.info? 71).map (fun i=>(i.zero,i.size,i.bytes))=some (some (.agg #[I 0,I 0]),2,16):=by kernel_rfl
def nF(R:afp)(x:aeo)(cs:ajv)(t:fR)(l:List (List bK))(j:Nat):Prop:=∀i (hi:i<l.length),i<j→∃q c,cs[i]?=some (.slice q l[i].length c)∧l[i].length≤c∧h6 R x q (l[i].map (h2 t))
theorem nF.keep{R:afp}{x y:aeo}{cs:ajv}{t:fR}{l:List (List bK)}{j:Nat}(h:nF R x cs t l j)(ax:aQ R x y):nF R y cs t l j:=by intro i hi cr;obtain⟨q,c,av,az,aF⟩:=h i hi cr;exact⟨q,c,av,az,aF.keep ax⟩
theorem nF.mono{R Q:afp}{x:aeo}{cs:ajv}{t:fR}{l:List (List bK)}{j:Nat}(h:nF R x cs t l j)(ax:∀k,k<x.heap.size→R k→Q k):nF Q x cs t l j:=by intro i hi cr;obtain⟨q,c,av,az,aF⟩:=h i hi cr;exact⟨q,c,av,az,aF.mono ax⟩
variable{x w:aeo}{cs ps:ajv}{t:fR}{j m k i:Nat}{r:List bK}
theorem nF.next{R:afp}{l:List (List bK)}(h:nF R x cs t l j)(hs:j<cs.size){q:Ja}{c:Nat}(cr:j<l.length)(hr:l[j]=r)(hm:r.length=m)(hc:m≤c)(hp:h6 R x q (r.map (h2 t))):nF R x (cs.setIfInBounds j (ad q m c)) t l (j+1):=by
 intro i hi b1;by_cases e:i=j
 ·subst e;refine⟨q,c,?_,by rw[hr,hm];exact hc,by rw[hr];exact hp⟩;rw[G' hs,hr,hm]
 ·obtain⟨iH,c',av,az,aF⟩:=h i hi (by omega);exact⟨iH,c',by rw[we (gJ e)];exact av,az,aF⟩
theorem nF.cons{R:afp}{x:aeo}{cs:ajv}{B:Nat}{t:fR}{l:List (List bK)}(h:nF R x cs t l l.length)(bL:R B)(aJ:an x B cs k6)(ay:l.length≤mo):iC R x (some (aj B 0)) (l.map fun c=>c.map (h2 t)):=by
 refine⟨by rw[e6];exact ay,fun _=>⟨B,0,cs,rfl,bL,aJ,fun i hi=>?_⟩⟩;rw[e6] at hi;obtain⟨q,c,av,az,aF⟩:=h i hi hi;refine⟨q,c,?_,?_,?_⟩
 ·rw[kr,av];simp
 ·simpa using az
 ·rw[Ha];exact aF
def AG(ps:ajv)(t:fR)(r:List bK)(k:Nat):Prop:=∀i (hi:i<r.length),i<k→ps[i *2]?=some (I (h2 t r[i]).1)∧ps[i *2+1]?=some (I (h2 t r[i]).2)
theorem AG.next(h:AG ps t r k)(hs:k *2+1<ps.size){z u:bK}(ax:k<r.length)(bn:r[k]=z)(hu:h2 t z=u):AG ((ps.setIfInBounds (k *2) (I u.1)).setIfInBounds (k *2+1) (I u.2)) t r (k+1):=by
 intro i hi b1;by_cases e:i=k
 ·subst e;rw[bn,hu];constructor
  ·rw[we (by omega),G' (by omega)]
  ·rw[G' (by rw[Ci];exact hs)]
 ·obtain⟨av,az⟩:=h i hi (by omega);constructor
  ·rw[we (by omega),we (by omega)];exact av
  ·rw[we (by omega),we (by omega)];exact az
theorem AG.JL{R:afp}{C:Nat}(h:AG ps t r r.length)(oR:R C)(aJ:an x C ps i7)(ay:r.length≤mo):h6 R x (some (aj C 0)) (r.map (h2 t)):=by refine⟨by rw[e6];exact ay,fun _=>⟨C,0,ps,rfl,oR,aJ,fun i hi=>?_⟩⟩;rw[e6] at hi;obtain⟨av,az⟩:=h i hi hi;rw[kr,av,az];simp
theorem J9{t:aai}(h:an w k cs t)(hi:i<cs.size):∃v,ak w k i v:=by rw[show w.cell? ⟨k,i,none⟩=cs[i]? from by simp[World.cell?,h],J7 hi];exact⟨_,rfl⟩
theorem Ss(w:aeo)(a:Addr)(u:ada):(w.setCell a u).heap.size=w.heap.size:=by simp[World.setCell]
theorem fx.off{w0:aeo}{g:Nat}{cF dm out:ajv}(h:fx w0 g cF dm out x)(cr:g+1+1+1<j)(i:Nat)(u:ada):fx w0 g cF dm out (x.setCell (aj j i) u):=
 ⟨(tb (by omega)).trans h.cF,(tb (by omega)).trans h.dm,(tb (by omega)).trans h.res,(tb (by omega)).trans h.out,h.aZ.setCell (p:=⟨j,i,none⟩) (by show g≤j;omega) _⟩
theorem akK(s:bc)(b:cJ)(ax:b.k=2)(f:Nat)(left m:Int)(S:afp)(pl:Ja)(cl:Nat)(pp:Ja)(cp:Nat)(w:aeo)(t:fR)
  (gb:af (eY t.eL.1∧eY t.eL.2)) (ek:af (dv S w pl cl pp cp ⟨b,s⟩)) (bl:af (kN b s f left=some m)):
  Calls Tryz.prog 228 #[iD b (ad pl b.l.length cl) (ad pp s.len cp),rY t] w (xG w t b s):=by
 obtain⟨k,⟨aW,aY⟩,⟨bb,bh⟩,⟨cx,bw⟩,r,l⟩:=b;obtain⟨bD,bR,b8,ex,bI⟩:=t;simp only at ax;subst ax;show Calls _ _ #[.agg #[I 2,I aW,I aY,I bb,I bh,I cx,I bw,I r,ad pl l.length cl,ad pp s.len cp],.agg #[U bD,U bR,I b8,I ex,I bI]] w _;have lE:af (∀i (hi:i<l.length) k (ax:k<l[i].length),fZ l[i][k]=true):=by intro i hi k ax;have h:=((AB bl.out).2.2.1 (show (2:Int)≠6 by decide)).1;simp[ho,vK] at h;have az:=h.2 l[i] (mu hi);have aF:=az l[i][k].1 l[i][k].2 (mu ax);exact aF
 obtain⟨n,hn⟩:=ar l.length;have bf:=aq hn;have uI:n≤1000000000:=by rw[←hn];exact ek.out.l.1
 rw[hn];have uw:=AF (P:=Tryz.prog) 72 78 (J 0) 1 24 Tryz.underlying72 Zy n (by omega) (by omega);clear hn;go_enter G8,G9;go_upto_region 2 with fail;obtain⟨W,br⟩:=ar ((((w.alloc (ai (#[I 2,I aW,I aY,I bb,I bh,I cx,I bw,I r,ad pl n cl,ad pp s.len cp]) dz)).alloc (ai (#[U bD,U bR,I b8,I ex,I bI]) pC)).alloc (ai (#[I 0,I 0,I 0,I 0,I 0,I 0,I 0,I 0,J 0,J 0]) dz)).alloc (ai (#[I 2,I 0,I 0,I 0,I 0,I 0,I 0,I r,J 0,J 0]) dz));have bM:af (fx w w.heap.size #[I 2,I aW,I aY,I bb,I bh,I cx,I bw,I r,ad pl n cl,ad pp s.len cp] #[U bD,U bR,I b8,I ex,I bI] #[I 2,I 0,I 0,I 0,I 0,I 0,I 0,I r,J 0,J 0] W):=by obtain⟨av,az,aF,bk,ay⟩:=AA br;exact⟨av,az,aF,bk,ay⟩
 rw[br];clear br;obtain⟨g0,g1,g2,g3,g4,g5,g6,g7,g8,g9⟩:=dZ bM.out.cF;obtain⟨l5,dY,cO,fl,gB,iG,fW,lA,lB,ky⟩:=dZ bM.out.out;have n0:=lt_of_heap bM.out.out;have ei:=lz bM.out.out;go_upto_region 14 with fail;have c0:af (fx w w.heap.size #[I 2,I aW,I aY,I bb,I bh,I cx,I bw,I r,ad pl n cl,ad pp s.len cp] #[U bD,U bR,I b8,I ex,I bI] #[I 2,I 0,I 0,I 0,I 0,I 0,I 0,I r,ag W.heap.size 0 n n,J 0] ((W.setCell (aj (w.heap.size+1+1+1) 8) (ag W.heap.size 0 n n)).alloc (ai (madeCells #[J 0] n) k6))):=(bM.out.set 8 _).below (a' _ _)
 have ij:af (((W.setCell (aj (w.heap.size+1+1+1) 8) (ag W.heap.size 0 n n)).alloc (ai (madeCells #[J 0] n) k6)).heap[W.heap.size]?=some (.cells (madeCells #[J 0] n) k6)):=by
  have h:=cd (W.setCell (aj (w.heap.size+1+1+1) 8) (ag W.heap.size 0 n n)) (ai (madeCells #[J 0] n) k6)
  rwa [Ss] at h
 obtain⟨B,bL⟩:=ar W.heap.size;have nG:af (w.heap.size+1+1+1<B):=by show _<_;rw[←bL];exact lt_of_heap bM.out.out
 clear g0 g1 g2 g3 g4 g5 g6 g7 g9 l5 dY cO fl gB iG fW lA lB ky n0 ei uw;rw[bL] at c0 ij⊢;generalize (W.setCell (aj (w.heap.size+1+1+1) 8) (ag B 0 n n)).alloc (.cells (madeCells #[J 0] n) k6)=bY at c0 ij⊢;clear g8 bM bL;clear W;obtain⟨g0,g1,g2,g3,g4,g5,g6,g7,g8,g9⟩:=dZ c0.out.cF;go_wp2_with fail
 go_loopw [78] (fun i wr=>∃(j:Nat) (aK:aeo),aK=wr∧j≤n∧i=I j∧af (fx w w.heap.size #[I 2,I aW,I aY,I bb,I bh,I cx,I bw,I r,ad pl n cl,ad pp s.len cp] #[U bD,U bR,I b8,I ex,I bI] #[I 2,I 0,I 0,I 0,I 0,I 0,I 0,I r,ag B 0 n n,J 0] aK)∧af (∃cs,an aK B cs k6∧cs.size=n∧nF (fun k=>w.heap.size+1+1+1<k∧k≠B) aK cs ⟨bD,bR,b8,(ex,bI)⟩ l j)) (fun i _=>n -(intOf i).toNat)
 case atStart=>exact⟨0,_,rfl,eE _,rfl,c0.out,⟨_,ij.out,by rw[Hb],fun i hi h=>absurd h (nB _)⟩⟩
 case round=>
 clear g0 g1 g2 g3 g4 g5 g6 g7 g8 g9;obtain⟨j,aK,rfl,cr,rfl,p8,Cj⟩:=hrel;by_cases b1:j<n
 ·have fL:j<l.length:=(by rw[bf.out];exact b1);have i':(j:Int)<(n:Int):=(by omega);obtain⟨fP,hr⟩:=ar (l[j]);obtain⟨fC,o,q,nz,rfl,p2,mY,mq⟩:=(ek.out.l.below p8.out.aZ).at fL hr;have bN:=aq mq;have bq:=aq hr;have rV:fP.length≤1000000000:=mq.1;obtain⟨cS,Cd⟩:=ar fP.length;have xI:=aq Cd;rw[Cd] at p2 rV mY;have akL:=AF (P:=Tryz.prog) 78 71 (.agg #[I 0,I 0]) 2 16 Tryz.underlying78 Zz cS (by omega) (by omega);clear mq hr Cd;go_upto_region 18 with fail;obtain⟨C,oR⟩:=ar aK.heap.size;have ld:af (B<C):=(by obtain⟨cs,h,_⟩:=Cj.out;show B<C;rw[←oR];exact lt_of_heap h);have wg:=aq (p8.out.below (a' aK (ai (madeCells #[I 0,I 0] (cS *2)) i7)));have Ck:af (∃cs,(aK.alloc (ai (madeCells #[I 0,I 0] (cS *2)) i7)).heap[B]?=some (.cells cs k6)∧cs.size=n∧nF (fun k=>(w.heap.size+1+1+1<k∧k≠B)∧k<C) (aK.alloc (ai (madeCells #[I 0,I 0] (cS *2)) i7)) cs ⟨bD,bR,b8,(ex,bI)⟩ l j):=(by obtain⟨cs,av,az,aF⟩:=Cj.out;exact⟨cs,aU av (a' _ _),az,(aF.mono fun k ax h=>⟨h,by omega⟩).keep (.alloc _ _ _)⟩);have ZA:af ((aK.alloc (ai (madeCells #[I 0,I 0] (cS *2)) i7)).heap[C]?=some (.cells (madeCells #[I 0,I 0] (cS *2)) i7)):=(by show _=_;rw[←oR];exact cd _ _);have oh:=aq (a' aK (ai (madeCells #[I 0,I 0] (cS *2)) i7));have N5:=aq oR;rw[oR];clear akL p2 oR;generalize aK.alloc (.cells (madeCells #[I 0,I 0] (cS *2)) i7)=awK at wg Ck ZA oh⊢;go_wp2_with fail
  go_loopw [88] (fun i gy=>∃(k:Nat) (cD:aeo),cD=gy∧k≤cS∧i=I k∧af (fx w w.heap.size #[I 2,I aW,I aY,I bb,I bh,I cx,I bw,I r,ag fC o n cl,ad pp s.len cp] #[U bD,U bR,I b8,I ex,I bI] #[I 2,I 0,I 0,I 0,I 0,I 0,I 0,I r,ag B 0 n n,J 0] cD)∧af (∃cs,an cD B cs k6∧cs.size=n∧nF (fun k=>(w.heap.size+1+1+1<k∧k≠B)∧k<C) cD cs ⟨bD,bR,b8,(ex,bI)⟩ l j)∧af (Below C aK cD)∧af (∃ps,an cD C ps i7∧ps.size=cS *2∧AG ps ⟨bD,bR,b8,(ex,bI)⟩ fP k)) (fun i _=>cS -(intOf i).toNat)
  case atStart=>exact⟨0,_,rfl,eE _,rfl,wg.out,Ck.out,N5.out ▸ oh.out,⟨_,ZA.out,by rw[Hb],fun i hi h=>absurd h (nB _)⟩⟩
  case round=>
  obtain⟨k,cD,rfl,ax,rfl,kh,kP,dk,qC⟩:=hrel;by_cases iE:k<cS
  ·have qz:k<fP.length:=(by rw[xI.out];exact iE);have NW:(k:Int)<(cS:Int):=(by omega);obtain⟨z,bn⟩:=ar (fP[k]);have St:=bN.out.below (w':=cD) (N5.out ▸ dk.out);obtain⟨nA,l3,rfl,s0,s1⟩:=St.at qz bn;have akM:nA<cD.heap.size:=(by obtain⟨bg,uq,kz,he,_,aJ,_⟩:=St.2 (by omega);injection he with he;injection he with J' xw;rw[J'];exact lt_of_heap aJ);have n5:fZ z=true:=(by have h:=lE.out j fL k (by rw[bq.out];exact qz);simp only[bq.out] at h;rw[←bn];exact h);obtain⟨gz,gA⟩:=z;have aX:=aq bn;have aP:=aq (uC n5);clear bn n5 St;go_upto_region 21 with fail;have ra:=aq (kh.out.below (a' cD (eZ (gz,gA))));have Hg:af (∃cs,(cD.alloc (eZ (gz,gA))).heap[B]?=some (.cells cs k6)∧cs.size=n∧nF (fun k=>(w.heap.size+1+1+1<k∧k≠B)∧k<C) (cD.alloc (eZ (gz,gA))) cs ⟨bD,bR,b8,(ex,bI)⟩ l j):=(by obtain⟨cs,av,az,aF⟩:=kP.out;exact⟨cs,aU av (a' _ _),az,aF.keep (.alloc _ _ _)⟩);have e4:=aq (dk.out.trans ((a' cD (eZ (gz,gA))).mono (by have:=dk.out.size;have:=N5.out;omega)));have iT:af (∃ps,(cD.alloc (eZ (gz,gA))).heap[C]?=some (.cells ps i7)∧ps.size=cS *2∧AG ps ⟨bD,bR,b8,(ex,bI)⟩ fP k):=(by obtain⟨ps,av,az,aF⟩:=qC.out;exact⟨ps,aU av (a' _ _),az,aF⟩);have wh:af ((cD.alloc (eZ (gz,gA))).heap[cD.heap.size]?=some (eZ (gz,gA))):=cd _ _;clear s0 s1 akM kh kP dk qC;generalize cD.heap.size=D at wh⊢;generalize cD.alloc (eZ (gz,gA))=dp at ra Hg e4 iT wh⊢;obtain⟨d0,d1,_,_⟩:=N0 wh.out;obtain⟨t0,t1,t2,t3,t4⟩:=uF ra.out.dm;obtain⟨⟨x,y⟩,hp⟩:∃p:bK,h2 ⟨bD,bR,b8,(ex,bI)⟩ (gz,gA)=p:=⟨_,rfl⟩;have zg:=aq hp;clear hp;go_wp2_with fail;refine (Ay ⟨bD,bR,b8,(ex,bI)⟩ gz gA aP.out.1 aP.out.2 gb.out.1 gb.out.2 x y zg dp).mono ?_;rintro e cA ⟨rfl,iU⟩;have jD:=aq (ra.out.below iU);have zh:af (∃cs,an cA B cs k6∧cs.size=n∧nF (fun k=>(w.heap.size+1+1+1<k∧k≠B)∧k<C) cA cs ⟨bD,bR,b8,(ex,bI)⟩ l j):=(by obtain⟨cs,av,az,aF⟩:=Hg.out;exact⟨cs,aU av iU,az,aF.keep (.dI iU)⟩);have dX:=aq (e4.out.trans (iU.mono (by have:=e4.out.size;have:=N5.out;omega)));obtain⟨ps,iF,nH,Ka⟩:=iT.out;have Eg:=aU iF iU;have Kb:=aq Eg;have oS:=aq nH;have N6:=aq Ka;clear d0 d1 t0 t1 t2 t3 t4 ra Hg e4 iT wh iU iF Ka;obtain⟨v0,aN⟩:=J9 (i:=k *2) Eg (by omega);obtain⟨v1,aL⟩:=J9 (i:=k *2+1) Eg (by omega);have f0:=lz Eg (k *2);have f1:=lz Eg (k *2+1);have jo:=lt_of_heap Eg;clear Eg nH;go_upto_region 22 with fail;have te:af (fx w w.heap.size #[I 2,I aW,I aY,I bb,I bh,I cx,I bw,I r,ag fC o n cl,ad pp s.len cp] #[U bD,U bR,I b8,I ex,I bI] #[I 2,I 0,I 0,I 0,I 0,I 0,I 0,I r,ag B 0 n n,J 0] ((cA.setCell (aj C (k *2)) (I x)).setCell (aj C (k *2+1)) (I y))):=(by have av:=ld.out;have az:=nG.out;exact (jD.out.off (by omega) _ _).off (by omega) _ _);have Eh:af (∃cs,((cA.setCell (aj C (k *2)) (I x)).setCell (aj C (k *2+1)) (I y)).heap[B]?=some (.cells cs k6)∧cs.size=n∧nF (fun k=>(w.heap.size+1+1+1<k∧k≠B)∧k<C) ((cA.setCell (aj C (k *2)) (I x)).setCell (aj C (k *2+1)) (I y)) cs ⟨bD,bR,b8,(ex,bI)⟩ l j):=(by have bk:=ld.out;obtain⟨cs,av,az,aF⟩:=zh.out;exact⟨cs,(tb (by omega)).trans ((tb (by omega)).trans av),az,aF.keep ((aQ.set (a:=⟨C,k *2,none⟩) (fun h=>oP _ h.2) _).trans (.set (a:=⟨C,k *2+1,none⟩) (fun h=>oP _ h.2) _))⟩);have mv:af (Below C aK ((cA.setCell (aj C (k *2)) (I x)).setCell (aj C (k *2+1)) (I y))):=(dX.out.setCell (p:=⟨C,k *2,none⟩) (bx _) _).setCell (p:=⟨C,k *2+1,none⟩) (bx _) _
   have oT:af (∃ps,((cA.setCell (aj C (k *2)) (I x)).setCell (aj C (k *2+1)) (I y)).heap[C]?=some (.cells ps i7)∧ps.size=cS *2∧AG ps ⟨bD,bR,b8,(ex,bI)⟩ fP (k+1)):=
    ⟨_,dL _ (dL _ Kb.out),by rw[Ci,Ci];exact oS.out,N6.out.next (by have:=oS.out;omega) qz aX.out zg.out⟩
   clear aN aL f0 f1 jo Kb jD zh dX;generalize (cA.setCell (aj C (k *2)) (I x)).setCell (aj C (k *2+1)) (I y)=bt at te Eh mv oT⊢;go_wp2_with fail;go_round<;>first|exact⟨k+1,_,rfl,by omega,by go_num,te.out,Eh.out,mv.out,oT.out⟩|(simp[intOf]<;>omega)
  ·have xz:k=cS:=(by omega);subst xz;obtain⟨l5,dY,cO,fl,gB,iG,fW,lA,lB,ky⟩:=dZ kh.out.out;have dy:=lt_of_heap kh.out.out;obtain⟨cs,gm,jo,ZB⟩:=kP.out;have Ei:=aq gm;have ZC:=aq jo;have Hh:=aq ZB;obtain⟨v0,aN⟩:=J9 (i:=j) gm (by omega);have f0:=lz gm j;have eU:=lt_of_heap gm;clear gm jo ZB;go_upto_region 24 with fail;have te:af (fx w w.heap.size #[I 2,I aW,I aY,I bb,I bh,I cx,I bw,I r,ag fC o n cl,ad pp s.len cp] #[U bD,U bR,I b8,I ex,I bI] #[I 2,I 0,I 0,I 0,I 0,I 0,I 0,I r,ag B 0 n n,J 0] (cD.setCell (aj B j) (ag C 0 k k))):=by have az:=nG.out;exact kh.out.off (by omega) _ _
   have Eh:af (∃cs,(cD.setCell (aj B j) (ag C 0 k k)).heap[B]?=some (.cells cs k6)∧cs.size=n∧nF (fun k=>w.heap.size+1+1+1<k∧k≠B) (cD.setCell (aj B j) (ag C 0 k k)) cs ⟨bD,bR,b8,(ex,bI)⟩ l (j+1)):=by
    refine⟨_,dL _ Ei.out,by rw[Ci];exact ZC.out,?_⟩;have AH:aQ (fun k=>w.heap.size+1+1+1<k∧k≠B) cD (cD.setCell (aj B j) (ag C 0 k k)):=.set (a:=⟨B,j,none⟩) (fun h=>h.2 rfl) _;refine ((Hh.out.mono fun k _ h=>h.1).keep AH).next (by rw[ZC.out];exact b1) fL bq.out xI.out (bx _) ?_
    obtain⟨ps,av,az,aF⟩:=qC.out;have bk:=ld.out;have b9:=nG.out;exact (AG.JL (xI.out ▸ aF) (R:=fun k=>w.heap.size+1+1+1<k∧k≠B) ⟨by omega,by omega⟩ av bN.out.1).keep AH
   clear l5 dY cO fl gB iG fW lA lB ky aN f0 dy eU Ei Hh kh kP dk qC;generalize cD.setCell (aj B j) (ad (some (aj C 0)) k k)=bt at te Eh⊢;go_wp2_with fail;go_round<;>first|exact⟨j+1,_,rfl,by omega,by go_num,te.out,Eh.out⟩|(simp[intOf]<;>omega)
 ·have iR:j=n:=(by omega);subst iR;go_upto_region 32 with fail;obtain⟨l5,dY,cO,fl,gB,iG,fW,lA,lB,ky⟩:=dZ p8.out.out;obtain⟨gZ,fM,kO,p5,tc,td,p6,uG,uH,lC⟩:=dZ p8.out.res;have fr:=lz p8.out.res;have dy:=lt_of_heap p8.out.res;go_wp2_with fail;change bodyPost _ _ _ _ _ (h8 aK (w.heap.size+1+1) (I 2) (I 0) (I 0) (I 0) (I 0) (I 0) (I 0) (I r) (ag B 0 j j) (J 0));have hF:=v8 (I 2) (I 0) (I 0) (I 0) (I 0) (I 0) (I 0) (I r) (ag B 0 j j) (J 0) p8.out.res;have bL:=wa (I 2) (I 0) (I 0) (I 0) (I 0) (I 0) (I 0) (I r) (ag B 0 j j) (J 0) p8.out.aZ (show w.heap.size≤w.heap.size+1+1 by omega);have hS:dv (fun k=>w.heap.size≤k) (h8 aK (w.heap.size+1+1) (I 2) (I 0) (I 0) (I 0) (I 0) (I 0) (I 0) (I r) (ag B 0 j j) (J 0)) (some (aj B 0)) j none 0 ⟨⟨2,(0,0),(0,0),(0,0),r,l.map fun c=>c.map (h2 ⟨bD,bR,b8,(ex,bI)⟩)⟩,.nil⟩:=(by obtain⟨cs,av,az,aF⟩:=Cj.out;rw[←bf.out] at aF;have b9:=nG.out;have cW:h6 (fun _=>True) aK none []:=.nil _ _ _;have eN:iC (fun k=>w.heap.size+1+1+1<k) aK (some (aj B 0)) (l.map fun c=>c.map (h2 ⟨bD,bR,b8,(ex,bI)⟩)):=(aF.mono fun k _ h=>h.1).cons (by omega) av (by rw[bf.out];exact uI);exact⟨(eN.keep (Sq (I 2) (I 0) (I 0) (I 0) (I 0) (I 0) (I 0) (I r) (ag B 0 j j) (J 0) (by omega))).mono fun k _ h=>by omega,.nil _ _ _,by simp[bf.out],eE _⟩);generalize h8 aK (w.heap.size+1+1) (I 2) (I 0) (I 0) (I 0) (I 0) (I 0) (I 0) (I r) (ag B 0 j j) (J 0)=et at hF bL hS⊢;obtain⟨aN,aL,aI,c3,bJ,c5,b2,b',bX,bj⟩:=dZ hF;exact dC (v:=.agg #[I 2,I 0,I 0,I 0,I 0,I 0,I 0,I r,ag B 0 j j,J 0]) (by simp[results,Az,go_sem,aN,aL,aI,c3,bJ,c5,b2,b',bX,bj]) rfl (.mk (by simp[lU,k1,gu]:_=(⟨⟨2,(0,0),(0,0),(0,0),r,l.map fun c=>c.map (h2 ⟨bD,bR,b8,(ex,bI)⟩)⟩,.nil⟩:dK)) (some (aj B 0)) j none 0 (by simp[bf.out,bc.len]) hS bL)
theorem mw{u:ada}(h:k≠j):(w.setCell (aj j i) u).heap[k]?=w.heap[k]?:=uo _ _ _ _ h
theorem Su(w:aeo)(a:Addr)(u:ada):(w.setCell a u).heap.size=w.heap.size:=by simp[World.setCell]
theorem cell_of{t:aai}{v:ada}(h:an w k cs t)(aS:cs[i]?=some v):ak w k i v:=by simp[World.cell?,h,aS]
def iV(w:aeo)(b:Nat):Nat→aev→World
 |_,[]=>w
 |m,v::vs=>iV (w.setCell (aj b m) v) b (m+1) vs
def r3(cs:ajv):Nat→aev→Array Value
 |_,[]=>cs
 |m,v::vs=>r3 (cs.setIfInBounds m v) (m+1) vs
theorem Hi{b:Nat}{t:aai}:∀(vs:aev) {w:aeo} {cs:ajv} {m:Nat},an w b cs t→(iV w b m vs).heap[b]?=some (.cells (r3 cs m vs) t)
 |[],_,_,_,h=>h
 |v::vs,_,_,_,h=>Hi vs (dL v h)
theorem xJ{b k:Nat}(ax:k≠b):∀(vs:aev) {w:aeo} {m:Nat},(iV w b m vs).heap[k]?=w.heap[k]?
 |[],_,_=>rfl
 |v::vs,_,_=>(xJ ax vs).trans (mw ax)
theorem xK{S:afp}{b:Nat}(ay:¬S b):∀(vs:aev) {w:aeo} {m:Nat},aQ S w (iV w b m vs)
 |[],_,_=>.refl _ _
 |v::vs,w,m=>(aQ.set (a:=⟨b,m,none⟩) ay v).trans (xK ay vs)
theorem tf{B:Nat}{b:Nat}(ay:B≤b):∀(vs:aev) {w0 w:aeo} {m:Nat},Below B w0 w→Below B w0 (iV w b m vs)
 |[],_,_,_,h=>h
 |v::vs,_,_,m,h=>tf ay vs (h.setCell (p:=⟨b,m,none⟩) ay v)
theorem ZD(b:Nat):∀(vs:aev) (w:aeo) (m:Nat),(iV w b m vs).heap.size=w.heap.size
 |[],_,_=>rfl
 |v::vs,w,m=>(ZD b vs _ _).trans (Su _ _ _)
theorem Kc:∀(vs:aev) (cs:ajv) (m:Nat),(r3 cs m vs).size=cs.size
 |[],_,_=>rfl
 |v::vs,cs,m=>(Kc vs _ _).trans (by simp)
theorem Sv:∀(vs:aev) (cs:ajv) (m i:Nat),i<m→(r3 cs m vs)[i]?=cs[i]?
 |[],_,_,_,_=>rfl
 |v::vs,cs,m,i,h=>(Sv vs _ _ _ (by omega)).trans (we (by omega))
theorem Sw:∀(vs:aev) (cs:ajv) (m i:Nat),i<vs.length→m+vs.length≤cs.size→(r3 cs m vs)[m+i]?=vs[i]?
 |[],_,_,_,h,_=>absurd h (nB _)
 |v::vs,cs,m,0,h,hs=>(Sv vs _ _ _ (by omega)).trans (by rw[G0,G' (by simp only[eP] at hs;omega)];rfl)
 |v::vs,cs,m,i+1,h,hs=>by have:=Sw vs (cs.setIfInBounds m v) (m+1) i (by simpa using h) (by simp only[eP,Ci] at hs⊢;omega);rw[show m+(i+1)=m+1+i by omega];exact this
variable{vs:aev}
theorem ZE{n:Nat}(h:n≤m):(r3 cs m vs).toList.take n=cs.toList.take n:=by
 apply Hc;intro i;rw[s6,s6];split
 ·have av:=Sv vs cs m i (by omega);simpa using av
 ·rfl
theorem ZF(h:m+vs.length≤cs.size):((r3 cs m vs).toList.drop m).take vs.length=vs:=by
 apply Hc;intro i;rw[s6];split
 ·rename_i hi;have av:=Sw vs cs m i hi h;rw[Av];simpa using av
 ·rename_i hi;rw[Sr (by omega)]
theorem akN(h:vs.length=cs.size):r3 cs 0 vs=vs.toArray:=by
 apply N3;intro i;by_cases hi:i<vs.length
 ·have:=Sw vs cs 0 i hi (by omega);rw[kr] at this;rw[this];simp
 ·rw[D4 (by rw[Kc];omega),D4 (by simp;omega)]
theorem oU{b:Nat}{t:aai}(vs:aev)(h:an w b cs t)(aA:vs.length=cs.size):(iV w b 0 vs).heap[b]?=some (.cells vs.toArray t):=by rw[Hi vs h,akN aA]
theorem ds.congr{S:afp}{w:aeo}:∀{s:bc} {xs fw:aev},ds S w s xs→xs.take (s.len *11)=fw.take (s.len *11)→ds S w s fw
 |.nil,_,_,_,_=>trivial
 |.cons a b s r,xs,fw,h,e=>by obtain⟨⟨pl,cl,pp,cp,av,az⟩,cW⟩:=h;have a1:xs.take 11=fw.take 11:=(by have:=fK (List.take 11) e;rw[Ef,Ef,xH (by simp only[bc.len];omega)] at this;exact this);have a6:(xs.drop 11).take (r.len *11)=(fw.drop 11).take (r.len *11):=(by have:=fK (List.drop 11) e;rw[N4,N4,show (bc.cons a b s r).len *11-11=r.len *11 by simp only[bc.len];omega] at this;exact this);exact⟨⟨pl,cl,pp,cp,by rw[←a1];exact av,az⟩,ds.congr cW a6⟩
theorem ds.join{S:afp}{w:aeo}:∀{s t:bc} {xs:aev},ds S w s xs→ds S w t (xs.drop (s.len *11))→ds S w (s.append t) xs
 |.nil,_,xs,_,h=>by simpa[bc.append,bc.len] using h
 |.cons a b s r,t,xs,h,g=>by
  refine⟨h.1,ds.join h.2 ?_⟩;rw[xA]
  rwa [show 11+r.len *11=(bc.cons a b s r).len *11 by simp only[bc.len];omega]
theorem bP{v Z:aeo}(ay:ao v v Z){x:ada}(h:ak v k i x):ak Z k i x:=by
 have ax:k<v.heap.size:=by
  by_cases ax:k<v.heap.size
  ·exact ax
  ·have:v.heap[k]?=none:=D4 (by omega);simp[World.cell?,this] at h
 have:=ay.block k ax;simpa[World.cell?,this] using h
theorem l6{P:Program}{fn:Func}{p u:Tmp}{ty:aai}(h:fn.results= #[.cell p ty,.tmp u])(tmps:ajv)(w:aeo)(g:Nat)(t:aai)(cs:ajv)(fr:Nat×Nat)(d:TypeDesc)
  (hp:tmps.getD p undef=.pointer (some (aj g 0))) (ba:w.heap[g]?=some (.cells cs t fr))
  (hu:P.underlying ty=some d) (hd:(match d with|.struct _|.array _ _=>true|_=>false)=true) (hi:(P.info? ty).map (·.size)=some cs.size):
  (results fn tmps).run P w=.ok (.tuple #[.agg cs,tmps.getD u undef]) w:=by
 rw[results_cell_tmp h,hp];simp only[asAddr,Sem.run_pure,Hd,run_loadVar_row w g t ty cs fr d ba hu hd hi]
theorem Cl{a b c:Bool}(h:(a=true↔b=true))(e:b=c):a=c:=e ▸ Bool.eq_iff_iff.2 h
theorem jE(w:aeo)(o:Obj):ao w w (w.alloc o):=a' w o
theorem nI(w:aeo)(o p:Obj):ao w w ((w.alloc o).alloc p):=(a' w o).alloc (by simp) _
theorem ZG(w:aeo)(o p q:Obj):ao w w (((w.alloc o).alloc p).alloc q):=(nI w o p).alloc (by simp;omega) _
theorem N7(v:Int)(f:Bool)(hf:af (sP v=f))(w:aeo):Calls Tryz.prog 121 #[I v] w fun e w'=>e=ab (U f)∧w'=w:=by
 go_enter Tryz.func121,Tryz.ntmps121;go_wp2_with fail
 all_goals
  go_ret;refine⟨ej (Cl ⟨fun h=>?_,fun h=>?_⟩ hf.out),rfl⟩<;>simp only[sP,ix,iO,pq] at h⊢<;>omega
theorem ZH(b:bO)(f:Bool)(hf:af (okB b=f))(w:aeo):Calls Tryz.prog 83 #[h7 b] w fun e w'=>e=ab (U f)∧ao w w w':=by
 obtain⟨aD,aC,aG,aE⟩:=b;have h:=hf.out;clear hf;unfold okB at h;simp only at h;obtain⟨f0,aT⟩:=ar (sP aD);obtain⟨f1,av⟩:=ar (sP aC);obtain⟨f2,az⟩:=ar (sP aG);obtain⟨f3,aF⟩:=ar (sP aE);rw[aT,av,az,aF] at h;have oV:=aq aT;have H1:=aq av;have c1:=aq az;have dM:=aq aF;clear aT av az aF;by_cases aN:aD≤aG
 case neg=>
  have aP:af (false=f):=(by show _=_;rw[←h,eT aN];rfl);clear h;go_enter Tryz.func83,Tryz.ntmps83;go_wp2_with fail;go_ret;exact⟨ej aP.out,jE _ _⟩
 by_cases aL:aC≤aE
 case neg=>
  have aP:af (false=f):=(by show _=_;rw[←h,eT aL];simp);clear h;go_enter Tryz.func83,Tryz.ntmps83;go_wp2_with fail;go_ret;exact⟨ej aP.out,jE _ _⟩
 have aP:af ((f0&&(f1&&(f2&&f3)))=f):=by show _=_;rw[←h,e' aN,e' aL];rfl
 clear h;go_enter Tryz.func83,Tryz.ntmps83;go_wp2_with fail;with_reducible refine (N7 _ _ oV _).mono ?_
 rintro e bV ⟨rfl,rfl⟩;cases f0 with
 |false=>
  go_wp2_with fail;go_ret;exact⟨ej aP.out,jE _ _⟩
 |true=>
  go_wp2_with fail;with_reducible refine (N7 _ _ H1 _).mono ?_
  rintro e bV ⟨rfl,rfl⟩;cases f1 with
  |false=>
   go_wp2_with fail;go_ret;exact⟨ej aP.out,jE _ _⟩
  |true=>
   go_wp2_with fail;with_reducible refine (N7 _ _ c1 _).mono ?_
   rintro e bV ⟨rfl,rfl⟩;cases f2 with
   |false=>
    go_wp2_with fail;go_ret;exact⟨ej aP.out,jE _ _⟩
   |true=>
    go_wp2_with fail;with_reducible refine (N7 _ _ dM _).mono ?_
    rintro e bV ⟨rfl,rfl⟩;go_wp2_with fail;go_ret;exact⟨ej aP.out,jE _ _⟩
theorem ZI(b:bO)(p:bK)(f:Bool)(hf:af ((decide (b.aD≤p.1)&&(decide (p.1≤b.aG)&&(decide (b.aC≤p.2)&&decide (p.2≤b.aE))))=f))(w:aeo):Calls Tryz.prog 269 #[h7 b,l1 p] w fun e w'=>e=ab (U f)∧ao w w w':=by
 obtain⟨aD,aC,aG,aE⟩:=b;obtain⟨cw,ct⟩:=p;go_enter Tryz.func269,Tryz.ntmps269;go_wp2_with fail
 all_goals
  go_ret;refine⟨ej (Cl ⟨fun h=>?_,fun h=>?_⟩ hf.out),nI _ _ _⟩<;>simp only[ix,iO,pq] at h⊢<;>omega
theorem Sx(b:bO)(f:Bool)(hf:af (rH b=f))(w:aeo):Calls Tryz.prog 171 #[h7 b] w fun e w'=>e=ab (U f)∧ao w w w':=by
 obtain⟨aD,aC,aG,aE⟩:=b;go_enter Tryz.func171,Tryz.ntmps171;go_wp2_with fail
 all_goals
  go_ret;refine⟨ej (Cl ⟨fun h=>?_,fun h=>?_⟩ hf.out),jE _ _⟩<;>simp only[rH,DS,iO,pq] at h⊢<;>omega
theorem cR{t:aai}(h:an w k cs t)(i:Nat):w.frozen? ⟨k,i,none⟩=false:=by simp[World.frozen?,h]
theorem hb{aD aC aG aE:Int}(h:w.heap[k]?=some (cU ⟨aD,aC,aG,aE⟩)):ak w k 0 (I aD)∧ak w k 1 (I aC)∧ak w k 2 (I aG)∧ak w k 3 (I aE):=by refine⟨?_,?_,?_,?_⟩<;>simp[World.cell?,h]
theorem akO(a b:bO)(f:Bool)(hf:af (sQ a b=f))(w:aeo):Calls Tryz.prog 124 #[h7 a,h7 b] w fun e w'=>e=ab (U f)∧ao w w w':=by
 obtain⟨eD,aT⟩:=ar (rH a);obtain⟨a1,av⟩:=ar (rH b);have h:=hf.out;clear hf;unfold sQ at h;rw[aT,av] at h;obtain⟨aD,aC,aG,aE⟩:=a;obtain⟨u0,v0,u1,v1⟩:=b;simp only at h;have oV:=aq aT;have H1:=aq av;have hB:=aq h;clear aT av h;go_enter Tryz.func124,Tryz.ntmps124;go_upto_region 1 with fail;obtain⟨W,br⟩:=ar ((w.alloc (cU ⟨aD,aC,aG,aE⟩)).alloc (cU ⟨u0,v0,u1,v1⟩));have aO:af (ao w w W):=by show Below _ _ _;rw[←br];exact nI _ _ _
 have cc:af (W.heap[w.heap.size]?=some (cU ⟨aD,aC,aG,aE⟩)):=by show _=_;rw[←br];exact aU (cd _ _) (a' _ _)
 have bz:af (W.heap[w.heap.size+1]?=some (cU ⟨u0,v0,u1,v1⟩)):=by show _=_;rw[←br,←pz w (cU ⟨aD,aC,aG,aE⟩)];exact cd _ _
 rw[br];clear br;obtain⟨a0,bE,a2,a3⟩:=hb cc.out;obtain⟨cy,cE,bo,fk⟩:=hb bz.out;go_wp2_with fail;with_reducible refine (Sx ⟨aD,aC,aG,aE⟩ _ oV _).mono ?_
 rintro e ck ⟨rfl,er⟩;have c6:af (ao w w ck):=aO.out.trans (er.mono aO.out.size);have jc:=aq (aU cc.out er);have oi:=aq (aU bz.out er);clear a0 bE a2 a3 cy cE bo fk er;obtain⟨a0,bE,a2,a3⟩:=hb jc.out;obtain⟨cy,cE,bo,fk⟩:=hb oi.out;cases eD with
 |true=>
  have aP:af (true=f):=(by show _=_;rw[←hB.out];rfl);go_wp2_with fail;go_ret;exact⟨ej aP.out,c6.out⟩
 |false=>
  go_wp2_with fail;with_reducible refine (Sx ⟨u0,v0,u1,v1⟩ _ H1 _).mono ?_
  rintro e cm ⟨rfl,dA⟩;have cP:af (ao w w cm):=c6.out.trans (dA.mono c6.out.size);have jT:=aq (aU jc.out dA);have gn:=aq (aU oi.out dA);clear a0 bE a2 a3 cy cE bo fk dA;obtain⟨a0,bE,a2,a3⟩:=hb jT.out;obtain⟨cy,cE,bo,fk⟩:=hb gn.out;cases a1 with
  |true=>
   have aP:af (true=f):=(by show _=_;rw[←hB.out];rfl);go_wp2_with fail;go_ret;exact⟨ej aP.out,cP.out⟩
  |false=>
   go_wp2_with fail
   all_goals
    go_ret;refine⟨ej (Cl ⟨fun h=>?_,fun h=>?_⟩ hB.out),cP.out⟩<;>simp only[DS,iO,pq,false_or] at h⊢<;>(try simp only[false_or] at h)<;>first|omega|(trace_state;fail)
def hU(p:bK):Prop:=(-536870912≤p.1∧p.1≤536870912)∧-536870912≤p.2∧p.2≤536870912
theorem ZJ{a b:Int}(ha:-1073741824≤a∧a≤1073741824)(ay:-1073741824≤b∧b≤1073741824):-1152921504606846976≤a *b∧a *b≤1152921504606846976:=by
 have av:0≤(1073741824-a) *(1073741824+b):=gW (by omega) (by omega);have az:0≤(1073741824+a) *(1073741824-b):=gW (by omega) (by omega);have aF:0≤(1073741824-a) *(1073741824-b):=gW (by omega) (by omega);have bk:0≤(1073741824+a) *(1073741824+b):=gW (by omega) (by omega);have a1:(1073741824-a) *(1073741824+b)=1152921504606846976+1073741824 *b-1073741824 *a-a *b:=by grind
 have a6:(1073741824+a) *(1073741824-b)=1152921504606846976-1073741824 *b+1073741824 *a-a *b:=by grind
 have ch:(1073741824-a) *(1073741824-b)=1152921504606846976-1073741824 *b-1073741824 *a+a *b:=by grind
 have gw:(1073741824+a) *(1073741824+b)=1152921504606846976+1073741824 *b+1073741824 *a+a *b:=by grind
 omega
theorem Hj(o a b:bK)(bl:hU o)(ha:hU a)(ay:hU b)(f:Int)(hf:af (eH o a b=f))(w:aeo):Calls Tryz.prog 311 #[l1 o,l1 a,l1 b] w fun e w'=>e=ab (I f)∧ao w w w':=by obtain⟨ox,tg⟩:=o;obtain⟨aW,aY⟩:=a;obtain⟨bb,Ej⟩:=b;unfold hU at bl ha ay;simp only at bl ha ay;have m1:=ZJ (a:=aW-ox) (b:=Ej-tg) (by omega) (by omega);have m2:=ZJ (a:=aY-tg) (b:=bb-ox) (by omega) (by omega);have bV:ae (aW-ox)=aW-ox:=cX _ (by omega);have bY:ae (Ej-tg)=Ej-tg:=cX _ (by omega);have dp:ae (aY-tg)=aY-tg:=cX _ (by omega);have cA:ae (bb-ox)=bb-ox:=cX _ (by omega);have bt:ae ((aW-ox) *(Ej-tg))=(aW-ox) *(Ej-tg):=cX _ (by omega);have cZ:ae ((aY-tg) *(bb-ox))=(aY-tg) *(bb-ox):=cX _ (by omega);have ki:ae ((aW-ox) *(Ej-tg) -(aY-tg) *(bb-ox))=(aW-ox) *(Ej-tg) -(aY-tg) *(bb-ox):=cX _ (by omega);clear m1 m2 bl ha ay;go_enter Tryz.func311,Tryz.ntmps311;go_wp2_with fail;go_ret;exact⟨pA hf.out,ZG _ _ _ _⟩
theorem uJ(w:aeo)(o p:Obj):((w.alloc o).alloc p).heap[w.heap.size+1]?=some p:=by rw[←pz w o];exact cd _ _
abbrev Hk(b:bO):Value:=.agg #[I b.aD,I b.aC,I b.aG,I b.aC,I b.aD,I b.aE,I b.aG,I b.aE]
theorem akP(b:bO)(w:aeo):Calls Tryz.prog 274 #[h7 b] w fun e w'=>e=ab (Hk b)∧ao w w w':=by obtain⟨aD,aC,aG,aE⟩:=b;go_enter Tryz.func274,Tryz.ntmps274;go_wp2_with fail;have key:=uJ w (cU ⟨aD,aC,aG,aE⟩) (ai (#[I aD,I aC,I aG,I aC,I aD,I aE,I aG,I aE]) 394);exact dC (pD rfl _ _ (w.heap.size+1) _ _ _ _ rfl key Tryz.underlying394 rfl (by kernel_rfl)) rfl ⟨rfl,nI _ _ _⟩
end c4
