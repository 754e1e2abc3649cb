/- Lemmas. -/
import Derived.Test.YtkaiaijcieaofaaGreatDoorQ3
import Derived.Lib.MinMax
import Derived.Deep.RegionLaw
import Derived.Laws.Cover1
import Derived.Test.YtkaiaijcieaofaaGreatDoorShelf
import Derived.Laws.AppendOwn
import Derived.Deep.AppendLies
import Derived.OwnWalk
import Derived.Deep.Upon
set_option linter.all false
set_option maxRecDepth 100000
set_option maxHeartbeats 12800000
namespace Go.Proofs.YtkaiaijcieaofaaGreatDoor
abbrev JO:=@Int.natCast_mul
abbrev As:=@Int.le_refl
abbrev Sh:=@List.getElem_map
abbrev JP:=@Array.getElem?_eq_getElem
abbrev NZ:=@Proofs.Tryz.underlying39
abbrev JQ:=@size_madeCells
abbrev JR:=@Proofs.Tryz.underlying45
abbrev lz:=@List.length_take
abbrev Si:=@run_loadCells_list
abbrev Sj:=@List.map_toArray
abbrev GP:=@wpList_append_lies
abbrev k5:=@Nat.le_of_lt
namespace c1
open Go.RowKit ef
theorem yR{P:Program}(t e:aai)(z:ada)(size bytes:Nat)(bc:P.underlying t=some (.slice e))(GM:(P.info? e).map (fun i=>(i.zero,i.size,i.bytes))=some (some z,size,bytes))(n:Nat)(BV:bytes *n≤281474976710656)(Ef:n≤9223372036854775807)(w:aeo):
  (Instr.makeSlice t (I (n:Int)) (I (n:Int))).run P w=.ok (ag w.heap.size 0 n n) (w.alloc (ai (madeCells z.cells (n *size)) e)):=by
 obtain⟨i,hi,Yw⟩:=Option.map_eq_some_iff.1 GM;simp only[fg] at Yw;obtain⟨bP,hs,ay⟩:=Yw
 have hT:(i.bytes:Int) *(n:Int)≤281474976710656:=by
  have h:((i.bytes *n:Nat):Int)≤281474976710656:=by rw[ay];omega
  rwa [JO] at h
 have hr:=run_make (P:=P) w t e i z bc hi bP .i64 .i64 n n (by omega) (As _) hT (by omega);simp only[Int.toNat_natCast,hs] at hr;exact hr
theorem Yx:(Tryz.prog.info? 45).map (fun i=>(i.zero,i.size,i.bytes))=some (some (J 0),1,24):=by kernel_rfl
theorem Sk:(Tryz.prog.info? 38).map (fun i=>(i.zero,i.size,i.bytes))=some (some (.agg #[I 0,I 0]),2,16):=by kernel_rfl
def nb(R:afp)(x:aeo)(cs:ajv)(t:gj)(l:List (List b7))(j:Nat):Prop:=∀i (hi:i<l.length),i<j→∃q c,cs[i]?=some (.slice q l[i].length c)∧l[i].length≤c∧gV R x q (l[i].map (fI t))
theorem nb.keep{R:afp}{x y:aeo}{cs:ajv}{t:gj}{l:List (List b7)}{j:Nat}(h:nb R x cs t l j)(aw:aK R x y):nb R y cs t l j:=by intro i hi b6;obtain⟨q,c,au,ax,aA⟩:=h i hi b6;exact⟨q,c,au,ax,aA.keep aw⟩
theorem nb.mono{R Q:afp}{x:aeo}{cs:ajv}{t:gj}{l:List (List b7)}{j:Nat}(h:nb R x cs t l j)(aw:∀k,k<x.heap.size→R k→Q k):nb Q x cs t l j:=by intro i hi b6;obtain⟨q,c,au,ax,aA⟩:=h i hi b6;exact⟨q,c,au,ax,aA.mono aw⟩
variable{R S:afp}{t:gj}{l r:List b7}{j k o B aR n:Nat}
theorem nb.next{x:aeo}{cs:ajv}{l:List (List b7)}(h:nb R x cs t l j)(hs:j<cs.size){q:Ja}{m c:Nat}(b6:j<l.length)(hr:l[j]=r)(hm:r.length=m)(aB:m≤c)(hp:gV R x q (r.map (fI t))):nb R x (cs.setIfInBounds j (ad q m c)) t l (j+1):=by
 intro i hi bm;by_cases e:i=j
 ·subst e;refine⟨q,c,?_,by rw[hr,hm];exact aB,by rw[hr];exact hp⟩;rw[Gz hs,hr,hm]
 ·obtain⟨D8,c',au,ax,aA⟩:=h i hi (by omega);exact⟨D8,c',by rw[vV (eN e)];exact au,ax,aA⟩
theorem nb.cons{R:afp}{x:aeo}{cs:ajv}{B:Nat}{t:gj}{l:List (List b7)}(h:nb R x cs t l l.length)(bz:R B)(aE:al x B cs e0)(ay:l.length≤jr):iS R x (some (aj B 0)) (l.map fun c=>c.map (fI t)):=by
 refine⟨by rw[jV];exact ay,fun _=>⟨B,0,cs,rfl,bz,aE,fun i hi=>?_⟩⟩;rw[jV] at hi;obtain⟨q,c,au,ax,aA⟩:=h i hi hi;refine⟨q,c,?_,?_,?_⟩
 ·rw[jt,au];simp
 ·simpa using ax
 ·rw[Sh];exact aA
def At(ps:ajv)(t:gj)(r:List b7)(k:Nat):Prop:=∀i (hi:i<r.length),i<k→ps[i *2]?=some (I (fI t r[i]).1)∧ps[i *2+1]?=some (I (fI t r[i]).2)
theorem At.next{ps:ajv}(h:At ps t r k)(hs:k *2+1<ps.size){z u:b7}(aw:k<r.length)(bP:r[k]=z)(hu:fI t z=u):At ((ps.setIfInBounds (k *2) (I u.1)).setIfInBounds (k *2+1) (I u.2)) t r (k+1):=by
 intro i hi bm;by_cases e:i=k
 ·subst e;rw[bP,hu];constructor
  ·rw[vV (by omega),Gz (by omega)]
  ·rw[Gz (by rw[xg];exact hs)]
 ·obtain⟨au,ax⟩:=h i hi (by omega);constructor
  ·rw[vV (by omega),vV (by omega)];exact au
  ·rw[vV (by omega),vV (by omega)];exact ax
theorem At.nC{x:aeo}{ps:ajv}{C:Nat}(h:At ps t r r.length)(lU:R C)(aE:al x C ps de)(ay:r.length≤jr):gV R x (some (aj C 0)) (r.map (fI t)):=by refine⟨by rw[jV];exact ay,fun _=>⟨C,0,ps,rfl,lU,aE,fun i hi=>?_⟩⟩;rw[jV] at hi;obtain⟨au,ax⟩:=h i hi hi;rw[jt,au,ax];simp
theorem GQ{w:aeo}{i:Nat}{cs:ajv}{t:aai}(h:al w k cs t)(hi:i<cs.size):∃v,ak w k i v:=by rw[show w.cell? ⟨k,i,none⟩=cs[i]? from by simp[World.cell?,h],JP hi];exact⟨_,rfl⟩
theorem Sl(w:aeo)(a:Addr)(u:ada):(w.setCell a u).heap.size=w.heap.size:=by simp[World.setCell]
theorem gN.off{w0:aeo}{g:Nat}{bq cz out:ajv}{x:aeo}(h:gN w0 g bq cz out x)(b6:g+1+1+1<j)(i:Nat)(u:ada):gN w0 g bq cz out (x.setCell (aj j i) u):=
 ⟨(tn (by omega)).trans h.bq,(tn (by omega)).trans h.cz,(tn (by omega)).trans h.res,(tn (by omega)).trans h.out,h.aM.setCell (p:=⟨j,i,none⟩) (by show g≤j;omega) _⟩
theorem ah1(s:bf)(b:dK)(aw:b.k=2)(f:Nat)(left m:Int)(S:afp)(pl:Ja)(cl:Nat)(pp:Ja)(cp:Nat)(w:aeo)(t:gj)
  (fj:af (e5 t.eI.1∧e5 t.eI.2)) (ff:af (dw S w pl cl pp cp ⟨b,s⟩)) (a1:af (mv b s f left=some m)):
  Calls Tryz.prog 186 #[jc b (ad pl b.l.length cl) (ad pp s.len cp),rp t] w (xt w t b s):=by
 obtain⟨k,⟨a7,a'⟩,⟨aX,a8⟩,⟨cx,bA⟩,r,l⟩:=b;obtain⟨bx,bO,cb,ex,cm⟩:=t;simp only at aw;subst aw;show Calls _ _ #[.agg #[I 2,I a7,I a',I aX,I a8,I cx,I bA,I r,ad pl l.length cl,ad pp s.len cp],.agg #[U bx,U bO,I cb,I ex,I cm]] w _;have nc:af (∀i (hi:i<l.length) k (aw:k<l[i].length),gU l[i][k]=true):=by intro i hi k aw;have h:=((Ea a1.out).2.2.1 (show (2:Int)≠6 by decide)).1;simp[jS,Gl] at h;have ax:=h.2 l[i] (k3 hi);have aA:=ax l[i][k].1 l[i][k].2 (k3 aw);exact aA
 obtain⟨n,hn⟩:=aq l.length;have bd:=ao hn;have iX:n≤1000000000:=by rw[←hn];exact ff.out.l.1
 rw[hn];have yS:=yR (P:=Tryz.prog) 39 45 (J 0) 1 24 NZ Yx n (by omega) (by omega);clear hn;go_enter GJ,GK;go_upto_region 2 with fail;obtain⟨W,cP⟩:=aq ((((w.alloc (ai (#[I 2,I a7,I a',I aX,I a8,I cx,I bA,I r,ad pl n cl,ad pp s.len cp]) cQ)).alloc (ai (#[U bx,U bO,I cb,I ex,I cm]) pA)).alloc (ai (#[I 0,I 0,I 0,I 0,I 0,I 0,I 0,I 0,J 0,J 0]) cQ)).alloc (ai (#[I 2,I 0,I 0,I 0,I 0,I 0,I 0,I r,J 0,J 0]) cQ));have bN:af (gN w w.heap.size #[I 2,I a7,I a',I aX,I a8,I cx,I bA,I r,ad pl n cl,ad pp s.len cp] #[U bx,U bO,I cb,I ex,I cm] #[I 2,I 0,I 0,I 0,I 0,I 0,I 0,I r,J 0,J 0] W):=by obtain⟨au,ax,aA,bb,ay⟩:=GO cP;exact⟨au,ax,aA,bb,ay⟩
 rw[cP];clear cP;obtain⟨g0,g1,g2,g3,g4,g5,g6,g7,g8,g9⟩:=dQ bN.out.bq;obtain⟨k4,ek,bV,gl,hI,jF,jG,nG,nH,mx⟩:=dQ bN.out.out;have n0:=lt_of_heap bN.out.out;have dk:=na bN.out.out;go_upto_region 14 with fail;have eo:af (gN w w.heap.size #[I 2,I a7,I a',I aX,I a8,I cx,I bA,I r,ad pl n cl,ad pp s.len cp] #[U bx,U bO,I cb,I ex,I cm] #[I 2,I 0,I 0,I 0,I 0,I 0,I 0,I r,ag W.heap.size 0 n n,J 0] ((W.setCell (aj (w.heap.size+1+1+1) 8) (ag W.heap.size 0 n n)).alloc (ai (madeCells #[J 0] n) e0))):=(bN.out.set 8 _).below (bh _ _)
 have hh:af (((W.setCell (aj (w.heap.size+1+1+1) 8) (ag W.heap.size 0 n n)).alloc (ai (madeCells #[J 0] n) e0)).heap[W.heap.size]?=some (.cells (madeCells #[J 0] n) e0)):=by
  have h:=cR (W.setCell (aj (w.heap.size+1+1+1) 8) (ag W.heap.size 0 n n)) (ai (madeCells #[J 0] n) e0)
  rwa [Sl] at h
 obtain⟨B,bz⟩:=aq W.heap.size;have kq:af (w.heap.size+1+1+1<B):=by show _<_;rw[←bz];exact lt_of_heap bN.out.out
 clear g0 g1 g2 g3 g4 g5 g6 g7 g9 k4 ek bV gl hI jF jG nG nH mx n0 dk yS;rw[bz] at eo hh⊢;generalize (W.setCell (aj (w.heap.size+1+1+1) 8) (ag B 0 n n)).alloc (.cells (madeCells #[J 0] n) e0)=bt at eo hh⊢;clear g8 bN bz;clear W;obtain⟨g0,g1,g2,g3,g4,g5,g6,g7,g8,g9⟩:=dQ eo.out.bq;go_wp2_with fail
 go_loopw [78] (fun i wr=>∃(j:Nat) (aL:aeo),aL=wr∧j≤n∧i=I j∧af (gN w w.heap.size #[I 2,I a7,I a',I aX,I a8,I cx,I bA,I r,ad pl n cl,ad pp s.len cp] #[U bx,U bO,I cb,I ex,I cm] #[I 2,I 0,I 0,I 0,I 0,I 0,I 0,I r,ag B 0 n n,J 0] aL)∧af (∃cs,al aL B cs e0∧cs.size=n∧nb (fun k=>w.heap.size+1+1+1<k∧k≠B) aL cs ⟨bx,bO,cb,(ex,cm)⟩ l j)) (fun i _=>n -(intOf i).toNat)
 case atStart=>exact⟨0,_,rfl,cO _,rfl,eo.out,⟨_,hh.out,by rw[JQ],fun i hi h=>absurd h (lS _)⟩⟩
 case round=>
 clear g0 g1 g2 g3 g4 g5 g6 g7 g8 g9;obtain⟨j,aL,rfl,b6,rfl,p8,BW⟩:=hrel;by_cases bm:j<n
 ·have gD:j<l.length:=(by rw[bd.out];exact bm);have fD:(j:Int)<(n:Int):=(by omega);obtain⟨j',hr⟩:=aq (l[j]);obtain⟨mu,o,q,jD,rfl,lR,oe,qx⟩:=(ff.out.l.below p8.out.aM).at gD hr;have bw:=ao qx;have aQ:=ao hr;have DZ:j'.length≤1000000000:=qx.1;obtain⟨ey,r'⟩:=aq j'.length;have Sm:=ao r';rw[r'] at lR DZ oe;have ah2:=yR (P:=Tryz.prog) 45 38 (.agg #[I 0,I 0]) 2 16 JR Sk ey (by omega) (by omega);clear qx hr r';go_upto_region 18 with fail;obtain⟨C,lU⟩:=aq aL.heap.size;have kc:af (B<C):=(by obtain⟨cs,h,_⟩:=BW.out;show B<C;rw[←lU];exact lt_of_heap h);have BX:=ao (p8.out.below (bh aL (ai (madeCells #[I 0,I 0] (ey *2)) de)));have wb:af (∃cs,(aL.alloc (ai (madeCells #[I 0,I 0] (ey *2)) de)).heap[B]?=some (.cells cs e0)∧cs.size=n∧nb (fun k=>(w.heap.size+1+1+1<k∧k≠B)∧k<C) (aL.alloc (ai (madeCells #[I 0,I 0] (ey *2)) de)) cs ⟨bx,bO,cb,(ex,cm)⟩ l j):=(by obtain⟨cs,au,ax,aA⟩:=BW.out;exact⟨cs,ba au (bh _ _),ax,(aA.mono fun k aw h=>⟨h,by omega⟩).keep (.alloc _ _ _)⟩);have Yy:af ((aL.alloc (ai (madeCells #[I 0,I 0] (ey *2)) de)).heap[C]?=some (.cells (madeCells #[I 0,I 0] (ey *2)) de)):=(by show _=_;rw[←lU];exact cR _ _);have jI:=ao (bh aL (ai (madeCells #[I 0,I 0] (ey *2)) de));have N0:=ao lU;rw[lU];clear ah2 lR lU;generalize aL.alloc (.cells (madeCells #[I 0,I 0] (ey *2)) de)=nI at BX wb Yy jI⊢;go_wp2_with fail
  go_loopw [88] (fun i cq=>∃(k:Nat) (d':aeo),d'=cq∧k≤ey∧i=I k∧af (gN w w.heap.size #[I 2,I a7,I a',I aX,I a8,I cx,I bA,I r,ag mu o n cl,ad pp s.len cp] #[U bx,U bO,I cb,I ex,I cm] #[I 2,I 0,I 0,I 0,I 0,I 0,I 0,I r,ag B 0 n n,J 0] d')∧af (∃cs,al d' B cs e0∧cs.size=n∧nb (fun k=>(w.heap.size+1+1+1<k∧k≠B)∧k<C) d' cs ⟨bx,bO,cb,(ex,cm)⟩ l j)∧af (Below C aL d')∧af (∃ps,al d' C ps de∧ps.size=ey *2∧At ps ⟨bx,bO,cb,(ex,cm)⟩ j' k)) (fun i _=>ey -(intOf i).toNat)
  case atStart=>exact⟨0,_,rfl,cO _,rfl,BX.out,wb.out,N0.out ▸ jI.out,⟨_,Yy.out,by rw[JQ],fun i hi h=>absurd h (lS _)⟩⟩
  case round=>
  obtain⟨k,d',rfl,aw,rfl,nJ,fz,dO,lA⟩:=hrel;by_cases kL:k<ey
  ·have Gw:k<j'.length:=(by rw[Sm.out];exact kL);have ahI:(k:Int)<(ey:Int):=(by omega);obtain⟨z,bP⟩:=aq (j'[k]);have Sn:=bw.out.below (w':=d') (N0.out ▸ dO.out);obtain⟨dz,gd,rfl,s0,s1⟩:=Sn.at Gw bP;have yT:dz<d'.heap.size:=(by obtain⟨b1,v8,hP,he,_,aE,_⟩:=Sn.2 (by omega);injection he with he;injection he with my uI;rw[my];exact lt_of_heap aE);have nd:gU z=true:=(by have h:=nc.out j gD k (by rw[aQ.out];exact Gw);simp only[aQ.out] at h;rw[←bP];exact h);obtain⟨kl,km⟩:=z;have aU:=ao bP;have aJ:=ao (vW nd);clear bP nd Sn;go_upto_region 21 with fail;have yU:=ao (nJ.out.below (bh d' (j7 (kl,km))));have uJ:af (∃cs,(d'.alloc (j7 (kl,km))).heap[B]?=some (.cells cs e0)∧cs.size=n∧nb (fun k=>(w.heap.size+1+1+1<k∧k≠B)∧k<C) (d'.alloc (j7 (kl,km))) cs ⟨bx,bO,cb,(ex,cm)⟩ l j):=(by obtain⟨cs,au,ax,aA⟩:=fz.out;exact⟨cs,ba au (bh _ _),ax,aA.keep (.alloc _ _ _)⟩);have iJ:=ao (dO.out.trans ((bh d' (j7 (kl,km))).mono (by have:=dO.out.size;have:=N0.out;omega)));have nf:af (∃ps,(d'.alloc (j7 (kl,km))).heap[C]?=some (.cells ps de)∧ps.size=ey *2∧At ps ⟨bx,bO,cb,(ex,cm)⟩ j' k):=(by obtain⟨ps,au,ax,aA⟩:=lA.out;exact⟨ps,ba au (bh _ _),ax,aA⟩);have we:af ((d'.alloc (j7 (kl,km))).heap[d'.heap.size]?=some (j7 (kl,km))):=cR _ _;clear s0 s1 yT nJ fz dO lA;generalize d'.heap.size=D at we⊢;generalize d'.alloc (j7 (kl,km))=db at yU uJ iJ nf we⊢;obtain⟨d0,d1,_,_⟩:=NP we.out;obtain⟨t0,t1,t2,t3,t4⟩:=uF yU.out.cz;obtain⟨⟨x,y⟩,hp⟩:∃p:b7,fI ⟨bx,bO,cb,(ex,cm)⟩ (kl,km)=p:=⟨_,rfl⟩;have Yz:=ao hp;clear hp;go_wp2_with fail;refine (rq ⟨bx,bO,cb,(ex,cm)⟩ kl km aJ.out.1 aJ.out.2 fj.out.1 fj.out.2 x y Yz db).mono ?_;rintro e bZ ⟨rfl,k6⟩;have hj:=ao (yU.out.below k6);have tu:af (∃cs,al bZ B cs e0∧cs.size=n∧nb (fun k=>(w.heap.size+1+1+1<k∧k≠B)∧k<C) bZ cs ⟨bx,bO,cb,(ex,cm)⟩ l j):=(by obtain⟨cs,au,ax,aA⟩:=uJ.out;exact⟨cs,ba au k6,ax,aA.keep (.c4 k6)⟩);have bT:=ao (iJ.out.trans (k6.mono (by have:=iJ.out.size;have:=N0.out;omega)));obtain⟨ps,kN,og,YA⟩:=nf.out;have Eg:=ba kN k6;have yV:=ao Eg;have ru:=ao og;have tv:=ao YA;clear d0 d1 t0 t1 t2 t3 t4 yU uJ iJ nf we k6 kN YA;obtain⟨v0,aV⟩:=GQ (i:=k *2) Eg (by omega);obtain⟨v1,aT⟩:=GQ (i:=k *2+1) Eg (by omega);have f0:=na Eg (k *2);have f1:=na Eg (k *2+1);have gX:=lt_of_heap Eg;clear Eg og;go_upto_region 22 with fail;have jW:af (gN w w.heap.size #[I 2,I a7,I a',I aX,I a8,I cx,I bA,I r,ag mu o n cl,ad pp s.len cp] #[U bx,U bO,I cb,I ex,I cm] #[I 2,I 0,I 0,I 0,I 0,I 0,I 0,I r,ag B 0 n n,J 0] ((bZ.setCell (aj C (k *2)) (I x)).setCell (aj C (k *2+1)) (I y))):=(by have au:=kc.out;have ax:=kq.out;exact (hj.out.off (by omega) _ _).off (by omega) _ _);have sf:af (∃cs,((bZ.setCell (aj C (k *2)) (I x)).setCell (aj C (k *2+1)) (I y)).heap[B]?=some (.cells cs e0)∧cs.size=n∧nb (fun k=>(w.heap.size+1+1+1<k∧k≠B)∧k<C) ((bZ.setCell (aj C (k *2)) (I x)).setCell (aj C (k *2+1)) (I y)) cs ⟨bx,bO,cb,(ex,cm)⟩ l j):=(by have bb:=kc.out;obtain⟨cs,au,ax,aA⟩:=tu.out;exact⟨cs,(tn (by omega)).trans ((tn (by omega)).trans au),ax,aA.keep ((aK.set (a:=⟨C,k *2,none⟩) (fun h=>mi _ h.2) _).trans (.set (a:=⟨C,k *2+1,none⟩) (fun h=>mi _ h.2) _))⟩);have fE:af (Below C aL ((bZ.setCell (aj C (k *2)) (I x)).setCell (aj C (k *2+1)) (I y))):=(bT.out.setCell (p:=⟨C,k *2,none⟩) (aP _) _).setCell (p:=⟨C,k *2+1,none⟩) (aP _) _
   have GR:af (∃ps,((bZ.setCell (aj C (k *2)) (I x)).setCell (aj C (k *2+1)) (I y)).heap[C]?=some (.cells ps de)∧ps.size=ey *2∧At ps ⟨bx,bO,cb,(ex,cm)⟩ j' (k+1)):=
    ⟨_,dt _ (dt _ yV.out),by rw[xg,xg];exact ru.out,tv.out.next (by have:=ru.out;omega) Gw aU.out Yz.out⟩
   clear aV aT f0 f1 gX yV hj tu bT;generalize (bZ.setCell (aj C (k *2)) (I x)).setCell (aj C (k *2+1)) (I y)=br at jW sf fE GR⊢;go_wp2_with fail;go_round<;>first|exact⟨k+1,_,rfl,by omega,by go_num,jW.out,sf.out,fE.out,GR.out⟩|(simp[intOf]<;>omega)
  ·have Gx:k=ey:=(by omega);subst Gx;obtain⟨k4,ek,bV,gl,hI,jF,jG,nG,nH,mx⟩:=dQ nJ.out.out;have eG:=lt_of_heap nJ.out.out;obtain⟨cs,eD,gX,tw⟩:=fz.out;have pD:=ao eD;have YB:=ao gX;have YC:=ao tw;obtain⟨v0,aV⟩:=GQ (i:=j) eD (by omega);have f0:=na eD j;have fT:=lt_of_heap eD;clear eD gX tw;go_upto_region 24 with fail;have jW:af (gN w w.heap.size #[I 2,I a7,I a',I aX,I a8,I cx,I bA,I r,ag mu o n cl,ad pp s.len cp] #[U bx,U bO,I cb,I ex,I cm] #[I 2,I 0,I 0,I 0,I 0,I 0,I 0,I r,ag B 0 n n,J 0] (d'.setCell (aj B j) (ag C 0 k k))):=by have ax:=kq.out;exact nJ.out.off (by omega) _ _
   have sf:af (∃cs,(d'.setCell (aj B j) (ag C 0 k k)).heap[B]?=some (.cells cs e0)∧cs.size=n∧nb (fun k=>w.heap.size+1+1+1<k∧k≠B) (d'.setCell (aj B j) (ag C 0 k k)) cs ⟨bx,bO,cb,(ex,cm)⟩ l (j+1)):=by
    refine⟨_,dt _ pD.out,by rw[xg];exact YB.out,?_⟩;have wg:aK (fun k=>w.heap.size+1+1+1<k∧k≠B) d' (d'.setCell (aj B j) (ag C 0 k k)):=.set (a:=⟨B,j,none⟩) (fun h=>h.2 rfl) _;refine ((YC.out.mono fun k _ h=>h.1).keep wg).next (by rw[YB.out];exact bm) gD aQ.out Sm.out (aP _) ?_
    obtain⟨ps,au,ax,aA⟩:=lA.out;have bb:=kc.out;have bj:=kq.out;exact (At.nC (Sm.out ▸ aA) (R:=fun k=>w.heap.size+1+1+1<k∧k≠B) ⟨by omega,by omega⟩ au bw.out.1).keep wg
   clear k4 ek bV gl hI jF jG nG nH mx aV f0 eG fT pD YC nJ fz dO lA;generalize d'.setCell (aj B j) (ad (some (aj C 0)) k k)=br at jW sf⊢;go_wp2_with fail;go_round<;>first|exact⟨j+1,_,rfl,by omega,by go_num,jW.out,sf.out⟩|(simp[intOf]<;>omega)
 ·have kM:j=n:=(by omega);subst kM;go_upto_region 32 with fail;obtain⟨k4,ek,bV,gl,hI,jF,jG,nG,nH,mx⟩:=dQ p8.out.out;obtain⟨du,dI,h4,qC,qD,qE,qF,tq,xv,xw⟩:=dQ p8.out.res;have fr:=na p8.out.res;have eG:=lt_of_heap p8.out.res;go_wp2_with fail;change bodyPost _ _ _ _ _ (kp aL (w.heap.size+1+1) (I 2) (I 0) (I 0) (I 0) (I 0) (I 0) (I 0) (I r) (ag B 0 j j) (J 0));have hF:=Ap (I 2) (I 0) (I 0) (I 0) (I 0) (I 0) (I 0) (I r) (ag B 0 j j) (J 0) p8.out.res;have bz:=Aq (I 2) (I 0) (I 0) (I 0) (I 0) (I 0) (I 0) (I r) (ag B 0 j j) (J 0) p8.out.aM (show w.heap.size≤w.heap.size+1+1 by omega);have hS:dw (fun k=>w.heap.size≤k) (kp aL (w.heap.size+1+1) (I 2) (I 0) (I 0) (I 0) (I 0) (I 0) (I 0) (I r) (ag B 0 j j) (J 0)) (some (aj B 0)) j none 0 ⟨⟨2,(0,0),(0,0),(0,0),r,l.map fun c=>c.map (fI ⟨bx,bO,cb,(ex,cm)⟩)⟩,.nil⟩:=(by obtain⟨cs,au,ax,aA⟩:=BW.out;rw[←bd.out] at aA;have bj:=kq.out;have b8:gV (fun _=>True) aL none []:=.nil _ _ _;have cY:iS (fun k=>w.heap.size+1+1+1<k) aL (some (aj B 0)) (l.map fun c=>c.map (fI ⟨bx,bO,cb,(ex,cm)⟩)):=(aA.mono fun k _ h=>h.1).cons (by omega) au (by rw[bd.out];exact iX);exact⟨(cY.keep (Sg (I 2) (I 0) (I 0) (I 0) (I 0) (I 0) (I 0) (I r) (ag B 0 j j) (J 0) (by omega))).mono fun k _ h=>by omega,.nil _ _ _,by simp[bd.out],cO _⟩);generalize kp aL (w.heap.size+1+1) (I 2) (I 0) (I 0) (I 0) (I 0) (I 0) (I 0) (I r) (ag B 0 j j) (J 0)=cZ at hF bz hS⊢;obtain⟨aV,aT,c2,c3,cD,c5,cX,c7,dj,bB⟩:=dQ hF;exact cL (v:=.agg #[I 2,I 0,I 0,I 0,I 0,I 0,I 0,I r,ag B 0 j j,J 0]) (by simp[results,GL,go_sem,aV,aT,c2,c3,cD,c5,cX,c7,dj,bB]) rfl (.mk (by simp[pq,BI,fN]:_=(⟨⟨2,(0,0),(0,0),(0,0),r,l.map fun c=>c.map (fI ⟨bx,bO,cb,(ex,cm)⟩)⟩,.nil⟩:dq)) (some (aj B 0)) j none 0 (by simp[bd.out,bf.len]) hS bz)
theorem ah3{b:dK}(h:jS b=true):b.k=1∨b.k=2∨b.k=3∨b.k=4∨b.k=5:=by
 unfold jS at h
 repeat' split at h
 all_goals first|omega|cases h
theorem YD{a:Bool}{b:dK}{s r:bf}{f:Nat}:∀{pre:bf} {n m:Int},ir (pre.append (.cons a b s r)) f n=some m→∃n' ey,mv b s f n'=some ey
 |.nil,n,m,h=>by
  rw[bf.append,NN] at h;cases au:mv b s f n with
  |none=>rw[au] at h;cases h
  |some k=>exact⟨n,k,au⟩
 |.cons k1 b1 s' j',n,m,h=>by
  rw[bf.append,NN] at h;cases au:mv b1 s' f n with
  |none=>rw[au] at h;cases h
  |some k=>rw[au] at h;exact YD (pre:=j') h
theorem cell_far{v:aeo}{i:Nat}{u x:ada}(aw:k≠j)(h:ak v k i x):(v.setCell (aj j o) u).cell? ⟨k,i,none⟩=some x:=by have:=lT (w:=v) (i:=o) (u:=u) aw;simpa[World.cell?,this] using h
abbrev fA:TypeId:=44
def p9:List iH→bf
 |[]=>.nil
 |o::l=>.cons o.1 o.2.b o.2.p (p9 l)
theorem Eh:∀l:List iH,(p9 l).len=l.length
 |[]=>rfl
 |_::l=>by simp only[p9,bf.len,Eh l,eT]
theorem N1:∀l m:List iH,p9 (l++m)=(p9 l).append (p9 m)
 |[],_=>rfl
 |_::l,m=>by simp only[w3,p9,bf.append,N1 l m]
def gz(S:afp)(w:aeo)(p:Ja)(l:List iH):Prop:=l.length≤jr∧(0<l.length→∃(k o:Nat) (cs:ajv),p=some ⟨k,o,none⟩∧S k∧al w k cs fA∧da S w (p9 l) (cs.toList.drop o))
theorem gz.nil(S:afp)(w:aeo)(p:Ja):gz S w p []:=⟨cO _,fun h=>absurd h (mi _)⟩
theorem gz.keep{S:afp}{w w':aeo}{p:Ja}{l:List iH}(h:gz S w p l)(aw:aK S w w'):gz S w' p l:=by refine⟨h.1,fun az=>?_⟩;obtain⟨k,o,cs,e,hS,aE,hp⟩:=h.2 az;exact⟨k,o,cs,e,hS,aw.get hS aE,da.keep aw hp⟩
theorem gz.below{w w':aeo}{p:Ja}{l:List iH}(h:gz S w p l)(ay:an w w w'):gz S w' p l:=h.keep (.c4 ay)
theorem gz.mono{S R:afp}{w:aeo}{p:Ja}{l:List iH}(h:gz S w p l)(aw:∀k,k<w.heap.size→S k→R k):gz R w p l:=by refine⟨h.1,fun az=>?_⟩;obtain⟨k,o,cs,e,hS,aE,hp⟩:=h.2 az;exact⟨k,o,cs,e,aw _ (lt_of_heap aE) hS,aE,da.mono aw hp⟩
theorem gz.at{S:afp}{w:aeo}{p:Ja}{l:List iH}{a:Bool}{b:dK}{s:bf}{n:Nat}(h:gz S w p l)(hn:n<l.length)(he:l[n]=(a,⟨b,s⟩)):
  ∃(k o:Nat) (pl:Ja) (cl:Nat) (pp:Ja) (cp:Nat),p=some ⟨k,o,none⟩∧k<w.heap.size∧S k∧dw S w pl cl pp cp ⟨b,s⟩∧
   ak w k (o+n *11) (U a)∧ak w k (o+n *11+1) (I b.k)∧ak w k (o+n *11+2) (I b.a.1)∧ak w k (o+n *11+3) (I b.a.2)∧ak w k (o+n *11+4) (I b.b.1)∧ak w k (o+n *11+5) (I b.b.2)∧ak w k (o+n *11+6) (I b.c.1)∧ak w k (o+n *11+7) (I b.c.2)∧ak w k (o+n *11+8) (I b.r)∧ak w k (o+n *11+9) (ad pl b.l.length cl)∧ak w k (o+n *11+10) (ad pp s.len cp):=by
 obtain⟨k,o,cs,rfl,hS,aE,hp⟩:=h.2 (by omega);have aY:l=l.take n++(a,⟨b,s⟩)::l.drop (n+1):=by conv=>lhs;rw[←Gg n l,rZ hn,he]
 rw[aY,N1] at hp;have ax:=hp.drop;rw[pw,Eh,lz,yL (by omega)] at ax;obtain⟨pl,cl,pp,cp,aA,hs⟩:=da.head (show da S w (.cons a b s (p9 (l.drop (n+1)))) _ from ax);obtain⟨aV,aT,c2,c3,cD,c5,cX,c7,dj,bB,di⟩:=X0 aA;refine⟨k,o,pl,cl,pp,cp,rfl,lt_of_heap aE,hS,hs,?_,?_,?_,?_,?_,?_,?_,?_,?_,?_,?_⟩<;>simp only[World.cell?, *]<;>rfl
theorem pE{w:aeo}{v0 v1 v2 v3 v4 v5 v6 bS b0 v9 v10:ada}{t:aai}(h:al w k (#[v0,v1,v2,v3,v4,v5,v6,bS,b0,v9,v10]) t):
  ak w k 0 v0∧ak w k 1 v1∧ak w k 2 v2∧ak w k 3 v3∧ak w k 4 v4∧ak w k 5 v5∧ak w k 6 v6∧ak w k 7 bS∧ak w k 8 b0∧ak w k 9 v9∧ak w k 10 v10:=by
 refine⟨?_,?_,?_,?_,?_,?_,?_,?_,?_,?_,?_⟩<;>simp[World.cell?,h]
variable{v:ada}{e:aai}
theorem fY{w w':aeo}{xs:aev}(h:w.ownsRow B e aR v n xs)(ay:an w w w'):w'.ownsRow B e aR v n xs:=
 h.kept (row:=none) ⟨ay.os,ay.tape,ay.output,ay.size,fun k aw _=>ay.block k aw⟩ (by cases v.ownBlock<;>simp)
theorem iw{w:aeo}{xs:aev}(h:w.ownsRow B e aR v n xs):∃p cap,v=ad p n cap:=by
 rcases h.2 with ⟨rfl,rfl⟩|⟨g,cap,cur,rfl,_⟩
 ·exact⟨_,_,rfl⟩
 ·exact⟨_,_,rfl⟩
theorem N2{w w':aeo}{xs:aev}{row:Option Nat}(h:w.ownsRow B e aR v n xs)(aI:w.grownBy w' row)(hne:v.ownBlock=none∨v.ownBlock≠row):w'.ownsRow B e aR v n xs:=h.kept aI hne
theorem So(w:aeo)(b i:Nat)(u:ada):w.grownBy (w.setCell (aj b i) u) (some b):=⟨rfl,rfl,rfl,by simp[World.setCell],fun k aw hne=>hC _ _ _ _ (by show k≠b;intro e;exact hne (by rw[e]))⟩
theorem ah4(p:b7):fI mX p=p:=by obtain⟨x,y⟩:=p;simp[fI,mX,ef.flip,Nv]
theorem YE(l:List b7):l.map (fI mX)=l:=by rw[show fI mX=id from funext ah4,List.map_id]
theorem ah5(l:List (List b7)):(l.map fun c=>c.map (fI mX))=l:=by rw[show (fun c:List b7=>c.map (fI mX))=id from funext YE,List.map_id]
def nK(l:List b7):List Value:=l.flatMap fun p=>[I p.1,I p.2]
theorem YF(l:List b7):(nK l).length=l.length *2:=by
 induction l with
 |nil=>rfl
 |cons a l cU=>simp only[nK,List.flatMap_cons,fH,eT] at cU⊢;rw[cU];simp;omega
theorem N3:∀{l:List b7} {i:Nat} (hi:i<l.length),(nK l)[i *2]?=some (I l[i].1)∧(nK l)[i *2+1]?=some (I l[i].2)
 |a::l,0,_=>⟨rfl,rfl⟩
 |a::l,i+1,hi=>by have h:=N3 (l:=l) (i:=i) (by simpa using hi);have e:nK (a::l)=I a.1::I a.2::nK l:=rfl;rw[e,show (i+1) *2=i *2+1+1 by omega];exact h
theorem ah6{u:ada}(h:u∈nK l):u.oneCell'=true:=by obtain⟨p,_,hp⟩:=List.mem_flatMap.1 h;simp at hp;rcases hp with rfl|rfl<;>rfl
theorem gV.news{w:aeo}{p:Ja}(h:gV S w p l)(az:0<l.length):∃b o,p=some ⟨b,o,none⟩∧∀j u,(nK l)[j]?=some u→w.cell? ((⟨b,o,none⟩:Addr).add j)=some u:=by
 obtain⟨b,o,cs,rfl,_,aE,aB⟩:=h.2 az;refine⟨b,o,rfl,fun j u hu=>?_⟩;have b6:j<l.length *2:=by rw[←YF];exact (List.getElem?_eq_some_iff.1 hu).1
 have mz:(⟨b,o,none⟩:Addr).add j=⟨b,o+j,none⟩:=by unfold Addr.add;split<;>simp_all
 rw[mz];obtain⟨aF,au⟩:=aB (j/2) (by omega);obtain⟨g0,g1⟩:=N3 (l:=l) (i:=j/2) (by omega);rcases (show j=j/2 *2∨j=j/2 *2+1 by omega) with e|e
 ·rw[e,g0] at hu;rw[e];rw[←hu];exact cell_of aE aF
 ·rw[e,g1] at hu;rw[e,←vZ];rw[←hu];exact cell_of aE au
theorem gV.own{w:aeo}{g cap:Nat}(h:w.ownsRow B de 2 (ag g 0 n cap) n (nK l))(hn:n=l.length)(ay:l.length≤jr)(hR:∀k,B≤k→R k):gV R w (some (aj g 0)) l∧l.length≤cap:=by
 subst hn;rcases h.2 with ⟨aS,_⟩|⟨k,k7,cur,aS,bz,aE,aB,_,_,bc⟩
 ·cases aS
 ·injection aS with au _ aA;injection au with au;injection au with au;subst au aA;refine⟨⟨ay,fun az=>⟨g,0,cur,rfl,hR g bz,aE,fun i hi=>?_⟩⟩,aB⟩;obtain⟨g0,g1⟩:=N3 (l:=l) hi;rw[←bc,ra] at g0 g1;rw[aW (by omega)] at g0 g1;rw[jt];exact⟨by simpa using g0,by simpa using g1⟩
theorem ah7{P:Program}{t:aai}{z:Option Value}{b:Nat}(h:(P.info? t).map (fun i=>(i.zero,i.size,i.bytes))=some (z,n,b)):∃i,P.info? t=some i∧i.zero=z∧i.size=n∧i.bytes=b:=by
 cases hi:P.info? t with
 |none=>rw[hi] at h;cases h
 |some i=>
  rw[hi] at h;simp only[An,r0,fg] at h;exact⟨i,rfl,h.1,h.2.1,h.2.2⟩
theorem ah8{w w':aeo}(h:w.grownBy w' (Value.slice none 0 0).ownBlock):an w w w':=⟨h.os,h.tape,h.output,h.size,fun k aw=>h.block k aw (by simp[Value.ownBlock])⟩
theorem YG(a b:Int)(ha:0≤a∧a≤1000000000)(ay:0≤b∧b≤1000000000)(w:aeo):Calls Tryz.prog 62 #[I a,I b] w fun e w'=>e=ab (I (a+b))∧w'=w:=by
 have au:ae (9223372036854775807-b)=9223372036854775807-b:=gw _ (by omega);have ax:ae (a+b)=a+b:=gw _ (by omega);have aA:¬a > 9223372036854775807-b:=by omega
 go_enter Tryz.func62,Tryz.ntmps62;go_wp2_with fail;go_ret;exact⟨rfl,rfl⟩
theorem ah9(p:Ja)(c:Nat)(w:aeo):Calls Tryz.prog 63 #[ad p 0 c] w fun e w'=>e=ab (I 0)∧an w w w':=by go_enter Tryz.func63,Tryz.ntmps63;go_wp2_with fail;go_ret;exact⟨rfl,Below.refl _ _⟩
theorem aia(k a7 a' aX a8 cx bA r:Int)(pl:Ja)(n cl:Nat)(pp:Ja)(cp:Nat)(w:aeo):Calls Tryz.prog 40 #[.agg #[I k,I a7,I a',I aX,I a8,I cx,I bA,I r,ad pl n cl,ad pp 0 cp]] w fun e w'=>e=ab (I 1)∧an w w w':=by
 go_enter Tryz.func40,Tryz.ntmps40;go_wp2_with fail;with_reducible refine (ah9 pp cp _).mono ?_
 rintro e W ⟨rfl,ay⟩;go_wp2_with fail;with_reducible refine (YG 1 0 ⟨by decide,by decide⟩ ⟨by decide,by decide⟩ _).mono ?_
 rintro e eE ⟨rfl,rfl⟩;go_wp2_with fail;go_ret;exact⟨rfl,(D4 _ _).trans (ay.mono (D4 _ _).size)⟩
theorem aib{P:Program}{w:aeo}{ops:Array Oper}{rest:List Oper}{o:Oper}{a:Act}{Q:Exit→Act→aeo→Prop}(BY:o.guard=none)(s x:Operand)(t:aai)
  (a1:o.op=.call {callee:=.builtin .append,args:= #[s,x],argTypes:= #[t,t]}) (e:aai) (i:TypeInfo) (bc:P.underlying t=some (.slice e)) (hi:P.info? e=some i) (p:Ja) (c:Nat) (hs:a.eval s=J 0) (hx:a.eval x=ad p 0 c)
  (h:wpList P ops Q rest (a.put o.dst (J 0)) w):wpList P ops Q (o::rest) a w:=
 wpList_plain BY fun _ hK=>by have cW:∀(y:aeo) (x:Addr),(loadCells x 0).run P y=.ok #[] y:=(fun y x=>by simpa using Si (P:=P) y x [] (by simp));have JS:Src P i.size t (ad p 0 c) 0 [] w:=⟨.inl ⟨e,bc⟩,fun _=>by simp[Builtin.lenOf],by cases p<;>simp[Builtin.firstCells,cW],by cases p<;>simp[Builtin.firstCells,cW],by simp,fun u hu=>absurd hu (by simp)⟩;have hr:=run_append_nothing w t t o.type e i bc hi none 0 0 (aP _) _ JS;unfold Oper.wp execOp;simp only[a1,resolve,invoke,builtin,GI,JC,Ak,Sj,nx,nF,hs,hx,hr];exact hK _ _ h
theorem aic(S:afp)(p:Ja)(l:List (List b7))(n c:Nat)(hn:n=l.length)(w:aeo)(H:af (iS S w p l)):
  Calls Tryz.prog 41 #[ad p n c] w fun e w'=>∃q d,e=ab (ad q n d)∧n≤d∧iS (fun k=>w.heap.size≤k) w' q l∧an w w w':=by
 have pv:n≤1000000000:=by rw[hn];exact H.out.1
 have bd:=ao hn;clear hn;by_cases jf:n=0
 ·subst jf;have Sp:af (l=[]):=lP bd.out.symm;go_enter Tryz.func41,Tryz.ntmps41;go_wp2_with fail;go_ret;exact⟨none,0,rfl,aP _,by rw[Sp.out];exact .nil _ _ _,Below.refl _ _⟩
 have h2:((n:Int)==0)=false:=by simp;omega
 have yS:=yR (P:=Tryz.prog) 39 45 (J 0) 1 24 NZ Yx n (by omega) (by omega);go_enter Tryz.func41,Tryz.ntmps41;go_wp2_with fail;obtain⟨W,cP⟩:=aq (w.alloc (ai (madeCells #[J 0] n) e0));have hh:af (an w w W):=by show Below _ _ _;rw[←cP];exact bh _ _
 have p':af (∃cs,al W w.heap.size cs e0∧cs.size=n∧nb (fun k=>w.heap.size<k) W cs mX l 0):=by refine⟨madeCells #[J 0] n,by rw[←cP];exact cR _ _,JQ _ _,fun i _ h=>absurd h (lS _)⟩
 change Code.wp _ _ _ _ (w.alloc (ai (madeCells #[J 0] n) e0));rw[cP];clear cP yS;obtain⟨i0,hi,cW,dv,dx⟩:=ah7 Sk;have bL:=ao (And.intro hi (And.intro cW (And.intro dv dx)));clear hi cW dv dx
 go_loopw [14] (fun i wr=>∃(j:Nat) (aL:aeo),aL=wr∧j≤n∧i=I j∧af (an w w aL)∧af (∃cs,al aL w.heap.size cs e0∧cs.size=n∧nb (fun k=>w.heap.size<k) aL cs mX l j)) (fun i _=>n -(intOf i).toNat)
 case atStart=>exact⟨0,_,rfl,cO _,rfl,hh.out,p'.out⟩
 case round=>
 obtain⟨j,aL,rfl,b6,rfl,aH,aQ⟩:=hrel;by_cases bm:j<n
 ·have gD:j<l.length:=(by rw[←bd.out];exact bm);have fD:(j:Int)<(n:Int):=(by omega);have qG:(0:Int)≤(j:Int):=(by omega);obtain⟨r,hr⟩:=aq (l[j]);obtain⟨mu,yW,uK,jD,rfl,Sq,_,qx⟩:=H.out.at gD hr;have lR:=bD aH.out Sq;rcases w4 r.length with tz|tz
  ·obtain rfl:=lP tz;have lR:ak aL mu (yW+j) (ad uK 0 jD):=lR;obtain⟨cs,eD,fw,dp⟩:=aQ.out;have pD:=ao (And.intro eD (And.intro fw dp));have Ei:=ao hr;have eB:=GQ eD (i:=j) (by omega);have bJ:=dc eD j;obtain⟨v5,bI⟩:=eB;have wg:aK (fun k=>w.heap.size<k) aL (aL.setCell (aj w.heap.size j) (J 0)):=aK.set (a:=⟨w.heap.size,j,none⟩) (fun h=>mi _ h) _;have Au:=(pD.out.2.2.keep wg).next (by rw[pD.out.2.1];exact bm) (q:=none) (m:=0) (c:=0) gD Ei.out rfl (aP _) (.nil _ _ _)
   have sf:af (∃cs,(aL.setCell (aj w.heap.size j) (J 0)).heap[w.heap.size]?=some (.cells cs e0)∧cs.size=n∧nb (fun k=>w.heap.size<k) (aL.setCell (aj w.heap.size j) (J 0)) cs mX l (j+1)):=⟨_,dt _ eD,by rw[xg];exact pD.out.2.1,Au⟩;have fE:af (an w w (aL.setCell (aj w.heap.size j) (J 0))):=aH.out.setCell (p:=⟨w.heap.size,j,none⟩) (aP _) _;clear Sq qx hr eD fw dp wg Au aQ tz;go_upto_region 7 with fail;go_wp2_with (at_builtin;refine aib rfl _ _ _ rfl de i0 JR bL.out.1 uK jD (by rfl) (by rfl) ?_);go_round<;>first|exact⟨j+1,_,rfl,by omega,by go_num,fE.out,sf.out⟩|(simp[intOf]<;>omega)
  obtain⟨dz,gd,rfl,xx⟩:=(qx.below aH.out).news tz;have aid:=ao xx;have GS:r.length≤1000000000:=qx.1;have ru:=ao qx.1;obtain⟨m,hm⟩:=aq r.length;have Sr:=ao hm;have Ei:=ao hr;rw[hm] at lR tz GS;have hlen:(nK r).length=m *2:=(by rw[YF,hm]);have jg:=ao hlen;obtain⟨cs,eD,fw,dp⟩:=aQ.out;have pD:=ao (And.intro eD (And.intro fw dp));have YH:=lt_of_heap eD;have jX:∀br,aL.grownBy br (Value.slice none 0 0).ownBlock→(∃v,ak br w.heap.size j v)∧br.frozen? ⟨w.heap.size,j,none⟩=false:=(by intro br aI;have au:al br w.heap.size cs e0:=(aI.block _ YH (by simp[Value.ownBlock])).trans eD;exact⟨GQ au (by omega),dc au j⟩);have aie:=ao jX;clear Sq qx xx hr hm eD fw dp hlen jX aQ;go_upto_region 7 with fail;go_wp2_with (at_builtin;refine GP _ rfl _ _ _ rfl (w.heap.size+1) de i0 (.agg #[I 0,I 0]) 2 16 JR bL.out.1 bL.out.2.1 bL.out.2.2.1 bL.out.2.2.2 rfl (by omega) (J 0) 0 [] (by rfl) ⟨rfl,.inl ⟨rfl,rfl⟩⟩ (aj dz gd) m jD (nK r) (by rfl) jg.out aid.out ?_ ?_ ?_ ?_ ?_ aL.heap.size ?_ ?_;exact (fun u h=>ah6 h);exact tz;(unfold maxLen;omega);omega;exact YH;rfl;intro g cap br ct dn dF h5;obtain⟨⟨v5,bI⟩,bJ⟩:=aie.out br dn);have dX:=ah8 dn;have YI:af (an w w br):=aH.out.trans (dX.mono aH.out.size);have Ss:=gV.own (R:=fun k=>w.heap.size<k) (l:=r) (by simpa using ct) Sr.out.symm ru.out (fun k h=>h);have bj:al br w.heap.size cs e0:=ba pD.out.1 dX;have wg:aK (fun k=>w.heap.size<k) br (br.setCell (aj w.heap.size j) (ag g 0 m cap)):=aK.set (a:=⟨w.heap.size,j,none⟩) (fun h=>mi _ h) _;have Au:=((pD.out.2.2.keep (aK.c4 dX)).keep wg).next (by rw[pD.out.2.1];exact bm) (q:=some ⟨g,0,none⟩) (m:=m) (c:=cap) gD Ei.out Sr.out (by have:=Ss.2;rw[Sr.out] at this;exact this) (by rw[YE];exact Ss.1.keep wg)
  have sf:af (∃cs,(br.setCell (aj w.heap.size j) (ag g 0 m cap)).heap[w.heap.size]?=some (.cells cs e0)∧cs.size=n∧nb (fun k=>w.heap.size<k) (br.setCell (aj w.heap.size j) (ag g 0 m cap)) cs mX l (j+1)):=⟨_,dt _ bj,by rw[xg];exact pD.out.2.1,Au⟩;have fE:af (an w w (br.setCell (aj w.heap.size j) (ag g 0 m cap))):=YI.out.setCell (p:=⟨w.heap.size,j,none⟩) (aP _) _;clear ct dn dF h5 bI bJ dX Ss bj wg Au YI;go_round<;>first|exact⟨j+1,_,rfl,by omega,by go_num,fE.out,sf.out⟩|(simp[intOf]<;>omega)
 ·have kM:j=n:=(by omega);subst kM;obtain⟨cs,eD,fw,dp⟩:=aQ.out;rw[bd.out] at dp;have aB:=nb.cons (R:=fun k=>w.heap.size≤k) (B:=w.heap.size) (dp.mono (fun k _ h=>k5 h)) (aP _) eD (by have:=bd.out;show _≤1000000000;omega);rw[ah5] at aB;have bG:=ao aB;clear aB eD fw dp;go_wp2_with fail;go_ret;exact⟨_,_,rfl,aP _,bG.out,aH.out⟩
structure Fr where
 k:Nat
 o:Nat
 c:Nat
 pre:bf
 rest:bf
def Fr.all(f:Fr):bf:=f.pre.append f.rest
def Fr.key(f:Fr):hQ:=(f.k,f.o,f.all.len)
def Ej(f:Fr):List Value:=[ad (some (aj f.k f.o)) f.all.len f.c,I (f.pre.len:Int),I (f.pre.count:Int)]
def qa:List Fr→List Value
 |[]=>[]
 |f::ts=>qa ts++Ej f
theorem BZ:∀ts:List Fr,(qa ts).length=ts.length *3
 |[]=>rfl
 |f::ts=>by simp only[qa,fH,BZ ts,eT,Ej,kZ];omega
def uL(root:bf):List Fr→Prop
 |[]=>True
 |[f]=>f.all=root
 |f::g::ts=>(∃a b r,g.rest=.cons a b f.all r)∧uL root (g::ts)
theorem bf.count_cons(a:Bool)(b:dK)(s r:bf):(bf.cons a b s r).count=s.count+r.count+1:=rfl
theorem uL.count{root:bf}:∀{f:Fr} {ts:List Fr},uL root (f::ts)→∀g∈f::ts,f.all.count≤g.all.count
 |f,[],_,g,aI=>by obtain rfl:g=f:=(by simpa using aI);exact aP _
 |f,h::ts,aB,g,aI=>by
  rcases List.mem_cons.1 aI with rfl|aI
  ·exact aP _
  ·obtain⟨⟨a,b,r,e⟩,ax⟩:=aB;have aA:=uL.count ax g aI;have bb:f.all.count<h.all.count:=(by unfold Fr.all at e⊢;rw[bf.count_append h.pre,e,bf.count_cons];show (f.pre.append f.rest).count<_;omega);omega
theorem uL.YJ{root:bf}:∀{f:Fr} {ts:List Fr},uL root (f::ts)→f.all.count≤root.count
 |f,[],h=>by rw[show f.all=root from h];exact aP _
 |f,g::ts,h=>by have au:=uL.count h g (by simp);exact cd au (uL.YJ h.2)
def rv:bf→Nat
 |.nil=>0
 |.cons _ _ s r=>rv s+rv r+3
def wh:bf→Nat
 |.nil=>0
 |.cons _ _ _ r=>rv r
def xy:List Fr→Nat
 |[]=>0
 |f::ts=>wh f.rest+2+xy ts
def iK(hd:Bool):List Fr→Nat
 |[]=>0
 |f::ts=>(if hd=true then wh f.rest+2 else rv f.rest+1)+xy ts
structure uM(S:afp)(w0:aeo)(L:List (hQ×Int))(ts:List Fr):Prop where
 op:∀k v,ka L k=some v→v= -1→∃f∈ts,f.key=k
 cn:∀k v,ka L k=some v→v≠-1→∃s,hO S w0 (some (aj k.1 k.2.1)) s∧s.len=k.2.2∧v=(s.count:Int)
 e1:D9 w0 L
theorem hO.block{w:aeo}{s:bf}(h:hO S w (some (aj k o)) s)(az:0<s.len):∃cs,w.heap[k]?=some (.cells cs ev (0,0))∧S k:=by obtain⟨tl,v8,cs,e,hS,aE,_⟩:=h.2 az;injection e with e;injection e with aY _;subst aY;exact⟨cs,aE,hS⟩
variable{L:List (hQ×Int)}{f:Fr}{ts:List Fr}
theorem uM.found{w0:aeo}{root:bf}(h:uM S w0 L (f::ts))(JU:uL root (f::ts))(kN:∀g∈f::ts,hO S w0 (some (aj g.k g.o)) g.all){sub:bf}(hs:hO S w0 (some (aj k o)) sub)(bm:sub.count<f.all.count){v:Int}(aS:ka L (k,o,sub.len)=some v):v=(sub.count:Int):=by
 by_cases au:v= -1
 ·exfalso;obtain⟨g,aI,aw⟩:=h.op _ _ aS au;have aY:g.k=k:=fS (fun x:hQ=>x.1) aw;have a6:g.o=o:=fS (fun x:hQ=>x.2.1) aw;have cV:g.all.len=sub.len:=fS (fun x:hQ=>x.2.2) aw;have hp:=kN g aI;rw[aY,a6] at hp;have iI:g.all=sub:=hp.uniq hs cV;have:=JU.count g aI;rw[iI] at this;omega
 ·obtain⟨s,hp,az,e⟩:=h.cn _ _ aS au;rw[e,hO.uniq (s:=s) (s':=sub) hp hs az]
theorem uM.push{w0:aeo}(h:uM S w0 L ts)(hp:hO S w0 (some (aj f.k f.o)) f.all)(az:0<f.all.len):uM S w0 (od L f.key (-1)) (f::ts) where
 op:=fun k v aS e=>by
  rw[GN] at aS;by_cases aw:k=f.key
  ·exact⟨f,by simp,aw.symm⟩
  ·rw[aN aw] at aS;obtain⟨g,aI,a6⟩:=h.op k v aS e;exact⟨g,by simp[aI],a6⟩
 cn:=fun k v aS e=>by
  rw[GN] at aS;by_cases aw:k=f.key
  ·rw[aW aw] at aS;injection aS with aS;exact absurd aS.symm e
  ·rw[aN aw] at aS;exact h.cn k v aS e
 e1:=fun x hx=>by
  rcases Ys hx with rfl|hx
  ·obtain⟨cs,aE,_⟩:=hp.block az;exact⟨cs,aE⟩
  ·exact h.e1 x hx
theorem uM.pop{w0:aeo}(h:uM S w0 L (f::ts))(hp:hO S w0 (some (aj f.k f.o)) f.all)(az:0<f.all.len):uM S w0 (od L f.key (f.all.count:Int)) ts where
 op:=fun k v aS e=>by
  rw[GN] at aS;by_cases aw:k=f.key
  ·rw[aW aw] at aS;injection aS with aS;omega
  ·rw[aN aw] at aS;obtain⟨g,aI,a6⟩:=h.op k v aS e;rcases List.mem_cons.1 aI with rfl|aI
   ·exact absurd a6.symm aw
   ·exact⟨g,aI,a6⟩
 cn:=fun k v aS e=>by
  rw[GN] at aS;by_cases aw:k=f.key
  ·rw[aW aw] at aS;injection aS with aS;subst aw;exact⟨f.all,hp,rfl,aS.symm⟩
  ·rw[aN aw] at aS;exact h.cn k v aS e
 e1:=fun x hx=>by
  rcases Ys hx with rfl|hx
  ·obtain⟨cs,aE,_⟩:=hp.block az;exact⟨cs,aE⟩
  ·exact h.e1 x hx
theorem uM.N4{w0:aeo}{f':Fr}(h:uM S w0 L (f::ts))(aw:f'.key=f.key):uM S w0 L (f'::ts) where
 op:=fun k v aS e=>by
  obtain⟨g,aI,a6⟩:=h.op k v aS e;rcases List.mem_cons.1 aI with rfl|aI
  ·exact⟨f',by simp,aw.trans a6⟩
  ·exact⟨g,by simp[aI],a6⟩
 cn:=h.cn
 e1:=h.e1
end c1
