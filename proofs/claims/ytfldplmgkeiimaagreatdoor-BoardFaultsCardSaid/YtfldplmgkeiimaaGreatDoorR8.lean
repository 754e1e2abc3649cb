/- Lemmas. -/
import Derived.Test.YtfldplmgkeiimaaGreatDoorR7
import Derived.Test.YtfldplmgkeiimaaGreatDoorR5
import Derived.Lib.MinMax
set_option linter.all false
set_option maxRecDepth 100000
set_option maxHeartbeats 12800000
namespace Go.Proofs.YtfldplmgkeiimaaGreatDoor
abbrev IP:=@Int.natCast_mul
abbrev rv:=@Int.le_refl
abbrev IQ:=@Int.toNat_natCast
abbrev gO:=@List.length_map
abbrev IS:=@List.getElem_map
abbrev Nd:=@Array.getElem?_eq_getElem
abbrev Nf:=@size_madeCells
abbrev Rs:=@Bool.not_eq_true'
abbrev Rt:=@decide_eq_false_iff_not
abbrev jC:=@run_underlying
abbrev qG:=@Int.add_zero
namespace dd
open Go.RowKit ef
theorem zJ{P:Program}(t e:aai)(z:ada)(size bytes:Nat)(bE:P.underlying t=some (.slice e))(F1:(P.info? e).map (fun i=>(i.zero,i.size,i.bytes))=some (some z,size,bytes))(n:Nat)(F2:bytes *n≤281474976710656)(IU:n≤9223372036854775807)(w:aeo):
  (Instr.makeSlice t (I (n:Int)) (I (n:Int))).run P w=.ok (ag w.heap.size 0 n n) (w.alloc (ai (madeCells z.cells (n *size)) e)):=by
 obtain⟨i,hi,XN⟩:=Option.map_eq_some_iff.1 F1;simp only[gh] at XN;obtain⟨cz,hs,ax⟩:=XN
 have ry:(i.bytes:Int) *(n:Int)≤281474976710656:=by
  have h:((i.bytes *n:Nat):Int)≤281474976710656:=by rw[ax];omega
  rwa [IP] at h
 have hr:=run_make (P:=P) w t e i z bE hi cz .i64 .i64 n n (by omega) (rv _) ry (by omega);simp only[IQ,hs] at hr;exact hr
theorem XO:(Tryz.prog.info? 78).map (fun i=>(i.zero,i.size,i.bytes))=some (some (J 0),1,24):=by kernel_rfl
theorem XP:(Tryz.prog.info? 71).map (fun i=>(i.zero,i.size,i.bytes))=some (some (.agg #[I 0,I 0]),2,16):=by kernel_rfl
def nf(R:afp)(x:aeo)(cs:ajv)(t:gN)(l:List (List b3))(j:Nat):Prop:=∀i (hi:i<l.length),i<j→∃q c,cs[i]?=some (.slice q l[i].length c)∧l[i].length≤c∧h4 R x q (l[i].map (iA t))
theorem nf.keep{R:afp}{x y:aeo}{cs:ajv}{t:gN}{l:List (List b3)}{j:Nat}(h:nf R x cs t l j)(ay:aP R x y):nf R y cs t l j:=by intro i hi cd;obtain⟨q,c,av,az,aC⟩:=h i hi cd;exact⟨q,c,av,az,aC.keep ay⟩
theorem nf.mono{R Q:afp}{x:aeo}{cs:ajv}{t:gN}{l:List (List b3)}{j:Nat}(h:nf R x cs t l j)(ay:∀k,k<x.heap.size→R k→Q k):nf Q x cs t l j:=by intro i hi cd;obtain⟨q,c,av,az,aC⟩:=h i hi cd;exact⟨q,c,av,az,aC.mono ay⟩
variable{x:aeo}{cs ps:ajv}{t:gN}{r:List b3}
theorem nf.next{R:afp}{l:List (List b3)}{j:Nat}(h:nf R x cs t l j)(hs:j<cs.size){q:Ja}{m c:Nat}(cd:j<l.length)(hr:l[j]=r)(hm:r.length=m)(hc:m≤c)(hp:h4 R x q (r.map (iA t))):nf R x (cs.setIfInBounds j (ad q m c)) t l (j+1):=by
 intro i hi bR;by_cases e:i=j
 ·subst e;refine⟨q,c,?_,by rw[hr,hm];exact hc,by rw[hr];exact hp⟩;rw[IF hs,hr,hm]
 ·obtain⟨jD,c',av,az,aC⟩:=h i hi (by omega);exact⟨jD,c',by rw[zx (gu e)];exact av,az,aC⟩
theorem nf.cons{R:afp}{x:aeo}{cs:ajv}{B:Nat}{t:gN}{l:List (List b3)}(h:nf R x cs t l l.length)(bK:R B)(aK:an x B cs kW)(ax:l.length≤n9):iB R x (some (aj B 0)) (l.map fun c=>c.map (iA t)):=by
 refine⟨by rw[gO];exact ax,fun _=>⟨B,0,cs,rfl,bK,aK,fun i hi=>?_⟩⟩;rw[gO] at hi;obtain⟨q,c,av,az,aC⟩:=h i hi hi;refine⟨q,c,?_,?_,?_⟩
 ·rw[j7,av];simp
 ·simpa using az
 ·rw[IS];exact aC
def zK(ps:ajv)(t:gN)(r:List b3)(k:Nat):Prop:=∀i (hi:i<r.length),i<k→ps[i *2]?=some (I (iA t r[i]).1)∧ps[i *2+1]?=some (I (iA t r[i]).2)
theorem zK.next{k:Nat}(h:zK ps t r k)(hs:k *2+1<ps.size){z u:b3}(ay:k<r.length)(cz:r[k]=z)(hu:iA t z=u):zK ((ps.setIfInBounds (k *2) (I u.1)).setIfInBounds (k *2+1) (I u.2)) t r (k+1):=by
 intro i hi bR;by_cases e:i=k
 ·subst e;rw[cz,hu];constructor
  ·rw[zx (by omega),IF (by omega)]
  ·rw[IF (by rw[yp];exact hs)]
 ·obtain⟨av,az⟩:=h i hi (by omega);constructor
  ·rw[zx (by omega),zx (by omega)];exact av
  ·rw[zx (by omega),zx (by omega)];exact az
theorem zK.II{R:afp}{C:Nat}(h:zK ps t r r.length)(mZ:R C)(aK:an x C ps jT)(ax:r.length≤n9):h4 R x (some (aj C 0)) (r.map (iA t)):=by refine⟨by rw[gO];exact ax,fun _=>⟨C,0,ps,rfl,mZ,aK,fun i hi=>?_⟩⟩;rw[gO] at hi;obtain⟨av,az⟩:=h i hi hi;rw[j7,av,az];simp
theorem IV{w:aeo}{k i:Nat}{t:aai}(h:an w k cs t)(hi:i<cs.size):∃v,ak w k i v:=by rw[show w.cell? ⟨k,i,none⟩=cs[i]? from by simp[World.cell?,h],Nd hi];exact⟨_,rfl⟩
theorem XQ(w:aeo)(a:Addr)(u:ada):(w.setCell a u).heap.size=w.heap.size:=by simp[World.setCell]
theorem ft.off{w0:aeo}{g:Nat}{dC dk out:ajv}(h:ft w0 g dC dk out x){j:Nat}(cd:g+1+1+1<j)(i:Nat)(u:ada):ft w0 g dC dk out (x.setCell (aj j i) u):=
 ⟨(w1 (by omega)).trans h.dC,(w1 (by omega)).trans h.dk,(w1 (by omega)).trans h.res,(w1 (by omega)).trans h.out,h.aX.setCell (p:=⟨j,i,none⟩) (by show g≤j;omega) _⟩
theorem ahF(s:bk)(b:dm)(ay:b.k=2)(f:Nat)(left m:Int)(S:afp)(pl:Ja)(cl:Nat)(pp:Ja)(cp:Nat)(w:aeo)(t:gN)
  (ga:af (e1 t.fj.1∧e1 t.fj.2)) (el:af (dE S w pl cl pp cp ⟨b,s⟩)) (bm:af (kD b s f left=some m)):
  Calls Tryz.prog 228 #[jU b (ad pl b.l.length cl) (ad pp s.len cp),tI t] w (w2 w t b s):=by
 obtain⟨k,⟨a1,aZ⟩,⟨a8,bh⟩,⟨cx,bu⟩,r,l⟩:=b;obtain⟨bB,bW,cf,ex,bL⟩:=t;simp only at ay;subst ay;show Calls _ _ #[.agg #[I 2,I a1,I aZ,I a8,I bh,I cx,I bu,I r,ad pl l.length cl,ad pp s.len cp],.agg #[U bB,U bW,I cf,I ex,I bL]] w _;have ix:af (∀i (hi:i<l.length) k (ay:k<l[i].length),gF l[i][k]=true):=by intro i hi k ay;have h:=((zF bm.out).2.2.1 (show (2:Int)≠6 by decide)).1;simp[iG,C2] at h;have az:=h.2 l[i] (kT hi);have aC:=az l[i][k].1 l[i][k].2 (kT ay);exact aC
 obtain⟨n,hn⟩:=ar l.length;have bd:=aq hn;have rb:n≤1000000000:=by rw[←hn];exact el.out.l.1
 rw[hn];have tt:=zJ (P:=Tryz.prog) 72 78 (J 0) 1 24 Tryz.underlying72 XO n (by omega) (by omega);clear hn;go_enter FZ,F0;go_upto_region 2 with fail;obtain⟨W,bo⟩:=ar ((((w.alloc (ai (#[I 2,I a1,I aZ,I a8,I bh,I cx,I bu,I r,ad pl n cl,ad pp s.len cp]) dB)).alloc (ai (#[U bB,U bW,I cf,I ex,I bL]) px)).alloc (ai (#[I 0,I 0,I 0,I 0,I 0,I 0,I 0,I 0,J 0,J 0]) dB)).alloc (ai (#[I 2,I 0,I 0,I 0,I 0,I 0,I 0,I r,J 0,J 0]) dB));have bH:af (ft w w.heap.size #[I 2,I a1,I aZ,I a8,I bh,I cx,I bu,I r,ad pl n cl,ad pp s.len cp] #[U bB,U bW,I cf,I ex,I bL] #[I 2,I 0,I 0,I 0,I 0,I 0,I 0,I r,J 0,J 0] W):=by obtain⟨av,az,aC,bt,ax⟩:=zE bo;exact⟨av,az,aC,bt,ax⟩
 rw[bo];clear bo;obtain⟨g0,g1,g2,g3,g4,g5,g6,g7,g8,g9⟩:=eA bH.out.dC;obtain⟨lM,dX,c2,fq,gx,iC,fV,ll,ln,kt⟩:=eA bH.out.out;have n0:=lt_of_heap bH.out.out;have dT:=lj bH.out.out;go_upto_region 14 with fail;have cA:af (ft w w.heap.size #[I 2,I a1,I aZ,I a8,I bh,I cx,I bu,I r,ad pl n cl,ad pp s.len cp] #[U bB,U bW,I cf,I ex,I bL] #[I 2,I 0,I 0,I 0,I 0,I 0,I 0,I r,ag W.heap.size 0 n n,J 0] ((W.setCell (aj (w.heap.size+1+1+1) 8) (ag W.heap.size 0 n n)).alloc (ai (madeCells #[J 0] n) kW))):=(bH.out.set 8 _).below (a6 _ _)
 have il:af (((W.setCell (aj (w.heap.size+1+1+1) 8) (ag W.heap.size 0 n n)).alloc (ai (madeCells #[J 0] n) kW)).heap[W.heap.size]?=some (.cells (madeCells #[J 0] n) kW)):=by
  have h:=bY (W.setCell (aj (w.heap.size+1+1+1) 8) (ag W.heap.size 0 n n)) (ai (madeCells #[J 0] n) kW)
  rwa [XQ] at h
 obtain⟨B,bK⟩:=ar W.heap.size;have ng:af (w.heap.size+1+1+1<B):=by show _<_;rw[←bK];exact lt_of_heap bH.out.out
 clear g0 g1 g2 g3 g4 g5 g6 g7 g9 lM dX c2 fq gx iC fV ll ln kt n0 dT tt;rw[bK] at cA il⊢;generalize (W.setCell (aj (w.heap.size+1+1+1) 8) (ag B 0 n n)).alloc (.cells (madeCells #[J 0] n) kW)=b9 at cA il⊢;clear g8 bH bK;clear W;obtain⟨g0,g1,g2,g3,g4,g5,g6,g7,g8,g9⟩:=eA cA.out.dC;go_wp2_with fail
 go_loopw [78] (fun i wr=>∃(j:Nat) (aM:aeo),aM=wr∧j≤n∧i=I j∧af (ft w w.heap.size #[I 2,I a1,I aZ,I a8,I bh,I cx,I bu,I r,ad pl n cl,ad pp s.len cp] #[U bB,U bW,I cf,I ex,I bL] #[I 2,I 0,I 0,I 0,I 0,I 0,I 0,I r,ag B 0 n n,J 0] aM)∧af (∃cs,an aM B cs kW∧cs.size=n∧nf (fun k=>w.heap.size+1+1+1<k∧k≠B) aM cs ⟨bB,bW,cf,(ex,bL)⟩ l j)) (fun i _=>n -(intOf i).toNat)
 case atStart=>exact⟨0,_,rfl,dO _,rfl,cA.out,⟨_,il.out,by rw[Nf],fun i hi h=>absurd h (my _)⟩⟩
 case round=>
 clear g0 g1 g2 g3 g4 g5 g6 g7 g8 g9;obtain⟨j,aM,rfl,cd,rfl,pA,Bv⟩:=hrel;by_cases bR:j<n
 ·have fE:j<l.length:=(by rw[bd.out];exact bR);have gU:(j:Int)<(n:Int):=(by omega);obtain⟨fK,hr⟩:=ar (l[j]);obtain⟨fz,o,q,na,rfl,qm,ka,l2⟩:=(el.out.l.below pA.out.aX).at fE hr;have bT:=aq l2;have bw:=aq hr;have oR:fK.length≤1000000000:=l2.1;obtain⟨dj,IA⟩:=ar fK.length;have w5:=aq IA;rw[IA] at qm oR ka;have ahG:=zJ (P:=Tryz.prog) 78 71 (.agg #[I 0,I 0]) 2 16 Tryz.underlying78 XP dj (by omega) (by omega);clear l2 hr IA;go_upto_region 18 with fail;obtain⟨C,mZ⟩:=ar aM.heap.size;have k7:af (B<C):=(by obtain⟨cs,h,_⟩:=Bv.out;show B<C;rw[←mZ];exact lt_of_heap h);have vm:=aq (pA.out.below (a6 aM (ai (madeCells #[I 0,I 0] (dj *2)) jT)));have Bw:af (∃cs,(aM.alloc (ai (madeCells #[I 0,I 0] (dj *2)) jT)).heap[B]?=some (.cells cs kW)∧cs.size=n∧nf (fun k=>(w.heap.size+1+1+1<k∧k≠B)∧k<C) (aM.alloc (ai (madeCells #[I 0,I 0] (dj *2)) jT)) cs ⟨bB,bW,cf,(ex,bL)⟩ l j):=(by obtain⟨cs,av,az,aC⟩:=Bv.out;exact⟨cs,aU av (a6 _ _),az,(aC.mono fun k ay h=>⟨h,by omega⟩).keep (.alloc _ _ _)⟩);have XR:af ((aM.alloc (ai (madeCells #[I 0,I 0] (dj *2)) jT)).heap[C]?=some (.cells (madeCells #[I 0,I 0] (dj *2)) jT)):=(by show _=_;rw[←mZ];exact bY _ _);have nM:=aq (a6 aM (ai (madeCells #[I 0,I 0] (dj *2)) jT));have Ng:=aq mZ;rw[mZ];clear ahG qm mZ;generalize aM.alloc (.cells (madeCells #[I 0,I 0] (dj *2)) jT)=avP at vm Bw XR nM⊢;go_wp2_with fail
  go_loopw [88] (fun i dw=>∃(k:Nat) (cE:aeo),cE=dw∧k≤dj∧i=I k∧af (ft w w.heap.size #[I 2,I a1,I aZ,I a8,I bh,I cx,I bu,I r,ag fz o n cl,ad pp s.len cp] #[U bB,U bW,I cf,I ex,I bL] #[I 2,I 0,I 0,I 0,I 0,I 0,I 0,I r,ag B 0 n n,J 0] cE)∧af (∃cs,an cE B cs kW∧cs.size=n∧nf (fun k=>(w.heap.size+1+1+1<k∧k≠B)∧k<C) cE cs ⟨bB,bW,cf,(ex,bL)⟩ l j)∧af (Below C aM cE)∧af (∃ps,an cE C ps jT∧ps.size=dj *2∧zK ps ⟨bB,bW,cf,(ex,bL)⟩ fK k)) (fun i _=>dj -(intOf i).toNat)
  case atStart=>exact⟨0,_,rfl,dO _,rfl,vm.out,Bw.out,Ng.out ▸ nM.out,⟨_,XR.out,by rw[Nf],fun i hi h=>absurd h (my _)⟩⟩
  case round=>
  obtain⟨k,cE,rfl,ay,rfl,jA,rz,dV,pW⟩:=hrel;by_cases j':k<dj
  ·have pS:k<fK.length:=(by rw[w5.out];exact j');have ML:(k:Int)<(dj:Int):=(by omega);obtain⟨z,cz⟩:=ar (fK[k]);have Ru:=bT.out.below (w':=cE) (Ng.out ▸ dV.out);obtain⟨nb,lH,rfl,s0,s1⟩:=Ru.at pS cz;have ahH:nb<cE.heap.size:=(by obtain⟨bc,nD,kv,he,_,aK,_⟩:=Ru.2 (by omega);injection he with he;injection he with IW wE;rw[IW];exact lt_of_heap aK);have nE:gF z=true:=(by have h:=ix.out j fE k (by rw[bw.out];exact pS);simp only[bw.out] at h;rw[←cz];exact h);obtain⟨gv,gw⟩:=z;have aV:=aq cz;have aO:=aq (tF nE);clear cz nE Ru;go_upto_region 21 with fail;have vn:=aq (jA.out.below (a6 cE (eU (gv,gw))));have Rv:af (∃cs,(cE.alloc (eU (gv,gw))).heap[B]?=some (.cells cs kW)∧cs.size=n∧nf (fun k=>(w.heap.size+1+1+1<k∧k≠B)∧k<C) (cE.alloc (eU (gv,gw))) cs ⟨bB,bW,cf,(ex,bL)⟩ l j):=(by obtain⟨cs,av,az,aC⟩:=rz.out;exact⟨cs,aU av (a6 _ _),az,aC.keep (.alloc _ _ _)⟩);have gb:=aq (dV.out.trans ((a6 cE (eU (gv,gw))).mono (by have:=dV.out.size;have:=Ng.out;omega)));have iN:af (∃ps,(cE.alloc (eU (gv,gw))).heap[C]?=some (.cells ps jT)∧ps.size=dj *2∧zK ps ⟨bB,bW,cf,(ex,bL)⟩ fK k):=(by obtain⟨ps,av,az,aC⟩:=pW.out;exact⟨ps,aU av (a6 _ _),az,aC⟩);have vo:af ((cE.alloc (eU (gv,gw))).heap[cE.heap.size]?=some (eU (gv,gw))):=bY _ _;clear s0 s1 ahH jA rz dV pW;generalize cE.heap.size=D at vo⊢;generalize cE.alloc (eU (gv,gw))=dP at vn Rv gb iN vo⊢;obtain⟨d0,d1,_,_⟩:=MS vo.out;obtain⟨t0,t1,t2,t3,t4⟩:=tJ vn.out.dk;obtain⟨⟨x,y⟩,hp⟩:∃p:b3,iA ⟨bB,bW,cf,(ex,bL)⟩ (gv,gw)=p:=⟨_,rfl⟩;have yC:=aq hp;clear hp;go_wp2_with fail;refine (zw ⟨bB,bW,cf,(ex,bL)⟩ gv gw aO.out.1 aO.out.2 ga.out.1 ga.out.2 x y yC dP).mono ?_;rintro e cW ⟨rfl,jE⟩;have jF:=aq (vn.out.below jE);have F3:af (∃cs,an cW B cs kW∧cs.size=n∧nf (fun k=>(w.heap.size+1+1+1<k∧k≠B)∧k<C) cW cs ⟨bB,bW,cf,(ex,bL)⟩ l j):=(by obtain⟨cs,av,az,aC⟩:=Rv.out;exact⟨cs,aU av jE,az,aC.keep (.dW jE)⟩);have eH:=aq (gb.out.trans (jE.mono (by have:=gb.out.size;have:=Ng.out;omega)));obtain⟨ps,i1,pX,XS⟩:=iN.out;have Dg:=aU i1 jE;have IX:=aq Dg;have qH:=aq pX;have Nh:=aq XS;clear d0 d1 t0 t1 t2 t3 t4 vn Rv gb iN vo jE i1 XS;obtain⟨v0,aQ⟩:=IV (i:=k *2) Dg (by omega);obtain⟨v1,aN⟩:=IV (i:=k *2+1) Dg (by omega);have f0:=lj Dg (k *2);have f1:=lj Dg (k *2+1);have gi:=lt_of_heap Dg;clear Dg pX;go_upto_region 22 with fail;have sB:af (ft w w.heap.size #[I 2,I a1,I aZ,I a8,I bh,I cx,I bu,I r,ag fz o n cl,ad pp s.len cp] #[U bB,U bW,I cf,I ex,I bL] #[I 2,I 0,I 0,I 0,I 0,I 0,I 0,I r,ag B 0 n n,J 0] ((cW.setCell (aj C (k *2)) (I x)).setCell (aj C (k *2+1)) (I y))):=(by have av:=k7.out;have az:=ng.out;exact (jF.out.off (by omega) _ _).off (by omega) _ _);have Dh:af (∃cs,((cW.setCell (aj C (k *2)) (I x)).setCell (aj C (k *2+1)) (I y)).heap[B]?=some (.cells cs kW)∧cs.size=n∧nf (fun k=>(w.heap.size+1+1+1<k∧k≠B)∧k<C) ((cW.setCell (aj C (k *2)) (I x)).setCell (aj C (k *2+1)) (I y)) cs ⟨bB,bW,cf,(ex,bL)⟩ l j):=(by have bt:=k7.out;obtain⟨cs,av,az,aC⟩:=F3.out;exact⟨cs,(w1 (by omega)).trans ((w1 (by omega)).trans av),az,aC.keep ((aP.set (a:=⟨C,k *2,none⟩) (fun h=>mA _ h.2) _).trans (.set (a:=⟨C,k *2+1,none⟩) (fun h=>mA _ h.2) _))⟩);have mb:af (Below C aM ((cW.setCell (aj C (k *2)) (I x)).setCell (aj C (k *2+1)) (I y))):=(eH.out.setCell (p:=⟨C,k *2,none⟩) (bx _) _).setCell (p:=⟨C,k *2+1,none⟩) (bx _) _
   have oi:af (∃ps,((cW.setCell (aj C (k *2)) (I x)).setCell (aj C (k *2+1)) (I y)).heap[C]?=some (.cells ps jT)∧ps.size=dj *2∧zK ps ⟨bB,bW,cf,(ex,bL)⟩ fK (k+1)):=
    ⟨_,dt _ (dt _ IX.out),by rw[yp,yp];exact qH.out,Nh.out.next (by have:=qH.out;omega) pS aV.out yC.out⟩
   clear aQ aN f0 f1 gi IX jF F3 eH;generalize (cW.setCell (aj C (k *2)) (I x)).setCell (aj C (k *2+1)) (I y)=bI at sB Dh mb oi⊢;go_wp2_with fail;go_round<;>first|exact⟨k+1,_,rfl,by omega,by go_num,sB.out,Dh.out,mb.out,oi.out⟩|(simp[intOf]<;>omega)
  ·have wF:k=dj:=(by omega);subst wF;obtain⟨lM,dX,c2,fq,gx,iC,fV,ll,ln,kt⟩:=eA jA.out.out;have en:=lt_of_heap jA.out.out;obtain⟨cs,iw,gi,XT⟩:=rz.out;have Di:=aq iw;have XU:=aq gi;have F4:=aq XT;obtain⟨v0,aQ⟩:=IV (i:=j) iw (by omega);have f0:=lj iw j;have fa:=lt_of_heap iw;clear iw gi XT;go_upto_region 24 with fail;have sB:af (ft w w.heap.size #[I 2,I a1,I aZ,I a8,I bh,I cx,I bu,I r,ag fz o n cl,ad pp s.len cp] #[U bB,U bW,I cf,I ex,I bL] #[I 2,I 0,I 0,I 0,I 0,I 0,I 0,I r,ag B 0 n n,J 0] (cE.setCell (aj B j) (ag C 0 k k))):=by have az:=ng.out;exact jA.out.off (by omega) _ _
   have Dh:af (∃cs,(cE.setCell (aj B j) (ag C 0 k k)).heap[B]?=some (.cells cs kW)∧cs.size=n∧nf (fun k=>w.heap.size+1+1+1<k∧k≠B) (cE.setCell (aj B j) (ag C 0 k k)) cs ⟨bB,bW,cf,(ex,bL)⟩ l (j+1)):=by
    refine⟨_,dt _ Di.out,by rw[yp];exact XU.out,?_⟩;have zL:aP (fun k=>w.heap.size+1+1+1<k∧k≠B) cE (cE.setCell (aj B j) (ag C 0 k k)):=.set (a:=⟨B,j,none⟩) (fun h=>h.2 rfl) _;refine ((F4.out.mono fun k _ h=>h.1).keep zL).next (by rw[XU.out];exact bR) fE bw.out w5.out (bx _) ?_
    obtain⟨ps,av,az,aC⟩:=pW.out;have bt:=k7.out;have cr:=ng.out;exact (zK.II (w5.out ▸ aC) (R:=fun k=>w.heap.size+1+1+1<k∧k≠B) ⟨by omega,by omega⟩ av bT.out.1).keep zL
   clear lM dX c2 fq gx iC fV ll ln kt aQ f0 en fa Di F4 jA rz dV pW;generalize cE.setCell (aj B j) (ad (some (aj C 0)) k k)=bI at sB Dh⊢;go_wp2_with fail;go_round<;>first|exact⟨j+1,_,rfl,by omega,by go_num,sB.out,Dh.out⟩|(simp[intOf]<;>omega)
 ·have iH:j=n:=(by omega);subst iH;go_upto_region 32 with fail;obtain⟨lM,dX,c2,fq,gx,iC,fV,ll,ln,kt⟩:=eA pA.out.out;obtain⟨ju,iJ,l',sA,vi,vj,qF,w3,w4,ma⟩:=eA pA.out.res;have fr:=lj pA.out.res;have en:=lt_of_heap pA.out.res;go_wp2_with fail;change bodyPost _ _ _ _ _ (h7 aM (w.heap.size+1+1) (I 2) (I 0) (I 0) (I 0) (I 0) (I 0) (I 0) (I r) (ag B 0 j j) (J 0));have hF:=vg (I 2) (I 0) (I 0) (I 0) (I 0) (I 0) (I 0) (I r) (ag B 0 j j) (J 0) pA.out.res;have bK:=vh (I 2) (I 0) (I 0) (I 0) (I 0) (I 0) (I 0) (I r) (ag B 0 j j) (J 0) pA.out.aX (show w.heap.size≤w.heap.size+1+1 by omega);have hS:dE (fun k=>w.heap.size≤k) (h7 aM (w.heap.size+1+1) (I 2) (I 0) (I 0) (I 0) (I 0) (I 0) (I 0) (I r) (ag B 0 j j) (J 0)) (some (aj B 0)) j none 0 ⟨⟨2,(0,0),(0,0),(0,0),r,l.map fun c=>c.map (iA ⟨bB,bW,cf,(ex,bL)⟩)⟩,.nil⟩:=(by obtain⟨cs,av,az,aC⟩:=Bv.out;rw[←bd.out] at aC;have cr:=ng.out;have c4:h4 (fun _=>True) aM none []:=.nil _ _ _;have ez:iB (fun k=>w.heap.size+1+1+1<k) aM (some (aj B 0)) (l.map fun c=>c.map (iA ⟨bB,bW,cf,(ex,bL)⟩)):=(aC.mono fun k _ h=>h.1).cons (by omega) av (by rw[bd.out];exact rb);exact⟨(ez.keep (Rr (I 2) (I 0) (I 0) (I 0) (I 0) (I 0) (I 0) (I r) (ag B 0 j j) (J 0) (by omega))).mono fun k _ h=>by omega,.nil _ _ _,by simp[bd.out],dO _⟩);generalize h7 aM (w.heap.size+1+1) (I 2) (I 0) (I 0) (I 0) (I 0) (I 0) (I 0) (I r) (ag B 0 j j) (J 0)=e5 at hF bK hS⊢;obtain⟨aQ,aN,aJ,c3,bF,c5,bZ,b',bU,bg⟩:=eA hF;exact dU (v:=.agg #[I 2,I 0,I 0,I 0,I 0,I 0,I 0,I r,ag B 0 j j,J 0]) (by simp[results,zD,go_sem,aQ,aN,aJ,c3,bF,c5,bZ,b',bU,bg]) rfl (.mk (by simp[nJ,wO,iz]:_=(⟨⟨2,(0,0),(0,0),(0,0),r,l.map fun c=>c.map (iA ⟨bB,bW,cf,(ex,bL)⟩)⟩,.nil⟩:eg)) (some (aj B 0)) j none 0 (by simp[bd.out,bk.len]) hS bK)
def oj(d:Nat→Int):Nat→Int
 |0=>0
 |n+1=>oj d n+if 0<d n then 1 else 0
def om(d:Nat→Int):Nat→Int
 |0=>0
 |n+1=>om d n+if d n<0 then 1 else 0
def fv(aD aE aL aH:Int):Nat→b3
 |0=>(aD,aE)
 |1=>(aL,aE)
 |2=>(aD,aH)
 |_=>(aL,aH)
theorem ahI(aD aE aL aH:Int)(p q:b3)(hm:¬(max p.1 q.1<aD∨aL<min p.1 q.1∨max p.2 q.2<aE∨aH<min p.2 q.2)):
  zt ⟨aD,aE,aL,aH⟩ p q=(decide (oj (fun k=>eR p q (fv aD aE aL aH k)) 4<4)&&decide (om (fun k=>eR p q (fv aD aE aL aH k)) 4<4)):=by
 unfold zt;rw[aW hm];simp only[oj,om,pq,fv,List.all_cons,List.all_nil,Bool.and_true]
 congr 1<;>rw[yc]<;>simp only[Rs,jR,Bool.and_eq_false_iff,Rt]<;>(repeat' split)<;>omega
theorem Ni{b:ck}{p q:b3}{f:Bool}(h:zt b p q=f)(hm:max p.1 q.1<b.aD∨b.aL<min p.1 q.1∨max p.2 q.2<b.aE∨b.aH<min p.2 q.2):false=f:=by rw[←h];unfold zt;rw[bb hm]
theorem Nj(aD aE aL aH:Int)(j:Nat)(cd:j<4)(w:aeo):(Instr.index 394 (FV ⟨aD,aE,aL,aH⟩) (I j)).run Tryz.prog w=.ok (lG (fv aD aE aL aH j)) w:=by rcases (show j=0∨j=1∨j=2∨j=3 by omega) with rfl|rfl|rfl|rfl<;>simp[Instr.index,jC Tryz.underlying394,asIntOf,go_sem,fv,part]
theorem ahJ(b:ck)(p q:b3)(aS:hQ (b.aD,b.aE))(av:hQ (b.aL,b.aH))(hp:hQ p)(aR:hQ q)(he:sj b=false)(f:Bool)(hf:af (zt b p q=f))(w:aeo):
  Calls Tryz.prog 277 #[h5 b,lG p,lG q] w fun e w'=>e=ab (U f)∧ao w w w':=by
 have bC:af (∀k,hQ (fv b.aD b.aE b.aL b.aH k)):=by
  rintro (_|_|_|k)
  ·exact aS
  ·exact⟨av.1,aS.2⟩
  ·exact⟨aS.1,av.2⟩
  ·exact av
 have bl:=aq he;have bT:=aq hp;have a':=aq aR;clear aS av he hp aR;obtain⟨aD,aE,aL,aH⟩:=b;obtain⟨de,cZ⟩:=p;obtain⟨eV,eW⟩:=q;go_enter Tryz.func277,Tryz.ntmps277;go_upto_region 1 with fail;obtain⟨W,bo⟩:=ar (((w.alloc (cV ⟨aD,aE,aL,aH⟩)).alloc (eU (de,cZ))).alloc (eU (eV,eW)));obtain⟨t1,t2,t3,t4,t5⟩:=zv bo;have cy:=aq t1;have aI:=aq t2;have cF:=aq t3;have ee:=aq t4;rw[bo];clear bo t1 t2 t3 t4 t5;obtain⟨a0,bA,a2,a3⟩:=gW cy.out;go_wp2_with fail;with_reducible refine (Ro ⟨aD,aE,aL,aH⟩ _ bl _).mono ?_
 rintro e V ⟨rfl,aY⟩;have su:=aq (aU cy.out aY);have cC:=aq (aU aI.out aY);have kI:=aq (aU cF.out aY);have b0:af (ao w w V):=ee.out.trans (aY.mono ee.out.size);clear a0 bA a2 a3 aY cy aI cF ee;obtain⟨a0,bA,a2,a3⟩:=gW su.out;obtain⟨fO,fh⟩:=kr cC.out;obtain⟨fS,b1⟩:=kr kI.out;simp only at fO fh fS b1;by_cases aN:max de eV<aD
 case pos=>
  have aO:af (false=f):=Ni hf.out (.inl aN);go_wp2_with fail;go_ret;exact⟨dD aO.out,b0.out⟩
 by_cases aJ:aL<min de eV
 case pos=>
  have aO:af (false=f):=Ni hf.out (.inr (.inl aJ));go_wp2_with fail;go_ret;exact⟨dD aO.out,b0.out⟩
 by_cases c3:max cZ eW<aE
 case pos=>
  have aO:af (false=f):=Ni hf.out (.inr (.inr (.inl c3)));go_wp2_with fail;go_ret;exact⟨dD aO.out,b0.out⟩
 by_cases bF:aH<min cZ eW
 case pos=>
  have aO:af (false=f):=Ni hf.out (.inr (.inr (.inr bF)));go_wp2_with fail;go_ret;exact⟨dD aO.out,b0.out⟩
 have bH:=aq ((ahI aD aE aL aH (de,cZ) (eV,eW) (by simp only;omega)).symm.trans hf.out);go_wp2_with fail;with_reducible refine (aho ⟨aD,aE,aL,aH⟩ _).mono ?_
 rintro e mc ⟨rfl,aY⟩;have lh:af (ao V V mc):=aY;clear aY a0 bA a2 a3 fO fh fS b1;go_wp2_with fail
 go_loopw [7,8,56] (fun Iq rt i wr=>∃(j:Nat) (L R:Int) (aM:aeo),aM=wr∧j≤4∧0≤L∧L≤(j:Int)∧0≤R∧R≤(j:Int)∧af (oj (fun k=>eR (de,cZ) (eV,eW) (fv aD aE aL aH k)) j=L)∧af (om (fun k=>eR (de,cZ) (eV,eW) (fv aD aE aL aH k)) j=R)∧Iq=I L∧rt=I R∧i=I j∧af (ao V V aM)) (fun _ _ i _=>4 -(intOf i).toNat)
 case atStart=>exact⟨0,0,0,_,rfl,by decide,by decide,by decide,by decide,by decide,rfl,rfl,rfl,rfl,rfl,lh.out⟩
 case round=>
 obtain⟨j,L,R,aM,rfl,cd,ahK,MF,avQ,pY,IY,IZ,rfl,rfl,rfl,c1⟩:=hrel;obtain⟨tR,Bx⟩:∃tR:Int,(j:Int)=tR:=⟨_,rfl⟩;rw[Bx];rcases (show j=0∨j=1∨j=2∨j=3∨j=4 by omega) with rfl|rfl|rfl|rfl|rfl
 ·
  obtain rfl:tR=0:=(by omega);have kB:∀w,(Instr.index 394 (FV ⟨aD,aE,aL,aH⟩) (I 0)).run Tryz.prog w=.ok (lG (fv aD aE aL aH 0)) w:=fun w=>Nj aD aE aL aH 0 (by decide) w;obtain⟨v,aY⟩:=ar (eR (de,cZ) (eV,eW) (fv aD aE aL aH 0));have cR:=aq aY;have dn:af (oj (fun k=>eR (de,cZ) (eV,eW) (fv aD aE aL aH k)) (0+1)=L+(if 0<v then 1 else 0)):=(by show _=_;rw[←IY.out,←aY];rfl);have bw:af (om (fun k=>eR (de,cZ) (eV,eW) (fv aD aE aL aH k)) (0+1)=R+(if v<0 then 1 else 0)):=(by show _=_;rw[←IZ.out,←aY];rfl);clear aY;obtain⟨fO,fh⟩:=kr (aU cC.out c1.out);obtain⟨fS,b1⟩:=kr (aU kI.out c1.out);simp only at fO fh fS b1;have en:=lt_of_heap (aU cC.out c1.out);have fa:=lt_of_heap (aU kI.out c1.out);have oo:ae (L+1)=L+1:=cY _ (by omega);have w6:ae (R+1)=R+1:=cY _ (by omega);go_wp2_with fail;with_reducible refine (FU (de,cZ) (eV,eW) (fv aD aE aL aH 0) bT.out a'.out (bC.out 0) v cR _).mono ?_
  rintro e dP ⟨rfl,im⟩;have aV:af (ao V V dP):=(c1.out.alloc c1.out.size _).trans (im.mono (by have:=c1.out.size;simp;omega));clear im;by_cases cv:v > 0
  ·have e9:af (oj (fun k=>eR (de,cZ) (eV,eW) (fv aD aE aL aH k)) (0+1)=L+1):=(by show _=_;rw[dn.out,bb cv]);have eO:af (om (fun k=>eR (de,cZ) (eV,eW) (fv aD aE aL aH k)) (0+1)=R):=(by show _=_;rw[bw.out,aW (by omega),qG]);have cn:¬v<0:=(by omega);go_wp2_with fail;go_round<;>first|exact⟨0+1,L+1,R,_,rfl,by omega,by omega,by omega,by omega,by omega,e9,eO,rfl,rfl,by go_num,aV.out⟩|(simp[intOf]<;>omega)
  ·by_cases cn:v<0
   ·have e9:af (oj (fun k=>eR (de,cZ) (eV,eW) (fv aD aE aL aH k)) (0+1)=L):=(by show _=_;rw[dn.out,aW (by omega),qG]);have eO:af (om (fun k=>eR (de,cZ) (eV,eW) (fv aD aE aL aH k)) (0+1)=R+1):=(by show _=_;rw[bw.out,bb cn]);go_wp2_with fail;go_round<;>first|exact⟨0+1,L,R+1,_,rfl,by omega,by omega,by omega,by omega,by omega,e9,eO,rfl,rfl,by go_num,aV.out⟩|(simp[intOf]<;>omega)
   ·have e9:af (oj (fun k=>eR (de,cZ) (eV,eW) (fv aD aE aL aH k)) (0+1)=L):=(by show _=_;rw[dn.out,aW (by omega),qG]);have eO:af (om (fun k=>eR (de,cZ) (eV,eW) (fv aD aE aL aH k)) (0+1)=R):=(by show _=_;rw[bw.out,aW (by omega),qG]);go_wp2_with fail;go_round<;>first|exact⟨0+1,L,R,_,rfl,by omega,by omega,by omega,by omega,by omega,e9,eO,rfl,rfl,by go_num,aV.out⟩|(simp[intOf]<;>omega)
 ·
  obtain rfl:tR=1:=(by omega);have kB:∀w,(Instr.index 394 (FV ⟨aD,aE,aL,aH⟩) (I 1)).run Tryz.prog w=.ok (lG (fv aD aE aL aH 1)) w:=fun w=>Nj aD aE aL aH 1 (by decide) w;obtain⟨v,aY⟩:=ar (eR (de,cZ) (eV,eW) (fv aD aE aL aH 1));have cR:=aq aY;have dn:af (oj (fun k=>eR (de,cZ) (eV,eW) (fv aD aE aL aH k)) (1+1)=L+(if 0<v then 1 else 0)):=(by show _=_;rw[←IY.out,←aY];rfl);have bw:af (om (fun k=>eR (de,cZ) (eV,eW) (fv aD aE aL aH k)) (1+1)=R+(if v<0 then 1 else 0)):=(by show _=_;rw[←IZ.out,←aY];rfl);clear aY;obtain⟨fO,fh⟩:=kr (aU cC.out c1.out);obtain⟨fS,b1⟩:=kr (aU kI.out c1.out);simp only at fO fh fS b1;have en:=lt_of_heap (aU cC.out c1.out);have fa:=lt_of_heap (aU kI.out c1.out);have oo:ae (L+1)=L+1:=cY _ (by omega);have w6:ae (R+1)=R+1:=cY _ (by omega);go_wp2_with fail;with_reducible refine (FU (de,cZ) (eV,eW) (fv aD aE aL aH 1) bT.out a'.out (bC.out 1) v cR _).mono ?_
  rintro e dP ⟨rfl,im⟩;have aV:af (ao V V dP):=(c1.out.alloc c1.out.size _).trans (im.mono (by have:=c1.out.size;simp;omega));clear im;by_cases cv:v > 0
  ·have e9:af (oj (fun k=>eR (de,cZ) (eV,eW) (fv aD aE aL aH k)) (1+1)=L+1):=(by show _=_;rw[dn.out,bb cv]);have eO:af (om (fun k=>eR (de,cZ) (eV,eW) (fv aD aE aL aH k)) (1+1)=R):=(by show _=_;rw[bw.out,aW (by omega),qG]);have cn:¬v<0:=(by omega);go_wp2_with fail;go_round<;>first|exact⟨1+1,L+1,R,_,rfl,by omega,by omega,by omega,by omega,by omega,e9,eO,rfl,rfl,by go_num,aV.out⟩|(simp[intOf]<;>omega)
  ·by_cases cn:v<0
   ·have e9:af (oj (fun k=>eR (de,cZ) (eV,eW) (fv aD aE aL aH k)) (1+1)=L):=(by show _=_;rw[dn.out,aW (by omega),qG]);have eO:af (om (fun k=>eR (de,cZ) (eV,eW) (fv aD aE aL aH k)) (1+1)=R+1):=(by show _=_;rw[bw.out,bb cn]);go_wp2_with fail;go_round<;>first|exact⟨1+1,L,R+1,_,rfl,by omega,by omega,by omega,by omega,by omega,e9,eO,rfl,rfl,by go_num,aV.out⟩|(simp[intOf]<;>omega)
   ·have e9:af (oj (fun k=>eR (de,cZ) (eV,eW) (fv aD aE aL aH k)) (1+1)=L):=(by show _=_;rw[dn.out,aW (by omega),qG]);have eO:af (om (fun k=>eR (de,cZ) (eV,eW) (fv aD aE aL aH k)) (1+1)=R):=(by show _=_;rw[bw.out,aW (by omega),qG]);go_wp2_with fail;go_round<;>first|exact⟨1+1,L,R,_,rfl,by omega,by omega,by omega,by omega,by omega,e9,eO,rfl,rfl,by go_num,aV.out⟩|(simp[intOf]<;>omega)
 ·
  obtain rfl:tR=2:=(by omega);have kB:∀w,(Instr.index 394 (FV ⟨aD,aE,aL,aH⟩) (I 2)).run Tryz.prog w=.ok (lG (fv aD aE aL aH 2)) w:=fun w=>Nj aD aE aL aH 2 (by decide) w;obtain⟨v,aY⟩:=ar (eR (de,cZ) (eV,eW) (fv aD aE aL aH 2));have cR:=aq aY;have dn:af (oj (fun k=>eR (de,cZ) (eV,eW) (fv aD aE aL aH k)) (2+1)=L+(if 0<v then 1 else 0)):=(by show _=_;rw[←IY.out,←aY];rfl);have bw:af (om (fun k=>eR (de,cZ) (eV,eW) (fv aD aE aL aH k)) (2+1)=R+(if v<0 then 1 else 0)):=(by show _=_;rw[←IZ.out,←aY];rfl);clear aY;obtain⟨fO,fh⟩:=kr (aU cC.out c1.out);obtain⟨fS,b1⟩:=kr (aU kI.out c1.out);simp only at fO fh fS b1;have en:=lt_of_heap (aU cC.out c1.out);have fa:=lt_of_heap (aU kI.out c1.out);have oo:ae (L+1)=L+1:=cY _ (by omega);have w6:ae (R+1)=R+1:=cY _ (by omega);go_wp2_with fail;with_reducible refine (FU (de,cZ) (eV,eW) (fv aD aE aL aH 2) bT.out a'.out (bC.out 2) v cR _).mono ?_
  rintro e dP ⟨rfl,im⟩;have aV:af (ao V V dP):=(c1.out.alloc c1.out.size _).trans (im.mono (by have:=c1.out.size;simp;omega));clear im;by_cases cv:v > 0
  ·have e9:af (oj (fun k=>eR (de,cZ) (eV,eW) (fv aD aE aL aH k)) (2+1)=L+1):=(by show _=_;rw[dn.out,bb cv]);have eO:af (om (fun k=>eR (de,cZ) (eV,eW) (fv aD aE aL aH k)) (2+1)=R):=(by show _=_;rw[bw.out,aW (by omega),qG]);have cn:¬v<0:=(by omega);go_wp2_with fail;go_round<;>first|exact⟨2+1,L+1,R,_,rfl,by omega,by omega,by omega,by omega,by omega,e9,eO,rfl,rfl,by go_num,aV.out⟩|(simp[intOf]<;>omega)
  ·by_cases cn:v<0
   ·have e9:af (oj (fun k=>eR (de,cZ) (eV,eW) (fv aD aE aL aH k)) (2+1)=L):=(by show _=_;rw[dn.out,aW (by omega),qG]);have eO:af (om (fun k=>eR (de,cZ) (eV,eW) (fv aD aE aL aH k)) (2+1)=R+1):=(by show _=_;rw[bw.out,bb cn]);go_wp2_with fail;go_round<;>first|exact⟨2+1,L,R+1,_,rfl,by omega,by omega,by omega,by omega,by omega,e9,eO,rfl,rfl,by go_num,aV.out⟩|(simp[intOf]<;>omega)
   ·have e9:af (oj (fun k=>eR (de,cZ) (eV,eW) (fv aD aE aL aH k)) (2+1)=L):=(by show _=_;rw[dn.out,aW (by omega),qG]);have eO:af (om (fun k=>eR (de,cZ) (eV,eW) (fv aD aE aL aH k)) (2+1)=R):=(by show _=_;rw[bw.out,aW (by omega),qG]);go_wp2_with fail;go_round<;>first|exact⟨2+1,L,R,_,rfl,by omega,by omega,by omega,by omega,by omega,e9,eO,rfl,rfl,by go_num,aV.out⟩|(simp[intOf]<;>omega)
 ·
  obtain rfl:tR=3:=(by omega);have kB:∀w,(Instr.index 394 (FV ⟨aD,aE,aL,aH⟩) (I 3)).run Tryz.prog w=.ok (lG (fv aD aE aL aH 3)) w:=fun w=>Nj aD aE aL aH 3 (by decide) w;obtain⟨v,aY⟩:=ar (eR (de,cZ) (eV,eW) (fv aD aE aL aH 3));have cR:=aq aY;have dn:af (oj (fun k=>eR (de,cZ) (eV,eW) (fv aD aE aL aH k)) (3+1)=L+(if 0<v then 1 else 0)):=(by show _=_;rw[←IY.out,←aY];rfl);have bw:af (om (fun k=>eR (de,cZ) (eV,eW) (fv aD aE aL aH k)) (3+1)=R+(if v<0 then 1 else 0)):=(by show _=_;rw[←IZ.out,←aY];rfl);clear aY;obtain⟨fO,fh⟩:=kr (aU cC.out c1.out);obtain⟨fS,b1⟩:=kr (aU kI.out c1.out);simp only at fO fh fS b1;have en:=lt_of_heap (aU cC.out c1.out);have fa:=lt_of_heap (aU kI.out c1.out);have oo:ae (L+1)=L+1:=cY _ (by omega);have w6:ae (R+1)=R+1:=cY _ (by omega);go_wp2_with fail;with_reducible refine (FU (de,cZ) (eV,eW) (fv aD aE aL aH 3) bT.out a'.out (bC.out 3) v cR _).mono ?_
  rintro e dP ⟨rfl,im⟩;have aV:af (ao V V dP):=(c1.out.alloc c1.out.size _).trans (im.mono (by have:=c1.out.size;simp;omega));clear im;by_cases cv:v > 0
  ·have e9:af (oj (fun k=>eR (de,cZ) (eV,eW) (fv aD aE aL aH k)) (3+1)=L+1):=(by show _=_;rw[dn.out,bb cv]);have eO:af (om (fun k=>eR (de,cZ) (eV,eW) (fv aD aE aL aH k)) (3+1)=R):=(by show _=_;rw[bw.out,aW (by omega),qG]);have cn:¬v<0:=(by omega);go_wp2_with fail;go_round<;>first|exact⟨3+1,L+1,R,_,rfl,by omega,by omega,by omega,by omega,by omega,e9,eO,rfl,rfl,by go_num,aV.out⟩|(simp[intOf]<;>omega)
  ·by_cases cn:v<0
   ·have e9:af (oj (fun k=>eR (de,cZ) (eV,eW) (fv aD aE aL aH k)) (3+1)=L):=(by show _=_;rw[dn.out,aW (by omega),qG]);have eO:af (om (fun k=>eR (de,cZ) (eV,eW) (fv aD aE aL aH k)) (3+1)=R+1):=(by show _=_;rw[bw.out,bb cn]);go_wp2_with fail;go_round<;>first|exact⟨3+1,L,R+1,_,rfl,by omega,by omega,by omega,by omega,by omega,e9,eO,rfl,rfl,by go_num,aV.out⟩|(simp[intOf]<;>omega)
   ·have e9:af (oj (fun k=>eR (de,cZ) (eV,eW) (fv aD aE aL aH k)) (3+1)=L):=(by show _=_;rw[dn.out,aW (by omega),qG]);have eO:af (om (fun k=>eR (de,cZ) (eV,eW) (fv aD aE aL aH k)) (3+1)=R):=(by show _=_;rw[bw.out,aW (by omega),qG]);go_wp2_with fail;go_round<;>first|exact⟨3+1,L,R,_,rfl,by omega,by omega,by omega,by omega,by omega,e9,eO,rfl,rfl,by go_num,aV.out⟩|(simp[intOf]<;>omega)
 ·
  obtain rfl:tR=4:=(by omega);have aO:af ((decide (L<4)&&decide (R<4))=f):=(by show _=_;rw[←IY.out,←IZ.out];exact bH.out);go_wp2_with fail
  all_goals
   go_ret;refine⟨dD (Bp ⟨fun h=>?_,fun h=>?_⟩ aO.out),b0.out.trans (c1.out.mono b0.out.size)⟩<;>simp only[jh,jR,wL] at h⊢<;>omega
end dd
