/- Lemmas. -/
import Derived.Test.YtkaiaijcieaofaaGreatDoorQ20
import Derived.Test.YtkaiaijcieaofaaGreatDoorQ9
set_option linter.all false
set_option maxRecDepth 100000
set_option maxHeartbeats 12800000
namespace Go.Proofs.YtkaiaijcieaofaaGreatDoor
abbrev Ft:=@Array.length_toList
abbrev Pz:=@Proofs.Tryz.func79
abbrev PA:=@Proofs.Tryz.ntmps79
abbrev A5:=@List.length_reverse
abbrev PB:=@List.reverse_cons
namespace c1
open Go.RowKit ef
open cB (C)
open gK (iO iN)
open mm (kk fW)
open AK (KH EG)
abbrev CW:TypeId:=133
abbrev H4:TypeId:=215
abbrev amL:TypeId:=216
def x'(res:Except Nat cy):Prop:=∀k,res=.error k→k≠0
variable{p:cy}{q:b7}
theorem abC:x' (Af p q):=by
 intro k h;unfold Af at h;split at h
 ·cases h
 ·split at h
  ·cases h;decide
  ·cases h
theorem abD{d:Bool}{s:dq}:x' (iv p d s):=fun k h=>by rcases abn h with rfl|rfl<;>decide
theorem abE{d:Bool}{s:dq}{t:gj}:x' (jU p d s t):=fun k h=>by rcases Pu h with rfl|rfl<;>decide
theorem abF{f:Bool→Bool}{t:gj}:∀{l:List iH} {p:cy},x' (mq f t l p)
 |[],_,k,h=>by cases h
 |o::l,p,k,h=>by
  unfold mq at h;split at h
  ·rename_i e he;injection h with h;subst h;exact abE _ he
  ·exact abF _ h
theorem abG:x' (xd p q):=by
 intro k h;unfold xd at h;split at h
 ·cases h;decide
 ·split at h
  ·cases h;decide
  ·split at h
   ·exact abE _ h
   ·exact abF _ h
variable{c:C}
theorem abH{r:b7}:x' (yJ p c q r):=by
 intro k h;unfold yJ at h;simp only at h
 repeat' split at h
 all_goals first|(cases h;decide)|cases h|exact abD _ h
variable{u v:Int}
theorem PC{n:Int}(h:fW n u=some v):-536870912≤v∧v≤536870912:=by
 unfold fW at h;split at h
 ·rename_i aE;injection h with h;rw[←h];exact aE.2.2
 ·cases h
theorem amM{l:ar}{i d:Int}{t:Bool}(h:kk l u i d t=some v):-536870912≤v∧v≤536870912:=by
 unfold kk at h;split at h
 ·exact PC h
 ·cases h
variable{w:aeo}
theorem dV.setAt{w0:aeo}{P:Nat}{R:afp}{m:Nat}{L:nm}{fu:Int}{cv ov:ada}{cx ox:aev}(h:dV w0 P R m L fu cv ov cx ox p w)(a b:Int):
  dV w0 P R m L fu cv ov cx ox {p with at_:=(a,b)} ((w.setCell (aj P 9) (I a)).setCell (aj P 10) (I b)):=by
 refine h.vl ((aK.set (a:=⟨P,9,none⟩) (fun aw=>aw rfl) _).trans (aK.set (a:=⟨P,10,none⟩) (fun aw=>aw rfl) _)) ?_ rfl rfl rfl rfl rfl;have:=dt (k:=P) (i:=10) (I b) (dt (k:=P) (i:=9) (I a) h.pl);exact this
def lK(x y i j:ar):Nat→List UInt8
 |0=>x
 |1=>y
 |2=>i
 |_=>j
def CX(p:cy):Nat→Int
 |0=>p.at_.1
 |1=>p.at_.2
 |_=>0
abbrev PD(cT:Nat→Int):Array Value:= #[I (cT 0),I (cT 1),I (cT 2),I (cT 3)]
variable{j:Nat}
theorem amN(cT:Nat→Int)(v:Int)(b6:j<4):(PD cT).setIfInBounds j (I v)=PD (fun i=>if i=j then v else cT i):=by rcases (show j=0∨j=1∨j=2∨j=3 by omega) with rfl|rfl|rfl|rfl<;>rfl
theorem amO(x y i l:ar)(b6:j<4)(w:aeo):(Instr.index amL (.agg #[aa ⟨x.toArray⟩,aa ⟨y.toArray⟩,aa ⟨i.toArray⟩,aa ⟨l.toArray⟩]) (I (j:Int))).run Tryz.prog w=.ok (aa ⟨(lK x y i l j).toArray⟩) w:=by rcases (show j=0∨j=1∨j=2∨j=3 by omega) with rfl|rfl|rfl|rfl<;>simp[Instr.index,k2 Tryz.underlying216,asIntOf,go_sem,part,lK]
variable{cT:Nat→Int}
theorem amP{k:Nat}(h:al w k (PD cT) H4)(b6:j<4):ak w k j (I (cT j)):=by rcases (show j=0∨j=1∨j=2∨j=3 by omega) with rfl|rfl|rfl|rfl<;>simp[World.cell?,h]
structure H5(w:aeo)(D:Nat)(o:Obj)(u kI fd:Int)(kJ:Bool)(cT:Nat→Int)(x:aeo):Prop where
 aM:an w w x
 bY:x.heap[D]?=some o
 sI:al x (D+1) (#[I u,I kI,I fd,U kJ]) CW
 vs:al x (D+1+1) (PD cT) H4
theorem H5.below{D:Nat}{o:Obj}{kI fd:Int}{kJ:Bool}{x y:aeo}(h:H5 w D o u kI fd kJ cT x)(ay:an x x y):H5 w D o u kI fd kJ cT y:=⟨h.aM.trans (ay.mono h.aM.size),ba h.bY ay,ba h.sI ay,ba h.vs ay⟩
def wO(p:cy)(c:C)(cT:Nat→Int)(j:Nat):Prop:=(∀i,i<j→j9 p (lK c.x c.y c.i c.j i) (CX p i)=some (cT i))∧∀i,j≤i→cT i=CX p i
def abI(xc:b7):Except Nat cy→Except Nat cy
 |.error e=>.error e
 |.ok q=>.ok {q with at_:=xc}
theorem abJ(hu:¬(p.unit=0∨p.formed=false))(h:wO p c cT 4):xe p c=abI (cT 0,cT 1) (if c.n=1 then yJ p c (cT 0,cT 1) (cT 2,cT 3) else if c.n=2 then Af p (cT 0,cT 1) else if c.n=3 then xd p (cT 0,cT 1) else .error 4):=by unfold xe;have aF:j9 p c.x p.at_.1=some (cT 0):=h.1 0 (by decide);have au:j9 p c.y p.at_.2=some (cT 1):=h.1 1 (by decide);have ax:j9 p c.i 0=some (cT 2):=h.1 2 (by decide);have aA:j9 p c.j 0=some (cT 3):=h.1 3 (by decide);rw[aN hu,aF,au,ax,aA];simp only;split<;>rename_i hx<;>rw[hx]<;>rfl
theorem amQ(b6:j<4)(hu:¬(p.unit=0∨p.formed=false))(h:wO p c cT j)(hn:j9 p (lK c.x c.y c.i c.j j) (CX p j)=none):xe p c=.error 5:=by
 unfold xe;rw[aN hu];rcases (show j=0∨j=1∨j=2∨j=3 by omega) with rfl|rfl|rfl|rfl
 ·have hn:j9 p c.x p.at_.1=none:=hn;rw[hn]
 ·have hn:j9 p c.y p.at_.2=none:=hn;have aF:j9 p c.x p.at_.1=some (cT 0):=h.1 0 (by decide);rw[aF,hn]
 ·have hn:j9 p c.i 0=none:=hn;have aF:j9 p c.x p.at_.1=some (cT 0):=h.1 0 (by decide);have au:j9 p c.y p.at_.2=some (cT 1):=h.1 1 (by decide);rw[aF,au,hn]
 ·have hn:j9 p c.j 0=none:=hn;have aF:j9 p c.x p.at_.1=some (cT 0):=h.1 0 (by decide);have au:j9 p c.y p.at_.2=some (cT 1):=h.1 1 (by decide);have ax:j9 p c.i 0=some (cT 2):=h.1 2 (by decide);rw[aF,au,ax,hn]
theorem wO.step(h:wO p c cT j)(aS:j9 p (lK c.x c.y c.i c.j j) (CX p j)=some v):wO p c (fun i=>if i=j then v else cT i) (j+1):=by
 refine⟨fun i hi=>?_,fun i hi=>?_⟩
 ·by_cases e:i=j
  ·subst e;simpa using aS
  ·simpa[e] using h.1 i (by omega)
 ·have e:¬i=j:=(by omega);simpa[e] using h.2 i (by omega)
theorem wO.same(h:wO p c cT j)(he:lK c.x c.y c.i c.j j=[]):wO p c cT (j+1):=by
 refine⟨fun i hi=>?_,fun i hi=>h.2 i (by omega)⟩;by_cases e:i=j
 ·subst e;unfold j9;rw[aW he,h.2 i (aP _)]
 ·exact h.1 i (by omega)
theorem wO.nU{p:cy}{c:C}{cT:Nat→Int}(h:wO p c cT 4)(bP:nU p.at_):∀i,i<4→-536870912≤cT i∧cT i≤536870912:=by
 intro i hi;have au:=h.1 i hi;unfold j9 at au;split at au
 ·injection au with au;rw[←au];unfold c1.nU at bP;rcases (show i=0∨i=1∨i=2∨i=3 by omega) with rfl|rfl|rfl|rfl<;>simp only[CX]<;>omega
 ·exact amM au
theorem amR(w0:aeo)(P:Nat)(p:cy)(c:C)(ca:Int)(bF bv:ada)(w:aeo)(H:af (jl w0 P p w))(hs:Fk p)(bP:nV p)(hJ:af (∀i,(lK c.x c.y c.i c.j i).length≤1000000000))(res:Except Nat cy)(c6:af (xe p c=res)):
  Calls Tryz.prog 82 #[ah P 0,iO c ca bF bv] w fun e w'=>gi w0 P res e w':=by
 obtain⟨R,m,L,fu,cv,ov,cx,ox,h⟩:=H.out;have H1:=ao h;have oZ:=ao bP;have PE:=ao hs;have cK:=ao (fun (_:c.n=1)=>c6);obtain⟨u,Fu⟩:=aq p.unit;obtain⟨kI,PF⟩:=aq p.kI;obtain⟨fd,PG⟩:=aq p.fd;obtain⟨kJ,Fv⟩:=aq p.kJ;obtain⟨sI,CY⟩:=aq p.formed;have wK:=ao Fu;have abK:af (∀s was,j9 p s was=if s=[] then some was else kk s u kI fd kJ):=fun s was=>by unfold j9;rw[Fu,PF,PG,Fv]
 obtain⟨jD,oe⟩:=aq c;have E':=ao oe;obtain⟨bU,cn,bY,cF,bg,c8,c9,cS,aR,cu,e1⟩:=c;rw[oe] at hJ c6 cK;show Calls _ _ #[ah P 0,.agg #[I ca,I bU,I cn,I bY,U cF,aa ⟨bg.toArray⟩,aa ⟨c8.toArray⟩,aa ⟨c9.toArray⟩,aa ⟨cS.toArray⟩,aa ⟨aR.toArray⟩,bF,bv]] w _;clear h hs bP H oe cK;have avx:=ao (Eq.refl p.at_);go_enter Tryz.func82,Tryz.ntmps82;go_upto_region 1 with fail;have hh:af (an w w (w.alloc (ai (#[I ca,I bU,I cn,I bY,U cF,aa ⟨bg.toArray⟩,aa ⟨c8.toArray⟩,aa ⟨c9.toArray⟩,aa ⟨cS.toArray⟩,aa ⟨aR.toArray⟩,bF,bv]) fm))):=bh _ _;have PH:af ((w.alloc (ai (#[I ca,I bU,I cn,I bY,U cF,aa ⟨bg.toArray⟩,aa ⟨c8.toArray⟩,aa ⟨c9.toArray⟩,aa ⟨cS.toArray⟩,aa ⟨aR.toArray⟩,bF,bv]) fm)).heap[w.heap.size]?=some (.cells #[I ca,I bU,I cn,I bY,U cF,aa ⟨bg.toArray⟩,aa ⟨c8.toArray⟩,aa ⟨c9.toArray⟩,aa ⟨cS.toArray⟩,aa ⟨aR.toArray⟩,bF,bv] fm)):=cR _ _;have CP:af ((w.alloc (ai (#[I ca,I bU,I cn,I bY,U cF,aa ⟨bg.toArray⟩,aa ⟨c8.toArray⟩,aa ⟨c9.toArray⟩,aa ⟨cS.toArray⟩,aa ⟨aR.toArray⟩,bF,bv]) fm)).heap.size=w.heap.size+1):=l' _;generalize w.alloc (.cells #[I ca,I bU,I cn,I bY,U cF,aa ⟨bg.toArray⟩,aa ⟨c8.toArray⟩,aa ⟨c9.toArray⟩,aa ⟨cS.toArray⟩,aa ⟨aR.toArray⟩,bF,bv] fm)=W at hh PH CP⊢;obtain⟨D,b4⟩:=aq w.heap.size;have rB:=ao b4;rw[b4] at PH CP⊢;have sJ:=ao (H1.out.below hh.out);have aV:ak W P 0 (I u):=by rw[←Fu];exact cell_of (i:=0) sJ.out.pl rfl
 have aT:ak W P 1 (I fu):=cell_of (i:=1) sJ.out.pl rfl;have c2:ak W P 2 (I kI):=by rw[←PF];exact cell_of (i:=2) sJ.out.pl rfl
 have c3:ak W P 3 (I fd):=by rw[←PG];exact cell_of (i:=3) sJ.out.pl rfl
 have cD:ak W P 4 (U kJ):=by rw[←Fv];exact cell_of (i:=4) sJ.out.pl rfl
 have c5:ak W P 5 (U sI):=by rw[←CY];exact cell_of (i:=5) sJ.out.pl rfl
 have bB:ak W P 9 (I p.at_.1):=cell_of (i:=9) sJ.out.pl rfl;have di:ak W P 10 (I p.at_.2):=cell_of (i:=10) sJ.out.pl rfl;have oE:P<W.heap.size:=lt_of_heap sJ.out.pl;by_cases fb:u=0∨sI=false
 ·have hF: .error 4=res:=(by rw[←c6.out];unfold xe;rw[Fu,CY,aW fb]);clear Fu PF PG Fv CY b4 c6;by_cases zF:u=0
  ·subst zF;go_wp2_with fail;go_ret;rw[←hF];exact⟨sJ.out.aM,rfl⟩
  ·have AO:(u==0)=false:=beq_eq_false_iff_ne.2 zF;obtain rfl:sI=false:=fb.resolve_left zF;go_wp2_with fail;go_ret;rw[←hF];exact⟨sJ.out.aM,rfl⟩
 have AO:(u==0)=false:=beq_eq_false_iff_ne.2 fun h=>fb (.inl h);have abL:af (¬(p.unit=0∨p.formed=false)):=by show ¬_;rw[Fu,CY];exact fb
 obtain rfl:sI=true:=by cases sI;exact absurd (.inr rfl) fb;rfl
 clear Fu PF PG Fv CY fb b4 sJ;go_upto_region 5 with fail;have dy:af (an W W (W.alloc (ai (#[I u,I kI,I fd,U kJ]) CW))):=bh _ _;have fp:af ((W.alloc (ai (#[I u,I kI,I fd,U kJ]) CW)).heap[D+1]?=some (.cells #[I u,I kI,I fd,U kJ] CW)):=by show _=_;rw[←CP.out];exact cR _ _
 have gu:af ((W.alloc (ai (#[I u,I kI,I fd,U kJ]) CW)).heap.size=D+1+1):=by show _=_;rw[←CP.out];exact l' _
 generalize W.alloc (.cells #[I u,I kI,I fd,U kJ] CW)=eE at dy fp gu⊢;rw[CP.out];have d9:=bD dy.out bB;have d10:=bD dy.out di;have amS:P<eE.heap.size:=by have:=dy.out.size;omega
 clear aV aT c2 c3 cD c5 bB di oE;go_region;have oJ:af (H5 w D (ai (#[I ca,I bU,I cn,I bY,U cF,aa ⟨bg.toArray⟩,aa ⟨c8.toArray⟩,aa ⟨c9.toArray⟩,aa ⟨cS.toArray⟩,aa ⟨aR.toArray⟩,bF,bv]) fm) u kI fd kJ (CX p) (eE.alloc (ai (#[I p.at_.1,I p.at_.2,I 0,I 0]) H4)).drew):=by have cj:an eE eE ((eE.alloc (ai (#[I p.at_.1,I p.at_.2,I 0,I 0]) H4)).drew):=(bh _ _).drew;refine⟨(hh.out.trans (dy.out.mono hh.out.size)).trans (cj.mono (cd hh.out.size dy.out.size)),ba (ba PH.out dy.out) cj,ba fp.out cj,?_⟩;have:=cR eE (ai (#[I p.at_.1,I p.at_.2,I 0,I 0]) H4);rw[gu.out] at this;exact this
 rw[gu.out];generalize (eE.alloc (ai (#[I p.at_.1,I p.at_.2,I 0,I 0]) H4)).drew=dZ at oJ⊢;clear hh PH CP dy fp gu d9 d10 amS;have rr:=cell_of (i:=6) oJ.out.bY rfl;have pB:=cell_of (i:=7) oJ.out.bY rfl;have tk:=cell_of (i:=8) oJ.out.bY rfl;have a9:=cell_of (i:=9) oJ.out.bY rfl;have Fq:af (∀i,lK jD.x jD.y jD.i jD.j i=lK c8 c9 cS aR i):=fun i=>by rw[←E'.out]
 go_wp2_with fail;clear rr pB tk a9
 go_loopw [54] (fun i wr=>∃(j:Nat) (cT:Nat→Int) (aL:aeo),aL=wr∧j≤4∧i=I j∧af (H5 w D (ai (#[I ca,I bU,I cn,I bY,U cF,aa ⟨bg.toArray⟩,aa ⟨c8.toArray⟩,aa ⟨c9.toArray⟩,aa ⟨cS.toArray⟩,aa ⟨aR.toArray⟩,bF,bv]) fm) u kI fd kJ cT aL)∧af (wO p jD cT j)) (fun i _=>4 -(intOf i).toNat)
 case atStart=>exact⟨0,CX p,_,rfl,by omega,rfl,oJ.out,fun i hi=>absurd hi (lS _),fun i _=>rfl⟩
 case round=>
 obtain⟨j,cT,aL,rfl,b6,rfl,bE,fy⟩:=hrel;clear oJ;by_cases Lz:j<4
 ·have avy:(j:Int)<4:=(by omega);have qG:(0:Int)≤(j:Int):=(by omega);have AT:=fun x=>amO c8 c9 cS aR Lz x;have hlen:=hJ.out j;have LA:=ao (UW (lK c8 c9 cS aR j));rw[Fq.out] at hlen;obtain⟨S,hS⟩:∃S:Ua,(⟨(lK c8 c9 cS aR j).toArray⟩:Ua)=S:=⟨_,rfl⟩;have r8:af (S.data.toList=lK c8 c9 cS aR j):=(by show _=_;rw[←hS]);rw[hS] at AT LA;clear hS;by_cases H6:lK c8 c9 cS aR j=[]
  ·have ya:S.toList.isEmpty=true:=LA.out.trans (gx H6);have H7:=ao (fy.out.same ((Fq.out j).trans H6));clear hlen;go_wp2_with fail;go_round<;>first|exact⟨j+1,cT,_,rfl,by omega,by go_num,bE.out,H7.out⟩|(simp[intOf]<;>omega)
  ·have ya:S.toList.isEmpty=false:=LA.out.trans (fJ H6);have sI:=bE.out.sI;have f0:=cell_of (i:=0) sI rfl;have f1:=cell_of (i:=1) sI rfl;have f2:=cell_of (i:=2) sI rfl;have f3:=cell_of (i:=3) sI rfl;have amT:S.size≤9223372036854775807:=(by have au:=fS List.length r8.out;have ax:S.data.toList.length=S.size:=(by rw[Ft];rfl);omega);obtain⟨o,a1⟩:=aq (kk (lK c8 c9 cS aR j) u kI fd kJ);have abM:j9 p (lK jD.x jD.y jD.i jD.j j) (CX p j)=o:=(by rw[abK.out,Fq.out,aN H6];exact a1);have cM:af ((kk (lK c8 c9 cS aR j) u kI fd kJ).getD 0=o.getD 0∧(kk (lK c8 c9 cS aR j) u kI fd kJ).isSome=o.isSome):=(by show _∧_;rw[a1];exact⟨rfl,rfl⟩);have abN:=ao abM;clear sI a1 abM hlen;go_wp2_with fail;with_reducible refine (KH S (lK c8 c9 cS aR j) r8 u kI fd kJ _ _ cM amT _).mono ?_
   rintro e br ⟨rfl,dX⟩;have PI:=ao (bE.out.below dX);clear f0 f1 f2 f3 dX cM;cases o with
   |none=>
    have hF: .error 5=res:=(by rw[←c6.out];exact (amQ Lz abL.out fy.out abN.out).symm);go_wp2_with fail;go_ret;rw[←hF];exact⟨H1.out.aM.trans (PI.out.aM.mono H1.out.aM.size),rfl⟩
   |some v=>
    have H7:=ao (fy.out.step abN.out);have v0:=amP PI.out.vs Lz;have amU:=dc PI.out.vs j;have avz:j<4:=Lz;go_wp2_with fail;have kW:af (H5 w D (ai (#[I ca,I bU,I cn,I bY,U cF,aa ⟨bg.toArray⟩,aa ⟨c8.toArray⟩,aa ⟨c9.toArray⟩,aa ⟨cS.toArray⟩,aa ⟨aR.toArray⟩,bF,bv]) fm) u kI fd kJ (fun i=>if i=j then v else cT i) (br.setCell (aj (D+1+1) j) (I v))):=(by have h:=PI.out;refine⟨h.aM.setCell (p:=⟨D+1+1,j,none⟩) (by show _≤D+1+1;have:=rB.out;omega) _,(lT (by omega)).trans h.bY,(lT (by omega)).trans h.sI,?_⟩;have:=dt (i:=j) (I v) h.vs;rw[amN cT v Lz] at this;exact this);go_round<;>first|exact⟨j+1,_,_,rfl,by omega,by go_num,kW.out,H7.out⟩|(simp[intOf]<;>omega)
 ·have kM:j=4:=(by omega);subst kM;have gH:af (an w w aL):=bE.out.aM;have fC:=fy.out.nU oZ.out.at_;obtain⟨q2,gY⟩:=aq (if cn=1 then yJ p jD (cT 0,cT 1) (cT 2,cT 3) else if cn=2 then Af p (cT 0,cT 1) else if cn=3 then xd p (cT 0,cT 1) else .error 4);have aJ:af (abI (cT 0,cT 1) q2=res):=by show _=_;rw[←c6.out,abJ abL.out fy.out,←gY,←E'.out]
  have B8:af (x' q2):=by
   show x' _;rw[←gY];split
   ·exact abH
   ·split
    ·exact abC
    ·split
     ·exact abG
     ·intro k h;cases h;decide
  have LB:af (jl w0 P p w):=⟨_,_,_,_,_,_,_,_,H1.out⟩;have i0:=fC 0 (by decide);have i1:=fC 1 (by decide);have i2:=fC 2 (by decide);have i3:=fC 3 (by decide);have amV:af (∀Z,an w w Z→cn=1→Calls Tryz.prog 123 #[ah P 0,.agg #[I ca,I bU,I cn,I bY,U cF,aa ⟨bg.toArray⟩,aa ⟨c8.toArray⟩,aa ⟨c9.toArray⟩,aa ⟨cS.toArray⟩,aa ⟨aR.toArray⟩,bF,bv],.agg #[I (cT 0),I (cT 1)],.agg #[I (cT 2),I (cT 3)]] Z fun e w'=>gi w0 P q2 e w'∧aK (fun k=>w.heap.size≤k) Z w'):=(by intro Z cN hn;have au:=amE w0 P p jD ca bF bv (cT 0) (cT 1) (cT 2) (cT 3) w Z LB cN PE.out oZ.out ⟨i0.1,i0.2,i1.1,i1.2⟩ ⟨i2.1,i2.2,i3.1,i3.2⟩ q2 (by show _=_;rw[←gY,aW hn]);rw[←E'.out] at au;exact au);have gB:af (∀Z,an w w Z→cn=2→Calls Tryz.prog 124 #[ah P 0,.agg #[I (cT 0),I (cT 1)]] Z fun e w'=>gi w0 P q2 e w'∧aK (fun k=>w.heap.size≤k) Z w'):=fun Z cN hn=>amn w0 P p (cT 0) (cT 1) w Z LB cN PE.out q2 (by show _=_;rw[←gY,aN (by omega),aW hn]);have yb:af (∀Z,an w w Z→cn=3→Calls Tryz.prog 125 #[ah P 0,.agg #[I (cT 0),I (cT 1)]] Z fun e w'=>gi w0 P q2 e w'∧aK (fun k=>w.heap.size≤k) Z w'):=fun Z cN hn=>amy w0 P p (cT 0) (cT 1) w Z LB cN oZ.out (by show _∧_;unfold e5;omega) q2 (by show _=_;rw[←gY,aN (by omega),aN (by omega),aW hn]);have cc:af (cn≠1→cn≠2→cn≠3→res=.error 4):=(fun au ax aA=>by rw[aN au,aN ax,aN aA] at gY;rw[←aJ.out,←gY];rfl);clear gY fC i0 i1 i2 i3;have m0:=cell_of (i:=0) bE.out.bY rfl;have m1:=cell_of (i:=1) bE.out.bY rfl;have m2:=cell_of (i:=2) bE.out.bY rfl;have m3:=cell_of (i:=3) bE.out.bY rfl;have m4:=cell_of (i:=4) bE.out.bY rfl;have m5:=cell_of (i:=5) bE.out.bY rfl;have m6:=cell_of (i:=6) bE.out.bY rfl;have m7:=cell_of (i:=7) bE.out.bY rfl;have m8:=cell_of (i:=8) bE.out.bY rfl;have m9:=cell_of (i:=9) bE.out.bY rfl;have m10:=cell_of (i:=10) bE.out.bY rfl;have m11:=cell_of (i:=11) bE.out.bY rfl;have v0:=cell_of (i:=0) bE.out.vs rfl;have v1:=cell_of (i:=1) bE.out.vs rfl;go_upto_region 17 with fail;have kW:=ao (bE.out.below (bh aL (ai (#[I (cT 0),I (cT 1)]) de)));have jo:af ((aL.alloc (ai (#[I (cT 0),I (cT 1)]) de)).heap[aL.heap.size]?=some (.cells #[I (cT 0),I (cT 1)] de)):=cR _ _;have abO:w.heap.size≤aL.heap.size:=gH.out.size;clear m0 m1 m2 m3 m4 m5 m6 m7 m8 m9 m10 m11 v0 v1;generalize aL.alloc (.cells #[I (cT 0),I (cT 1)] de)=nr at kW jo⊢;obtain⟨T,dm⟩:=aq aL.heap.size;rw[dm] at jo abO⊢;clear dm bE gH;have m0:=cell_of (i:=0) kW.out.bY rfl;have m1:=cell_of (i:=1) kW.out.bY rfl;have m2:=cell_of (i:=2) kW.out.bY rfl;have m3:=cell_of (i:=3) kW.out.bY rfl;have m4:=cell_of (i:=4) kW.out.bY rfl;have m5:=cell_of (i:=5) kW.out.bY rfl;have m6:=cell_of (i:=6) kW.out.bY rfl;have m7:=cell_of (i:=7) kW.out.bY rfl;have m8:=cell_of (i:=8) kW.out.bY rfl;have m9:=cell_of (i:=9) kW.out.bY rfl;have m10:=cell_of (i:=10) kW.out.bY rfl;have m11:=cell_of (i:=11) kW.out.bY rfl;have v2:=cell_of (i:=2) kW.out.vs rfl;have v3:=cell_of (i:=3) kW.out.vs rfl;obtain⟨t0,t1⟩:=CQ jo.out;have gH:af (an w w nr):=kW.out.aM;by_cases aB:cn=1∨cn=2∨cn=3
  ·rcases aB with rfl|rfl|rfl
   all_goals
    go_wp2_with fail
    first
     |with_reducible refine (amV.out _ gH.out (by trivial)).mono ?_
     |with_reducible refine (gB.out _ gH.out (by trivial)).mono ?_
     |with_reducible refine (yb.out _ gH.out (by trivial)).mono ?_
    rintro e hV ⟨LC,U0⟩;have oH:=ao (U0.get abO jo.out);clear m0 m1 m2 m3 m4 m5 m6 m7 m8 m9 m10 m11 v2 v3 t0 t1;cases q2 with
    |error k=>
     have jY:((k:Int)==0)=false:=(by have:=B8.out k rfl;rw[fO];omega);obtain rfl:=LC.err rfl;have mS:af (an w0 w0 hV):=LC.1;have hF: .error k=res:=aJ.out;clear LC U0;go_wp2_with fail;go_ret;rw[←hF];exact⟨mS.out,rfl⟩
    |ok q=>
     obtain⟨rfl,Fw⟩:=LC.get rfl;have hF: .ok {q with at_:=(cT 0,cT 1)}=res:=aJ.out;clear LC U0;obtain⟨avA,m7,avB,avC,avD,avE,avF,avG,cY⟩:=Fw;have ua:=ao cY;clear cY;obtain⟨t0,t1⟩:=CQ oH.out;have A6:ak hV P 9 (I q.at_.1):=cell_of (i:=9) ua.out.pl rfl;have tZ:ak hV P 10 (I q.at_.2):=cell_of (i:=10) ua.out.pl rfl;have g9:=dc ua.out.pl 9;have g10:=dc ua.out.pl 10;go_wp2_with fail;go_ret;rw[←hF];exact gi.nR rfl (ua.out.setAt (cT 0) (cT 1))
  ·have au:(cn==1)=false:=beq_eq_false_iff_ne.2 fun h=>aB (.inl h);have ax:(cn==2)=false:=beq_eq_false_iff_ne.2 fun h=>aB (.inr (.inl h));have aA:(cn==3)=false:=beq_eq_false_iff_ne.2 fun h=>aB (.inr (.inr h));have hF:=cc.out (fun h=>aB (.inl h)) (fun h=>aB (.inr (.inl h))) (fun h=>aB (.inr (.inr h)));go_wp2_with fail;go_ret;rw[hF];exact⟨H1.out.aM.trans (gH.out.mono H1.out.aM.size),rfl⟩
end c1
namespace c1
open Go.RowKit ef
open cB (C)
open gK (iO iN dd)
abbrev fv(ca bU cn bY:Int)(cF:Bool)(bg c8 c9 cS aR:ar)(bF bv:ada):Array Value:= #[I ca,I bU,I cn,I bY,U cF,aa ⟨bg.toArray⟩,aa ⟨c8.toArray⟩,aa ⟨c9.toArray⟩,aa ⟨cS.toArray⟩,aa ⟨aR.toArray⟩,bF,bv]
theorem CI(B:Nat)(c:C)(ca:Int)(q:Ja)(k:Nat)(bv:ada)(i:Nat)(w:aeo)(hn:af (dd B w q c.bX))(az:c.bX.length≤1000000000)(hi:i≤10)(v:Int)(aS:af (jB c i=v)):
  Calls Tryz.prog 119 #[iO c ca (ad q c.bX.length k) bv,I (i:Int)] w fun e w'=>e=ab (I v)∧an w w w':=by
 obtain⟨bU,cn,bY,cF,bg,c8,c9,cS,aR,cu,e1⟩:=c;obtain⟨n,hU⟩:=aq cu.length;have bd:=ao hU;have cM:af (cu.getD i 0=v):=aS;have PJ:af (dd B w q cu):=hn;have hc:n≤1000000000:=by rw[←hU];exact az
 show Calls _ _ #[.agg #[I ca,I bU,I cn,I bY,U cF,aa ⟨bg.toArray⟩,aa ⟨c8.toArray⟩,aa ⟨c9.toArray⟩,aa ⟨cS.toArray⟩,aa ⟨aR.toArray⟩,ad q cu.length k,bv],I (i:Int)] w _;rw[hU];clear hn az aS hU;go_enter Tryz.func119,Tryz.ntmps119;go_upto_region 1 with fail;have aH:af (an w w (w.alloc (ai (fv ca bU cn bY cF bg c8 c9 cS aR (ad q n k) bv) fm))):=bh _ _;have b9:af ((w.alloc (ai (fv ca bU cn bY cF bg c8 c9 cS aR (ad q n k) bv) fm)).heap[w.heap.size]?=some (.cells (fv ca bU cn bY cF bg c8 c9 cS aR (ad q n k) bv) fm)):=cR _ _;generalize w.alloc (.cells (fv ca bU cn bY cF bg c8 c9 cS aR (ad q n k) bv) fm)=W at aH b9⊢;obtain⟨D,b4⟩:=aq w.heap.size;have rB:=ao b4;rw[b4] at b9⊢;have d10:ak W D 10 (ad q n k):=cell_of (i:=10) b9.out rfl;clear b4;by_cases bm:i<n
 ·have fD:(i:Int)<(n:Int):=(by omega);have kf:(0:Int)≤(i:Int):=(by omega);obtain⟨b,o,cs,aG,_,aE,aB⟩:=PJ.out (by rw[bd.out];omega);subst aG;have PK:ak W b (o+i) (I v):=(by have au:=aB i (by rw[bd.out];exact bm);have ax:cu[i]'(by rw[bd.out];exact bm)=v:=(by rw[←cM.out,zl,iW (by rw[bd.out];exact bm)];rfl);rw[ax] at au;have aA:=ba aE aH.out;simp[World.cell?,aA,au]);clear aB aE;go_wp2_with fail;go_ret;exact⟨rfl,aH.out⟩
 ·have fD:¬(i:Int)<(n:Int):=(by omega);have tI:v=0:=(by rw[←cM.out,zl,NL (by rw[bd.out];omega)];rfl);subst tI;go_wp2_with fail;go_ret;exact⟨rfl,aH.out⟩
theorem dV.PL{w0:aeo}{P:Nat}{R:afp}{m:Nat}{L:nm}{fu:Int}{cv ov:ada}{cx ox:aev}{p:cy}{w w':aeo}(h:dV w0 P R m L fu cv ov cx ox p w)(a b:Bool)(hw:w'=((w.setCell (aj P 14) (U a)).setCell (aj P 15) (U b)).drew):
  dV w0 P R m L fu cv ov cx ox {p with cz:={p.cz with bx:=a,bO:=b}} w':=by
 subst hw;refine h.vl (((aK.set (a:=⟨P,14,none⟩) (fun aw=>aw rfl) _).trans (aK.set (a:=⟨P,15,none⟩) (fun aw=>aw rfl) _)).trans (aK.c4 (Below.refl _ _).drew)) ?_ rfl rfl rfl rfl rfl;have:=dt (k:=P) (i:=15) (U b) (dt (k:=P) (i:=14) (U a) h.pl);exact this
theorem amW(w0:aeo)(P:Nat)(p:cy)(B:Nat)(c:C)(ca:Int)(q:Ja)(dS:Nat)(bv:ada)(w:aeo)(H:af (jl w0 P p w))(hn:af (dd B w q c.bX))(az:c.bX.length≤1000000000)(ay:∀x∈c.bX,-4611686018427387904≤x∧x≤4611686018427387904)(aw:c.k=2∨c.k=4∨c.k=6∨c.k=15∨c.k=16∨c.k=17)(res:Except Nat cy)(c6:af (JA p c=res)):
  Calls Tryz.prog 80 #[ah P 0,iO c ca (ad q c.bX.length dS) bv] w fun e w'=>gi w0 P res e w':=by
 obtain⟨R,m,L,fu,cv,ov,cx,ox,h⟩:=H.out;have H1:=ao h;have Fx:af (∀Z,an w w Z→Calls Tryz.prog 119 #[iO c ca (ad q c.bX.length dS) bv,I (0:Nat)] Z fun e w'=>e=ab (I (jB c 0))∧an Z Z w'):=fun Z cN=>CI B c ca q dS bv 0 Z (hn.out.below cN) az (by decide) _ (Eq.refl _)
 have iX:-4611686018427387904≤jB c 0∧jB c 0≤4611686018427387904:=by
  unfold jB;rw[zl];by_cases aF:0<c.bX.length
  ·rw[iW aF];exact ay _ (k3 _)
  ·rw[NL (by omega)];decide
 obtain ⟨oA,wv⟩:=aq (jB c 0);have amX:=ao wv;rw [wv] at Fx iX;obtain ⟨bU,cn,bY,cF,bg,c8,c9,cS,aR,cu,e1⟩:=c;have A7:af ((if bU=2 then .ok {p with mode:=cn}
 else if bU=4 then .ok {p with DX:=true}
 else if bU=6 then (if (p.jC cn).isSome=false then .error 4 else .ok {p with pt:=cn})
 else if bU=15 then .ok {p with fe:=cF}
 else if bU=16 then .ok {p with cz:={p.cz with bx:=decide (cn=1)|| decide (cn=3),bO:=decide (cn=2)|| decide (cn=3)}}
 else if oA.tmod 90000000≠0 then .error 7 else .ok {p with cz:={p.cz with q:=(oA.tdiv 90000000).tmod 4}})=res):=by show _=_;rw[←c6.out,←wv];rfl
 obtain⟨n,hU⟩:=aq cu.length;have abP:af (∀Z,an w w Z→Calls Tryz.prog 119 #[.agg (fv ca bU cn bY cF bg c8 c9 cS aR (ad q n dS) bv),I 0] Z fun e w'=>e=ab (I oA)∧an Z Z w'):=by rw[←hU];exact Fx
 show Calls _ _ #[ah P 0,.agg #[I ca,I bU,I cn,I bY,U cF,aa ⟨bg.toArray⟩,aa ⟨c8.toArray⟩,aa ⟨c9.toArray⟩,aa ⟨cS.toArray⟩,aa ⟨aR.toArray⟩,ad q cu.length dS,bv]] w _;rw[hU];have sK:bU=2∨bU=4∨bU=6∨bU=15∨bU=16∨bU=17:=aw;clear h H hn az ay aw c6 Fx wv hU amX;go_enter Tryz.func80,Tryz.ntmps80;go_upto_region 1 with fail;have bp:=ao (H1.out.below (bh w (ai (fv ca bU cn bY cF bg c8 c9 cS aR (ad q n dS) bv) fm)));have aH:af (an w w (w.alloc (ai (fv ca bU cn bY cF bg c8 c9 cS aR (ad q n dS) bv) fm))):=bh _ _;have b9:af ((w.alloc (ai (fv ca bU cn bY cF bg c8 c9 cS aR (ad q n dS) bv) fm)).heap[w.heap.size]?=some (.cells (fv ca bU cn bY cF bg c8 c9 cS aR (ad q n dS) bv) fm)):=cR _ _;generalize w.alloc (.cells (fv ca bU cn bY cF bg c8 c9 cS aR (ad q n dS) bv) fm)=W at bp aH b9⊢;obtain⟨D,b4⟩:=aq w.heap.size;rw[b4] at b9⊢;clear b4 H1;have d1:ak W D 1 (I bU):=cell_of (i:=1) b9.out rfl;have d2:ak W D 2 (I cn):=cell_of (i:=2) b9.out rfl;have d4:ak W D 4 (U cF):=cell_of (i:=4) b9.out rfl;rcases sK with rfl|rfl|rfl|rfl|rfl|rfl
 ·have hF: .ok {p with mode:=cn}=res:=A7.out;have b:ak W P (7+4) (I p.mode):=cell_of (i:=11) bp.out.pl rfl;have g:=dc bp.out.pl 11;go_wp2_with fail;go_ret;rw[←hF];exact gi.nR rfl (bp.out.vl (aK.set (a:=⟨P,11,none⟩) (fun aw=>aw rfl) _) (by have:=dt (k:=P) (i:=11) (I cn) bp.out.pl;exact this) rfl rfl rfl rfl rfl)
 ·have hF: .ok {p with DX:=true}=res:=A7.out;have b:ak W P 12 (U p.DX):=cell_of (i:=12) bp.out.pl rfl;have g:=dc bp.out.pl 12;go_wp2_with fail;go_ret;rw[←hF];exact gi.nR rfl (bp.out.vl (aK.set (a:=⟨P,12,none⟩) (fun aw=>aw rfl) _) (by have:=dt (k:=P) (i:=12) (U true) bp.out.pl;exact this) rfl rfl rfl rfl rfl)
 ·obtain⟨v,jZ,aS⟩:=bp.out.mp.look cn;have cK:af ((if (p.jC cn).isSome=false then .error 4 else .ok {p with pt:=cn})=res):=A7.out;obtain⟨b,ay⟩:=aq ((p.jC cn).isSome);rw[ay] at jZ cK
  obtain⟨dH,c0,ee,y3,y4,j1,y6,h6,j2,cw,bl,bI,bJ,dT,eG,fT,n3,aY,a6,cV,U1⟩:∃(dH c0 ee y3 y4 j1 y6 h6 j2:Int) (cw bl:Bool) (bI bJ dT:Ja) (eG fT n3 aY a6 cV:Nat),v=.agg #[I dH,I c0,I ee,I y3,I y4,I j1,I y6,I h6,ad bI eG aY,ad bJ fT a6,I j2,U cw,U bl,ad dT n3 cV]:=by
   cases ha:p.jC cn with
   |none=>rw[ha] at aS;exact⟨_,_,_,_,_,_,_,_,_,_,_,_,_,_,_,_,_,_,_,_,aS⟩
   |some a=>
    rw[ha] at aS;obtain⟨pl,cl,pp,cp,gd,co,au,_⟩:=aS;exact⟨_,_,_,_,_,_,_,_,_,_,_,_,_,_,_,_,_,_,_,_,au⟩
  subst U1;have cX:ak W P 6 (.map (some m)):=cell_of (i:=6) bp.out.pl rfl;have oE:=lt_of_heap bp.out.pl;have rz:=lt_of_heap b9.out;have vp:m<W.heap.size:=(by obtain⟨_,_,hm⟩:=bp.out.mp.map;exact lt_of_heap hm);have lq:=jZ W.drew rfl;have hc:=jZ (W.alloc (ai (#[I 0,I 0,I 0,I 0,I 0,I 0,I 0,I 0,J 0,J 0,I 0,U false,U false,J 0]) j6)).drew (qL _ _ _ vp);clear jZ aS ay A7;go_upto_region 7 with fail;go_cut [6] (fun a cq=>a=U b∧(W.alloc (ai (#[I dH,I c0,I ee,I y3,I y4,I j1,I y6,I h6,ad bI eG aY,ad bJ fT a6,I j2,U cw,U bl,ad dT n3 cV]) j6)).drew=cq)
  case first=>
   go_region;all_goals go_wp2_with fail
   all_goals go_meet
   all_goals exact⟨rfl,rfl⟩
  case rest=>
   obtain⟨rfl,rfl⟩:=hcut;have dO:af (an W W ((W.alloc (ai (#[I dH,I c0,I ee,I y3,I y4,I j1,I y6,I h6,ad bI eG aY,ad bJ fT a6,I j2,U cw,U bl,ad dT n3 cV]) j6)).drew)):=(bh _ _).drew;clear lq hc cX oE rz vp;generalize (W.alloc (ai (#[I dH,I c0,I ee,I y3,I y4,I j1,I y6,I h6,ad bI eG aY,ad bJ fT a6,I j2,U cw,U bl,ad dT n3 cV]) j6)).drew=dZ at dO⊢;have bW:=ao (bp.out.below dO.out);have iQ:=ao (ba b9.out dO.out);cases b with
   |false=>
    have hF: .error 4=res:=cK.out;clear d1 d2 d4;go_wp2_with fail;go_ret;rw[←hF];exact⟨bW.out.aM,rfl⟩
   |true=>
    have hF: .ok {p with pt:=cn}=res:=cK.out;have d2:ak dZ D 2 (I cn):=cell_of (i:=2) iQ.out rfl;have c7:ak dZ P 7 (I p.pt):=cell_of (i:=7) bW.out.pl rfl;have g7:=dc bW.out.pl 7;go_wp2_with fail;go_ret;rw[←hF];exact gi.nR rfl (bW.out.vl (aK.set (a:=⟨P,7,none⟩) (fun aw=>aw rfl) _) (by have:=dt (k:=P) (i:=7) (I cn) bW.out.pl;exact this) rfl rfl rfl rfl rfl)
 ·have hF: .ok {p with fe:=cF}=res:=A7.out;have b:ak W P 13 (U p.fe):=cell_of (i:=13) bp.out.pl rfl;have g:=dc bp.out.pl 13;go_wp2_with fail;go_ret;rw[←hF];exact gi.nR rfl (bp.out.vl (aK.set (a:=⟨P,13,none⟩) (fun aw=>aw rfl) _) (by have:=dt (k:=P) (i:=13) (U cF) bp.out.pl;exact this) rfl rfl rfl rfl rfl)
 ·have hF: .ok {p with cz:={p.cz with bx:=decide (cn=1)|| decide (cn=3),bO:=decide (cn=2)|| decide (cn=3)}}=res:=A7.out;have abr:ak W P 14 (U p.cz.bx):=cell_of (i:=14) bp.out.pl rfl;have abt:ak W P 15 (U p.cz.bO):=cell_of (i:=15) bp.out.pl rfl;have g14:=dc bp.out.pl 14;have g15:=dc bp.out.pl 15;have LD:P≠D:=g' bp.out.pl b9.out (by decide);clear A7;go_upto_region 14 with fail;by_cases au:cn=1
  ·subst au;go_region
   all_goals
    go_wp2_with fail;go_ret;rw[←hF];exact gi.nR rfl (bp.out.PL true false rfl)
  by_cases ax:cn=2
  ·subst ax;go_region
   all_goals
    go_wp2_with fail;go_ret;rw[←hF];exact gi.nR rfl (bp.out.PL false true rfl)
  by_cases aA:cn=3
  ·subst aA;go_region
   all_goals
    go_wp2_with fail;go_ret;rw[←hF];exact gi.nR rfl (bp.out.PL true true rfl)
  ·have dP:(cn==1)=false:=beq_eq_false_iff_ne.2 au;have bM:(cn==2)=false:=beq_eq_false_iff_ne.2 ax;have fk:(cn==3)=false:=beq_eq_false_iff_ne.2 aA;have CM: .ok {p with cz:={p.cz with bx:=false,bO:=false}}=res:=(by rw[←hF];simp[au,ax,aA]);go_region
   all_goals
    go_wp2_with fail;go_ret;rw[←CM];exact gi.nR rfl (bp.out.PL false false rfl)
 ·have cK:af ((if oA.tmod 90000000≠0 then .error 7 else .ok {p with cz:={p.cz with q:=(oA.tdiv 90000000).tmod 4}})=res):=A7.out;clear A7;have d0:=cell_of (i:=0) b9.out rfl;have d3:=cell_of (i:=3) b9.out rfl;have d5:=cell_of (i:=5) b9.out rfl;have d6:=cell_of (i:=6) b9.out rfl;have d7:=cell_of (i:=7) b9.out rfl;have d8:=cell_of (i:=8) b9.out rfl;have d9:=cell_of (i:=9) b9.out rfl;have d10:=cell_of (i:=10) b9.out rfl;have d11:=cell_of (i:=11) b9.out rfl;go_wp2_with fail;with_reducible refine (abP.out _ aH.out).mono ?_
  rintro e dZ ⟨rfl,eF⟩;have bW:=ao (bp.out.below eF);clear d0 d1 d2 d3 d4 d5 d6 d7 d8 d9 d10 d11 eF abP;obtain⟨r,hr⟩:=aq (oA.tmod 90000000);have bP:(90000000:Int)≠0:=(by decide);by_cases tz:r=0
  ·subst tz;obtain⟨v,aS⟩:=aq ((oA.tdiv 90000000).tmod 4);have hF: .ok {p with cz:={p.cz with q:=v}}=res:=(by rw[←cK.out,←aS,hr];rfl);have abu:ak dZ P 16 (I p.cz.q):=cell_of (i:=16) bW.out.pl rfl;have g16:=dc bW.out.pl 16;have hw:ae (oA.tdiv 90000000)=oA.tdiv 90000000:=gw _ (by have bj:=Int.natAbs_tdiv_le_natAbs oA 90000000;omega);go_wp2_with fail;go_ret;rw[←hF];exact gi.nR rfl (bW.out.vl (aK.set (a:=⟨P,16,none⟩) (fun aw=>aw rfl) _) (by have:=dt (k:=P) (i:=16) (I v) bW.out.pl;exact this) rfl rfl rfl rfl rfl)
  ·have hF: .error 7=res:=(by rw[←cK.out,hr,aW tz]);have GS:(r !=0)=true:=(by rw[bne_iff_ne];exact tz);go_wp2_with fail;go_ret;rw[←hF];exact⟨bW.out.aM,rfl⟩
end c1
namespace c1
open Go.RowKit ef
open cB (C)
open gK (iO iN dd)
open mm (kk s9)
open AK (KH EG y8 OJ)
theorem amY(w0:aeo)(P:Nat)(p:cy)(ca cn bY:Int)(cF:Bool)(bg c8 c9 cS aR:ar)(bF bv:ada)(w:aeo)(H:af (jl w0 P p w))(res:Except Nat cy)(c6:af ((if p.formed=true∨s9 1 cn bY=false then .error 4 else .ok {p with kI:=cn,fd:=bY,kJ:=cF,formed:=true})=res)):
  Calls Tryz.prog 79 #[ah P 0,.agg (fv ca 8 cn bY cF bg c8 c9 cS aR bF bv)] w fun e w'=>gi w0 P res e w':=by
 obtain⟨R,m,L,fu,cv,ov,cx,ox,h⟩:=H.out;have H1:=ao h;obtain⟨b,ay⟩:=aq (s9 1 cn bY);have mL:=ao ay;obtain⟨f,hf⟩:=aq p.formed;have amZ:=ao hf;have uS:af ((if f=true∨b=false then .error 4 else .ok {p with kI:=cn,fd:=bY,kJ:=cF,formed:=true})=res):=by show _=_;rw[←c6.out,ay,hf]
 clear h H ay hf c6;go_enter Pz,PA;go_upto_region 4 with fail;obtain⟨W,cP⟩:=aq ((w.alloc (ai (fv ca 8 cn bY cF bg c8 c9 cS aR bF bv) fm)).alloc (ai (#[I 1,I cn,I bY,U cF]) CW));have aH:af (an w w W):=by show Below _ _ _;rw[←cP];exact (bh _ _).trans ((bh _ _).mono (bh _ _).size)
 have aJ:af (al W (w.heap.size+1) (#[I 1,I cn,I bY,U cF]) CW):=by show _=_;rw[←cP,show w.heap.size+1=(w.alloc (ai (fv ca 8 cn bY cF bg c8 c9 cS aR bF bv) fm)).heap.size from (l' _).symm];exact cR _ _
 rw[cP];clear cP;obtain⟨D,b4⟩:=aq w.heap.size;have bp:=ao (H1.out.below aH.out);have LD:P<D:=by rw[←b4];exact lt_of_heap H1.out.pl
 rw[b4] at aJ⊢;clear b4 aH H1;have f0:=cell_of (i:=0) aJ.out rfl;have f1:=cell_of (i:=1) aJ.out rfl;have f2:=cell_of (i:=2) aJ.out rfl;have f3:=cell_of (i:=3) aJ.out rfl;have c5:ak W P 5 (U f):=by rw[←amZ.out];exact cell_of (i:=5) bp.out.pl rfl
 cases f with
 |true=>
  have hF: .error 4=res:=uS.out;go_wp2_with fail;go_ret;rw[←hF];exact⟨bp.out.aM,rfl⟩
 |false=>
  go_wp2_with fail;with_reducible refine (OJ 1 cn bY cF b mL _).mono ?_
  rintro e b5 ⟨rfl,ry⟩;have cj:an W W b5:=(by rw[←ry];exact bh _ _);have bW:=ao (bp.out.below cj);have r6:=ao (ba aJ.out cj);clear f0 f1 f2 f3 c5 ry cj bp aJ;cases b with
  |false=>
   have hF: .error 4=res:=uS.out;go_wp2_with fail;go_ret;rw[←hF];exact⟨bW.out.aM,rfl⟩
  |true=>
   have hF: .ok {p with kI:=cn,fd:=bY,kJ:=cF,formed:=true}=res:=uS.out;have f0:=cell_of (i:=0) r6.out rfl;have f1:=cell_of (i:=1) r6.out rfl;have f2:=cell_of (i:=2) r6.out rfl;have f3:=cell_of (i:=3) r6.out rfl;have cw:ak b5 P 1 (I fu):=cell_of (i:=1) bW.out.pl rfl;have bl:ak b5 P 2 (I p.kI):=cell_of (i:=2) bW.out.pl rfl;have ll:ak b5 P 3 (I p.fd):=cell_of (i:=3) bW.out.pl rfl;have AL:ak b5 P 4 (U p.kJ):=cell_of (i:=4) bW.out.pl rfl;have U2:ak b5 P 5 (U p.formed):=cell_of (i:=5) bW.out.pl rfl;have g1:=dc bW.out.pl 1;have g2:=dc bW.out.pl 2;have g3:=dc bW.out.pl 3;have g4:=dc bW.out.pl 4;have g5:=dc bW.out.pl 5;have hne:P≠D+1:=(by omega);have Gk:D+1≠P:=(by omega);go_wp2_with fail;go_ret;rw[←hF];refine gi.nR (R:=R) (m:=m) (L:=L) (fu:=1) (cv:=cv) (ov:=ov) (cx:=cx) (ox:=ox) rfl ?_;have aw:=((((aK.set (a:=⟨P,1,none⟩) (S:=fun k=>k≠P) (w:=b5) (fun aw=>aw rfl) (I 1)).trans (aK.set (a:=⟨P,2,none⟩) (fun aw=>aw rfl) (I cn))).trans (aK.set (a:=⟨P,3,none⟩) (fun aw=>aw rfl) (I bY))).trans (aK.set (a:=⟨P,4,none⟩) (fun aw=>aw rfl) (U cF))).trans (aK.set (a:=⟨P,5,none⟩) (fun aw=>aw rfl) (U true));exact bW.out.vl aw (by have:=dt (k:=P) (i:=5) (U true) (dt (k:=P) (i:=4) (U cF) (dt (k:=P) (i:=3) (I bY) (dt (k:=P) (i:=2) (I cn) (dt (k:=P) (i:=1) (I 1) bW.out.pl))));exact this) rfl rfl rfl rfl rfl
theorem am0(w0:aeo)(P:Nat)(p:cy)(ca cn bY:Int)(cF:Bool)(bg c8 c9 cS aR:ar)(bF bv:ada)(w:aeo)(H:af (jl w0 P p w))(res:Except Nat cy)(c6:af ((if p.unit≠0 then .error 4 else .ok {p with unit:=cn})=res)):
  Calls Tryz.prog 79 #[ah P 0,.agg (fv ca 9 cn bY cF bg c8 c9 cS aR bF bv)] w fun e w'=>gi w0 P res e w':=by
 obtain⟨R,m,L,fu,cv,ov,cx,ox,h⟩:=H.out;have H1:=ao h;clear h H;go_enter Pz,PA;go_upto_region 8 with fail;have bp:=ao (H1.out.below (bh w (ai (fv ca 9 cn bY cF bg c8 c9 cS aR bF bv) fm)));have b9:af ((w.alloc (ai (fv ca 9 cn bY cF bg c8 c9 cS aR bF bv) fm)).heap[w.heap.size]?=some (.cells (fv ca 9 cn bY cF bg c8 c9 cS aR bF bv) fm)):=cR _ _;generalize w.alloc (.cells (fv ca 9 cn bY cF bg c8 c9 cS aR bF bv) fm)=W at bp b9⊢;obtain⟨u,hu⟩:=aq p.unit;have uS:af ((if u≠0 then .error 4 else .ok {p with unit:=cn})=res):=by show _=_;rw[←c6.out,hu]
 have aV:ak W P 0 (I u):=by rw[←hu];exact cell_of (i:=0) bp.out.pl rfl
 have g0:=dc bp.out.pl 0;have d2:=cell_of (i:=2) b9.out rfl;clear c6 hu;by_cases zF:u=0
 ·subst zF;have hF: .ok {p with unit:=cn}=res:=uS.out;go_wp2_with fail;go_ret;rw[←hF];exact gi.nR rfl (bp.out.vl (aK.set (a:=⟨P,0,none⟩) (fun aw=>aw rfl) _) (by have:=dt (k:=P) (i:=0) (I cn) bp.out.pl;exact this) rfl rfl rfl rfl rfl)
 ·have hF: .error 4=res:=(by rw[←uS.out,aW zF]);have AO:(u !=0)=true:=(by rw[bne_iff_ne];exact zF);go_wp2_with fail;go_ret;rw[←hF];exact⟨bp.out.aM,rfl⟩
end c1
namespace c1
open Go.RowKit ef
open cB (C dN)
open gK (iO iN dd fG)
abbrev pT(p:cy):List nD:=(p.top::p.levels).reverse
theorem o7.at{R:afp}{B:Nat}{w:aeo}:∀{l:List nD} {fP:aev} {hs:List Nat},o7 R B w l fP hs→∀i (hi:i<l.reverse.length),∃(q:Ja) (e d:Nat),∀j,j<7→fP[i *7+j]?=(l8 (l.reverse[i]) (ad q e d))[j]?
 |[],_,_,_,i,hi=>absurd hi (lS _)
 |v::l,fP,hs,⟨qZ,gs,ov,ox,au,ax,aA,bb,bj⟩,i,hi=>by
  have hlen:=o7.len bj;rw[A5,eT] at hi;by_cases bm:i<l.length
  ·obtain⟨q,e,d,a1⟩:=o7.at bj i (by rw[A5];exact bm);refine⟨q,e,d,fun j b6=>?_⟩;rw[au,Ey (by omega),a1 j b6];simp only[PB];rw[Ez (by rw[A5];exact bm)]
  ·have e:i=l.length:=(by omega);obtain⟨q,d,rfl⟩:=iw aA;refine⟨q,v.eg.length,d,fun j b6=>?_⟩;rw[au,xz (by omega),show i *7+j-qZ.length=j by omega];simp only[PB];rw[UA (by rw[A5];omega)];simp
theorem dV.rowAt{w0:aeo}{P:Nat}{R:afp}{m:Nat}{L:nm}{fu:Int}{cv ov:ada}{cx ox:aev}{p:cy}{w:aeo}(h:dV w0 P R m L fu cv ov cx ox p w)(i:Nat)(hi:i<(pT p).length):∃(q:Ja) (e d:Nat),∀j,j<7→w.cell? ⟨L.b,i *7+j,none⟩=(l8 ((pT p)[i]) (ad q e d))[j]?:=by
 have hlen:=h.ia.len;have hn:=h.kz;have oq:i<p.levels.length+1:=by rw[A5] at hi;exact hi
 by_cases bm:i<p.levels.length
 ·obtain⟨q,e,d,a1⟩:=h.ia.at i (by rw[A5];exact bm);refine⟨q,e,d,fun j b6=>?_⟩;rw[h.er.cellAt (i *7+j) (by omega),Ey (by omega),a1 j b6];simp only[pT,PB];rw[Ez (by rw[A5];exact bm)]
 ·have e:i=p.levels.length:=(by omega);obtain⟨q,d,rfl⟩:=iw h.aD;refine⟨q,p.top.eg.length,d,fun j b6=>?_⟩;rw[h.er.cellAt (i *7+j) (by omega),xz (by omega),show i *7+j-L.fP.length=j by omega];simp only[pT,PB];rw[UA (by rw[A5];omega)];simp
def PM(code:Int)(v:nD):Bool:=!v.step&&decide (v.code=code)
theorem am1(p:cy)(code:Int):BP p code=((p.jC code).isSome ||((pT p).drop 1).any (PM code)):=by
 unfold BP
 congr 1
 have:(pT p).drop 1=((p.top::p.levels).dropLast).reverse:=by unfold pT;rw[List.drop_one,List.tail_reverse]
 rw[this,List.any_reverse];rfl
theorem am2{a:Bool}{f:nD→Bool}{l:List nD}{j:Nat}(b6:j<l.length):(a ||(l.take (j+1)).any f)=((a ||(l.take j).any f)|| f l[j]):=by rw[AB b6,List.any_append];simp[Bool.or_assoc]
theorem abQ(w0:aeo)(P:Nat)(p:cy)(code:Int)(w:aeo)(H:af (jl w0 P p w))(lV:p.levels.length≤1000)(t:Bool)(bc:af (BP p code=t)):
    Calls Tryz.prog 117 #[ah P 0,I code] w fun e w'=>e=ab (U t)∧an w w w':=by
  obtain⟨R,m,⟨eY,eh,lc,fP,hs,eZ,bx⟩,fu,cv,ov,cx,ox,h⟩:=H.out;have H1:=ao h;have dr:af (((p.jC code).isSome ||((pT p).drop 1).any (PM code))=t):=(by show _=_;rw[←am1];exact bc);obtain⟨v,jZ,aS⟩:=h.mp.look code;obtain⟨b,ay⟩:∃b,(p.jC code).isSome=b:=⟨_,rfl⟩
  obtain⟨dH,c0,ee,y3,y4,j1,y6,h6,j2,cw,bl,bI,bJ,dT,eG,fT,n3,aY,a6,cV,U1⟩:∃(dH c0 ee y3 y4 j1 y6 h6 j2:Int) (cw bl:Bool) (bI bJ dT:Ja) (eG fT n3 aY a6 cV:Nat),v=.agg #[I dH,I c0,I ee,I y3,I y4,I j1,I y6,I h6,ad bI eG aY,ad bJ fT a6,I j2,U cw,U bl,ad dT n3 cV]:=by
    cases ha:p.jC code with
    |none=>rw[ha] at aS;exact⟨_,_,_,_,_,_,_,_,_,_,_,_,_,_,_,_,_,_,_,_,aS⟩
    |some a=>
      rw[ha] at aS;obtain⟨pl,cl,pp,cp,gd,co,au,_⟩:=aS;exact⟨_,_,_,_,_,_,_,_,_,_,_,_,_,_,_,_,_,_,_,_,au⟩
  subst U1;rw[ay] at jZ dr;have cX:w.cell? ⟨P,6,none⟩=some (.map (some m)):=cell_of (i:=6) h.pl rfl;have oE:=lt_of_heap h.pl;have vp:m<w.heap.size:=(by obtain⟨_,_,hm⟩:=h.mp.map;exact lt_of_heap hm);have lq:=jZ w.drew rfl;have hc:=jZ (w.alloc (ai (#[I 0,I 0,I 0,I 0,I 0,I 0,I 0,I 0,J 0,J 0,I 0,U false,U false,J 0]) j6)).drew (qL _ _ _ vp);have RZ:=jZ w rfl;have qX:eh=p.levels.length+1:=h.kz;have jg:af ((pT p).length=eh):=(by show _=_;rw[A5,eT,qX]);have avH:1≤eh∧eh≤1001:=by omega
  have LF:eh≤lc:=by
    have bj:=h.er;rcases bj.2 with ⟨b8,cY⟩|⟨k,cap,cur,b8,_,_,cY,_⟩
    · cases b8
    · injection b8 with _ _ dM
      have dM:lc=cap:=dM;have cY:eh≤cap:=cY;omega
  clear jZ aS ay h H bc lV qX;go_enter Tryz.func117,Tryz.ntmps117;go_upto_region 2 with fail;have aH:af (an w w (w.alloc (ai (#[I dH,I c0,I ee,I y3,I y4,I j1,I y6,I h6,ad bI eG aY,ad bJ fT a6,I j2,U cw,U bl,ad dT n3 cV]) j6))):=bh _ _;clear lq hc RZ cX oE vp;generalize w.alloc (.cells #[I dH,I c0,I ee,I y3,I y4,I j1,I y6,I h6,ad bI eG aY,ad bJ fT a6,I j2,U cw,U bl,ad dT n3 cV] j6)=W at aH⊢;have bp:=ao (H1.out.below aH.out);have rN:W.cell? ⟨P,21,none⟩=some (ad (some (aj eY 0)) eh lc):=cell_of (i:=21) bp.out.pl rfl;obtain⟨n,hn⟩:∃n,eh=n+1:=⟨eh-1,by omega⟩;subst hn;obtain⟨d,hd⟩:∃d,lc=d+1:=⟨lc-1,by omega⟩;subst hd;have dP:(1:Int)≤(n:Int)+1:=(by omega);have bM:(n:Int)+1≤(d:Int)+1:=(by omega);have abK:af (jl w0 P p W):=⟨_,_,_,_,_,_,_,_,bp.out⟩;go_upto_region 3 with fail
  all_goals
    clear rN dP bM
    go_loopw [6,24] (fun f i wr=>∃(j:Nat) (a:Bool) (aL:aeo),aL=wr∧j≤n∧i=I j∧f=U a∧af (a=(b ||(((pT p).drop 1).take j).any (PM code)))∧af (Below W.heap.size W aL)) (fun _ i _=>n -(intOf i).toNat)
    case atStart=>exact⟨0,b,_,rfl,cO _,rfl,rfl,by show _=_;simp,Below.refl _ _⟩
    case round=>
    obtain⟨j,a,aL,rfl,b6,rfl,rfl,cJ,il⟩:=hrel;by_cases bm:j<n
    · first
        |(exfalso;omega)
        | (have fD:(j:Int)<(n:Int):=by omega
           have qG:(0:Int)≤(j:Int):=(by omega);have lq:j+1<(pT p).length:=(by rw[jg.out];omega);have bW:=ao (bp.out.below il.out);obtain⟨LG,on,iB,a1⟩:=bW.out.rowAt (j+1) lq;obtain⟨⟨vs,A8,LH,LI,⟨vd,sx⟩,Un⟩,aS⟩:∃v,(pT p)[j+1]=v:=⟨_,rfl⟩;rw[aS,show (j+1) *7=7+j *7 by omega] at a1;have du:aL.cell? ⟨eY,7+j *7,none⟩=some (U vs):=a1 0 (by decide);have dI:aL.cell? ⟨eY,7+j *7+1,none⟩=some (I A8):=a1 1 (by decide);have h4:aL.cell? ⟨eY,7+j *7+2,none⟩=some (I LH):=a1 2 (by decide);have qC:aL.cell? ⟨eY,7+j *7+3,none⟩=some (I LI):=a1 3 (by decide);have qD:aL.cell? ⟨eY,7+j *7+4,none⟩=some (I vd):=a1 4 (by decide);have qE:aL.cell? ⟨eY,7+j *7+5,none⟩=some (I sx):=a1 5 (by decide);have qF:aL.cell? ⟨eY,7+j *7+6,none⟩=some (ad LG on iB):=a1 6 (by decide)
           have kX:af ((a ||(!vs&&decide (A8=code)))=(b ||(((pT p).drop 1).take (j+1)).any (PM code))):=by
             show _=_;rw[am2 (by rw[e8,jg.out];omega),←cJ.out,T5]
             congr 1
             have aY:(pT p)[1+j]'(by omega)=(pT p)[j+1]:=(by congr 1;omega);rw[aY,aS];rfl
           have oI:af (an W W (aL.alloc (ai (#[U vs,I A8,I LH,I LI,I vd,I sx,ad LG on iB]) gF))):=il.out.alloc il.out.size _;have he:(A8==code)=decide (A8=code):=rfl;generalize decide (A8=code)=e at kX he;clear a1 aS bW;cases a<;>cases vs
           all_goals
             have jj:=kX;simp only[S6,Bool.true_or,Bool.not_true,Bool.not_false,Gq,Gp,Bool.or_false] at jj;go_wp2_with fail;go_round<;>first|exact⟨j+1,_,_,rfl,by omega,by go_num,rfl,jj.out,oI.out⟩|(simp[intOf]<;>omega))
    · have kM:j=n:=by omega
      subst kM;have hF:a=t:=(by rw[cJ.out,←dr.out,sY (by rw[e8,jg.out];omega)]);subst hF;go_wp2_with fail;go_ret;exact⟨rfl,aH.out.trans (il.out.mono aH.out.size)⟩
end c1
