/- Lemmas. -/
import Derived.Test.YtfldplmgkeiimaaGreatDoorQ20
set_option linter.all false
set_option maxRecDepth 100000
set_option maxHeartbeats 12800000
namespace Go.Proofs.YtfldplmgkeiimaaGreatDoor
abbrev Pz:=@Proofs.Tryz.func96
abbrev PA:=@Proofs.Tryz.ntmps96
abbrev UH:=@List.getElem?_append_left
abbrev PB:=@List.reverse_cons
namespace c4
open Go.RowKit dH
open bS (C)
open gT (kS iX)
open vM (k3 gV)
open Pw (UG H6)
abbrev C3:TypeId:=161
abbrev Ia:TypeId:=276
abbrev aop:TypeId:=277
def C4(res:Except Nat cH):Prop:=∀k,res=.error k→k≠0
variable{p:cH}
theorem acG{d:Bool}{s:dK}{t:fR}:C4 (kt p d s t):=fun k h=>by rcases acm h with rfl|rfl<;>decide
theorem acH{f:Bool→Bool}{t:fR}:∀{l:List dx} {p:cH},C4 (lW f t l p)
 |[],_,k,h=>by cases h
 |o::l,p,k,h=>by
  unfold lW at h;split at h
  ·rename_i e he;injection h with h;subst h;exact acG _ he
  ·exact acH _ h
theorem acI{q:bK}:C4 (sV p q):=by
 intro k h;unfold sV at h;split at h
 ·cases h;decide
 ·split at h
  ·cases h;decide
  ·split at h
   ·exact acG _ h
   ·exact acH _ h
variable{u v:Int}
theorem acJ{n:Int}(h:gV n u=some v):-536870912≤v∧v≤536870912:=by
 unfold gV at h;split at h
 ·rename_i aJ;injection h with h;rw[←h];exact aJ.2.2
 ·cases h
theorem aoq{l:au}{i d:Int}{t:Bool}(h:k3 l u i d t=some v):-536870912≤v∧v≤536870912:=by
 unfold k3 at h;split at h
 ·exact acJ h
 ·cases h
variable{w:aeo}
theorem gr.setAt{w0:aeo}{P:Nat}{R:afp}{m:Nat}{L:rp}{fu:Int}{cv ov:ada}{cx ox:aev}(h:gr w0 P R m L fu cv ov cx ox p w)(a b:Int):
  gr w0 P R m L fu cv ov cx ox {p with at_:=(a,b)} ((w.setCell (aj P 9) (I a)).setCell (aj P 10) (I b)):=by
 refine h.HX ((aQ.set (a:=⟨P,9,none⟩) (fun ax=>ax rfl) _).trans (aQ.set (a:=⟨P,10,none⟩) (fun ax=>ax rfl) _)) ?_ rfl rfl rfl rfl rfl;have:=dL (k:=P) (i:=10) (I b) (dL (k:=P) (i:=9) (I a) h.pl);exact this
def nk(x y i j:au):Nat→List UInt8
 |0=>x
 |1=>y
 |2=>i
 |_=>j
def C5(p:cH):Nat→Int
 |0=>p.at_.1
 |1=>p.at_.2
 |_=>0
abbrev PC(ec:Nat→Int):Array Value:= #[I (ec 0),I (ec 1),I (ec 2),I (ec 3)]
variable{j:Nat}
theorem aor(ec:Nat→Int)(v:Int)(cr:j<4):(PC ec).setIfInBounds j (I v)=PC (fun i=>if i=j then v else ec i):=by rcases (show j=0∨j=1∨j=2∨j=3 by omega) with rfl|rfl|rfl|rfl<;>rfl
theorem aos(x y i l:au)(cr:j<4)(w:aeo):(Instr.index aop (.agg #[aa ⟨x.toArray⟩,aa ⟨y.toArray⟩,aa ⟨i.toArray⟩,aa ⟨l.toArray⟩]) (I (j:Int))).run Tryz.prog w=.ok (aa ⟨(nk x y i l j).toArray⟩) w:=by rcases (show j=0∨j=1∨j=2∨j=3 by omega) with rfl|rfl|rfl|rfl<;>simp[Instr.index,jq Tryz.underlying277,asIntOf,go_sem,part,nk]
variable{ec:Nat→Int}
theorem aot{k:Nat}(h:an w k (PC ec) Ia)(cr:j<4):ak w k j (I (ec j)):=by rcases (show j=0∨j=1∨j=2∨j=3 by omega) with rfl|rfl|rfl|rfl<;>simp[World.cell?,h]
structure Ib(w:aeo)(D:Nat)(o:Obj)(u kI fd:Int)(fs:Bool)(ec:Nat→Int)(x:aeo):Prop where
 aZ:ao w w x
 cQ:x.heap[D]?=some o
 mZ:an x (D+1) (#[I u,I kI,I fd,U fs]) C3
 vs:an x (D+1+1) (PC ec) Ia
theorem Ib.below{D:Nat}{o:Obj}{kI fd:Int}{fs:Bool}{x y:aeo}(h:Ib w D o u kI fd fs ec x)(ay:ao x x y):Ib w D o u kI fd fs ec y:=⟨h.aZ.trans (ay.mono h.aZ.size),aU h.cQ ay,aU h.mZ ay,aU h.vs ay⟩
def wK(p:cH)(c:C)(ec:Nat→Int)(j:Nat):Prop:=(∀i,i<j→iz p (nk c.x c.y c.i c.j i) (C5 p i)=some (ec i))∧∀i,j≤i→ec i=C5 p i
def acK(xm:bK):Except Nat cH→Except Nat cH
 |.error e=>.error e
 |.ok q=>.ok {q with at_:=xm}
variable{c:C}
theorem acL(hn:c.n=3)(hu:¬(p.unit=0∨p.formed=false))(h:wK p c ec 4):q0 p c=acK (ec 0,ec 1) (sV p (ec 0,ec 1)):=by unfold q0;have aT:iz p c.x p.at_.1=some (ec 0):=h.1 0 (by decide);have av:iz p c.y p.at_.2=some (ec 1):=h.1 1 (by decide);have az:iz p c.i 0=some (ec 2):=h.1 2 (by decide);have aF:iz p c.j 0=some (ec 3):=h.1 3 (by decide);rw[aR hu,aT,av,az,aF];simp only;rw[aR (by omega),aR (by omega),a8 hn];split<;>rename_i hx<;>rw[hx]<;>rfl
theorem aou(cr:j<4)(hu:¬(p.unit=0∨p.formed=false))(h:wK p c ec j)(hn:iz p (nk c.x c.y c.i c.j j) (C5 p j)=none):q0 p c=.error 5:=by
 unfold q0;rw[aR hu];rcases (show j=0∨j=1∨j=2∨j=3 by omega) with rfl|rfl|rfl|rfl
 ·have hn:iz p c.x p.at_.1=none:=hn;rw[hn]
 ·have hn:iz p c.y p.at_.2=none:=hn;have aT:iz p c.x p.at_.1=some (ec 0):=h.1 0 (by decide);rw[aT,hn]
 ·have hn:iz p c.i 0=none:=hn;have aT:iz p c.x p.at_.1=some (ec 0):=h.1 0 (by decide);have av:iz p c.y p.at_.2=some (ec 1):=h.1 1 (by decide);rw[aT,av,hn]
 ·have hn:iz p c.j 0=none:=hn;have aT:iz p c.x p.at_.1=some (ec 0):=h.1 0 (by decide);have av:iz p c.y p.at_.2=some (ec 1):=h.1 1 (by decide);have az:iz p c.i 0=some (ec 2):=h.1 2 (by decide);rw[aT,av,az,hn]
theorem wK.step(h:wK p c ec j)(aS:iz p (nk c.x c.y c.i c.j j) (C5 p j)=some v):wK p c (fun i=>if i=j then v else ec i) (j+1):=by
 refine⟨fun i hi=>?_,fun i hi=>?_⟩
 ·by_cases e:i=j
  ·subst e;simpa using aS
  ·simpa[e] using h.1 i (by omega)
 ·have e:¬i=j:=(by omega);simpa[e] using h.2 i (by omega)
theorem wK.same(h:wK p c ec j)(he:nk c.x c.y c.i c.j j=[]):wK p c ec (j+1):=by
 refine⟨fun i hi=>?_,fun i hi=>h.2 i (by omega)⟩;by_cases e:i=j
 ·subst e;unfold iz;rw[a8 he,h.2 i (bx _)]
 ·exact h.1 i (by omega)
theorem wK.CX{p:cH}{c:C}{ec:Nat→Int}(h:wK p c ec 4)(bn:CX p.at_):∀i,i<4→-536870912≤ec i∧ec i≤536870912:=by
 intro i hi;have av:=h.1 i hi;unfold iz at av;split at av
 ·injection av with av;rw[←av];unfold c4.CX at bn;rcases (show i=0∨i=1∨i=2∨i=3 by omega) with rfl|rfl|rfl|rfl<;>simp only[C5]<;>omega
 ·exact aoq av
theorem aov(w0:aeo)(P:Nat)(p:cH)(c:C)(ca:Int)(c7 bv:ada)(w:aeo)(H:af (o' w0 P p w))(yf:c.n=3)(bn:pa p)(kQ:af (∀i,(nk c.x c.y c.i c.j i).length≤1000000000))(res:Except Nat cH)(dQ:af (q0 p c=res)):
  Calls Tryz.prog 99 #[ah P 0,kS c ca c7 bv] w fun e w'=>jK w0 P res e w':=by
 obtain⟨R,m,L,fu,cv,ov,cx,ox,h⟩:=H.out;have H1:=aq h;have se:=aq bn;obtain⟨u,Fz⟩:=ar p.unit;obtain⟨kI,FA⟩:=ar p.kI;obtain⟨fd,LC⟩:=ar p.fd;obtain⟨fs,Cn⟩:=ar p.fs;obtain⟨mZ,uL⟩:=ar p.formed;have x8:=aq Fz;have acM:af (∀s was,iz p s was=if s=[] then some was else k3 s u kI fd fs):=fun s was=>by unfold iz;rw[Fz,FA,LC,Cn]
 obtain⟨nz,mY⟩:=ar c;have ve:=aq mY;have Bh:af (nz.n=3):=by rw[←mY];exact yf
 obtain⟨e1,cn,cQ,dJ,bF,ed,ee,ef,bG,da,h'⟩:=c;have yf:cn=3:=yf;subst yf;rw[mY] at kQ dQ;show Calls _ _ #[ah P 0,.agg #[I ca,I e1,I 3,I cQ,U dJ,aa ⟨bF.toArray⟩,aa ⟨ed.toArray⟩,aa ⟨ee.toArray⟩,aa ⟨ef.toArray⟩,aa ⟨bG.toArray⟩,c7,bv]] w _;clear h bn H mY;have axD:=aq (Eq.refl p.at_);go_enter Tryz.func99,Tryz.ntmps99;go_upto_region 1 with fail;have ij:af (ao w w (w.alloc (ai (#[I ca,I e1,I 3,I cQ,U dJ,aa ⟨bF.toArray⟩,aa ⟨ed.toArray⟩,aa ⟨ee.toArray⟩,aa ⟨ef.toArray⟩,aa ⟨bG.toArray⟩,c7,bv]) ic))):=a' _ _;have PD:af ((w.alloc (ai (#[I ca,I e1,I 3,I cQ,U dJ,aa ⟨bF.toArray⟩,aa ⟨ed.toArray⟩,aa ⟨ee.toArray⟩,aa ⟨ef.toArray⟩,aa ⟨bG.toArray⟩,c7,bv]) ic)).heap[w.heap.size]?=some (.cells #[I ca,I e1,I 3,I cQ,U dJ,aa ⟨bF.toArray⟩,aa ⟨ed.toArray⟩,aa ⟨ee.toArray⟩,aa ⟨ef.toArray⟩,aa ⟨bG.toArray⟩,c7,bv] ic)):=cd _ _;have CV:af ((w.alloc (ai (#[I ca,I e1,I 3,I cQ,U dJ,aa ⟨bF.toArray⟩,aa ⟨ed.toArray⟩,aa ⟨ee.toArray⟩,aa ⟨ef.toArray⟩,aa ⟨bG.toArray⟩,c7,bv]) ic)).heap.size=w.heap.size+1):=qf _;generalize w.alloc (.cells #[I ca,I e1,I 3,I cQ,U dJ,aa ⟨bF.toArray⟩,aa ⟨ed.toArray⟩,aa ⟨ee.toArray⟩,aa ⟨ef.toArray⟩,aa ⟨bG.toArray⟩,c7,bv] ic)=W at ij PD CV⊢;obtain⟨D,cb⟩:=ar w.heap.size;have jP:=aq cb;rw[cb] at PD CV⊢;have sw:=aq (H1.out.below ij.out);have aN:ak W P 0 (I u):=by rw[←Fz];exact cell_of (i:=0) sw.out.pl rfl
 have aL:ak W P 1 (I fu):=cell_of (i:=1) sw.out.pl rfl;have aI:ak W P 2 (I kI):=by rw[←FA];exact cell_of (i:=2) sw.out.pl rfl
 have c3:ak W P 3 (I fd):=by rw[←LC];exact cell_of (i:=3) sw.out.pl rfl
 have bJ:ak W P 4 (U fs):=by rw[←Cn];exact cell_of (i:=4) sw.out.pl rfl
 have c5:ak W P 5 (U mZ):=by rw[←uL];exact cell_of (i:=5) sw.out.pl rfl
 have bj:ak W P 9 (I p.at_.1):=cell_of (i:=9) sw.out.pl rfl;have cu:ak W P 10 (I p.at_.2):=cell_of (i:=10) sw.out.pl rfl;have vh:P<W.heap.size:=lt_of_heap sw.out.pl;by_cases fF:u=0∨mZ=false
 ·have hF: .error 4=res:=(by rw[←dQ.out];unfold q0;rw[Fz,uL,a8 fF]);clear Fz FA LC Cn uL cb dQ;by_cases yl:u=0
  ·subst yl;go_wp2_with fail;go_ret;rw[←hF];exact⟨sw.out.aZ,rfl⟩
  ·have UI:(u==0)=false:=beq_eq_false_iff_ne.2 yl;obtain rfl:mZ=false:=fF.resolve_left yl;go_wp2_with fail;go_ret;rw[←hF];exact⟨sw.out.aZ,rfl⟩
 have UI:(u==0)=false:=beq_eq_false_iff_ne.2 fun h=>fF (.inl h);have acN:af (¬(p.unit=0∨p.formed=false)):=by show ¬_;rw[Fz,uL];exact fF
 obtain rfl:mZ=true:=by cases mZ;exact absurd (.inr rfl) fF;rfl
 clear Fz FA LC Cn uL fF cb sw;go_upto_region 5 with fail;have cP:af (ao W W (W.alloc (ai (#[I u,I kI,I fd,U fs]) C3))):=a' _ _;have eV:af ((W.alloc (ai (#[I u,I kI,I fd,U fs]) C3)).heap[D+1]?=some (.cells #[I u,I kI,I fd,U fs] C3)):=by show _=_;rw[←CV.out];exact cd _ _
 have mz:af ((W.alloc (ai (#[I u,I kI,I fd,U fs]) C3)).heap.size=D+1+1):=by show _=_;rw[←CV.out];exact qf _
 generalize W.alloc (.cells #[I u,I kI,I fd,U fs] C3)=cm at cP eV mz⊢;rw[CV.out];have d9:=bP cP.out bj;have d10:=bP cP.out cu;have aow:P<cm.heap.size:=by have:=cP.out.size;omega
 clear aN aL aI c3 bJ c5 bj cu vh;go_region;have sx:af (Ib w D (ai (#[I ca,I e1,I 3,I cQ,U dJ,aa ⟨bF.toArray⟩,aa ⟨ed.toArray⟩,aa ⟨ee.toArray⟩,aa ⟨ef.toArray⟩,aa ⟨bG.toArray⟩,c7,bv]) ic) u kI fd fs (C5 p) (cm.alloc (ai (#[I p.at_.1,I p.at_.2,I 0,I 0]) Ia)).drew):=by have er:ao cm cm ((cm.alloc (ai (#[I p.at_.1,I p.at_.2,I 0,I 0]) Ia)).drew):=(a' _ _).drew;refine⟨(ij.out.trans (cP.out.mono ij.out.size)).trans (er.mono (dB ij.out.size cP.out.size)),aU (aU PD.out cP.out) er,aU eV.out er,?_⟩;have:=cd cm (ai (#[I p.at_.1,I p.at_.2,I 0,I 0]) Ia);rw[mz.out] at this;exact this
 rw[mz.out];generalize (cm.alloc (ai (#[I p.at_.1,I p.at_.2,I 0,I 0]) Ia)).drew=dt at sx⊢;clear ij PD CV cP eV mz d9 d10 aow;have rZ:=cell_of (i:=6) sx.out.cQ rfl;have qB:=cell_of (i:=7) sx.out.cQ rfl;have ta:=cell_of (i:=8) sx.out.cQ rfl;have a9:=cell_of (i:=9) sx.out.cQ rfl;have Lz:af (∀i,nk nz.x nz.y nz.i nz.j i=nk ed ee ef bG i):=fun i=>by rw[←ve.out]
 go_wp2_with fail;clear rZ qB ta a9
 go_loopw [54] (fun i wr=>∃(j:Nat) (ec:Nat→Int) (aK:aeo),aK=wr∧j≤4∧i=I j∧af (Ib w D (ai (#[I ca,I e1,I 3,I cQ,U dJ,aa ⟨bF.toArray⟩,aa ⟨ed.toArray⟩,aa ⟨ee.toArray⟩,aa ⟨ef.toArray⟩,aa ⟨bG.toArray⟩,c7,bv]) ic) u kI fd fs ec aK)∧af (wK p nz ec j)) (fun i _=>4 -(intOf i).toNat)
 case atStart=>exact⟨0,C5 p,_,rfl,by omega,rfl,sx.out,fun i hi=>absurd hi (nB _),fun i _=>rfl⟩
 case round=>
 obtain⟨j,ec,aK,rfl,cr,rfl,b5,e0⟩:=hrel;clear sx;by_cases FB:j<4
 ·have aox:(j:Int)<4:=(by omega);have Ks:(0:Int)≤(j:Int):=(by omega);have r4:=fun x=>aos ed ee ef bG FB x;have hlen:=kQ.out j;have UJ:=aq (aoj (nk ed ee ef bG j));rw[Lz.out] at hlen;obtain⟨S,hS⟩:∃S:Ua,(⟨(nk ed ee ef bG j).toArray⟩:Ua)=S:=⟨_,rfl⟩;have k9:af (S.data.toList=nk ed ee ef bG j):=(by show _=_;rw[←hS]);rw[hS] at r4 UJ;clear hS;by_cases PE:nk ed ee ef bG j=[]
  ·have PF:S.toList.isEmpty=true:=UJ.out.trans (e' PE);have wL:=aq (e0.out.same ((Lz.out j).trans PE));clear hlen;go_wp2_with fail;go_round<;>first|exact⟨j+1,ec,_,rfl,by omega,by go_num,b5.out,wL.out⟩|(simp[intOf]<;>omega)
  ·have PF:S.toList.isEmpty=false:=UJ.out.trans (eT PE);have mZ:=b5.out.mZ;have f0:=cell_of (i:=0) mZ rfl;have f1:=cell_of (i:=1) mZ rfl;have f2:=cell_of (i:=2) mZ rfl;have f3:=cell_of (i:=3) mZ rfl;have aoy:S.size≤9223372036854775807:=(by have av:=fK List.length k9.out;have az:S.data.toList.length=S.size:=(by rw[Array.length_toList];rfl);omega);obtain⟨o,bl⟩:=ar (k3 (nk ed ee ef bG j) u kI fd fs);have acO:iz p (nk nz.x nz.y nz.i nz.j j) (C5 p j)=o:=(by rw[acM.out,Lz.out,aR PE];exact bl);have b0:af ((k3 (nk ed ee ef bG j) u kI fd fs).getD 0=o.getD 0∧(k3 (nk ed ee ef bG j) u kI fd fs).isSome=o.isSome):=(by show _∧_;rw[bl];exact⟨rfl,rfl⟩);have acP:=aq acO;clear mZ bl acO hlen;go_wp2_with fail;with_reducible refine (UG S (nk ed ee ef bG j) k9 u kI fd fs _ _ b0 aoy _).mono ?_
   rintro e bt ⟨rfl,dS⟩;have PG:=aq (b5.out.below dS);clear f0 f1 f2 f3 dS b0;cases o with
   |none=>
    have hF: .error 5=res:=(by rw[←dQ.out];exact (aou FB acN.out e0.out acP.out).symm);go_wp2_with fail;go_ret;rw[←hF];exact⟨H1.out.aZ.trans (PG.out.aZ.mono H1.out.aZ.size),rfl⟩
   |some v=>
    have wL:=aq (e0.out.step acP.out);have v0:=aot PG.out.vs FB;have aoz:=cR PG.out.vs j;have axE:j<4:=FB;go_wp2_with fail;have pb:af (Ib w D (ai (#[I ca,I e1,I 3,I cQ,U dJ,aa ⟨bF.toArray⟩,aa ⟨ed.toArray⟩,aa ⟨ee.toArray⟩,aa ⟨ef.toArray⟩,aa ⟨bG.toArray⟩,c7,bv]) ic) u kI fd fs (fun i=>if i=j then v else ec i) (bt.setCell (aj (D+1+1) j) (I v))):=(by have h:=PG.out;refine⟨h.aZ.setCell (p:=⟨D+1+1,j,none⟩) (by show _≤D+1+1;have:=jP.out;omega) _,(mw (by omega)).trans h.cQ,(mw (by omega)).trans h.mZ,?_⟩;have:=dL (i:=j) (I v) h.vs;rw[aor ec v FB] at this;exact this);go_round<;>first|exact⟨j+1,_,_,rfl,by omega,by go_num,pb.out,wL.out⟩|(simp[intOf]<;>omega)
 ·have iR:j=4:=(by omega);subst iR;have jG:af (ao w w aK):=b5.out.aZ;have mc:=e0.out.CX se.out.at_;obtain⟨Bf,jd⟩:=ar (sV p (ec 0,ec 1));have aP:af (acK (ec 0,ec 1) Bf=res):=(by show _=_;rw[←dQ.out,acL Bh.out acN.out e0.out,←jd]);have r5:af (C4 Bf):=(by show C4 _;rw[←jd];exact acI);have UK:af (o' w0 P p w):=⟨_,_,_,_,_,_,_,_,H1.out⟩;have i0:=mc 0 (by decide);have mx:=mc 1 (by decide);have LD:af (∀Z,ao w w Z→Calls Tryz.prog 149 #[ah P 0,.agg #[I (ec 0),I (ec 1)]] Z fun e w'=>jK w0 P Bf e w'∧aQ (fun k=>w.heap.size≤k) Z w'):=fun Z eG=>an3 w0 P p (ec 0) (ec 1) w Z UK eG se.out (by show _∧_;unfold eY;omega) Bf jd;clear jd mc i0 mx;have m0:=cell_of (i:=0) b5.out.cQ rfl;have m1:=cell_of (i:=1) b5.out.cQ rfl;have m2:=cell_of (i:=2) b5.out.cQ rfl;have m3:=cell_of (i:=3) b5.out.cQ rfl;have m4:=cell_of (i:=4) b5.out.cQ rfl;have m5:=cell_of (i:=5) b5.out.cQ rfl;have m6:=cell_of (i:=6) b5.out.cQ rfl;have m7:=cell_of (i:=7) b5.out.cQ rfl;have m8:=cell_of (i:=8) b5.out.cQ rfl;have m9:=cell_of (i:=9) b5.out.cQ rfl;have m10:=cell_of (i:=10) b5.out.cQ rfl;have m11:=cell_of (i:=11) b5.out.cQ rfl;have v0:=cell_of (i:=0) b5.out.vs rfl;have v1:=cell_of (i:=1) b5.out.vs rfl;go_upto_region 17 with fail;have pb:=aq (b5.out.below (a' aK (ai (#[I (ec 0),I (ec 1)]) i7)));have qM:af ((aK.alloc (ai (#[I (ec 0),I (ec 1)]) i7)).heap[aK.heap.size]?=some (.cells #[I (ec 0),I (ec 1)] i7)):=cd _ _;have acQ:w.heap.size≤aK.heap.size:=jG.out.size;clear m0 m1 m2 m3 m4 m5 m6 m7 m8 m9 m10 m11 v0 v1;generalize aK.alloc (.cells #[I (ec 0),I (ec 1)] i7)=gh at pb qM⊢;obtain⟨T,eS⟩:=ar aK.heap.size;rw[eS] at qM acQ⊢;clear eS b5 jG;have m0:=cell_of (i:=0) pb.out.cQ rfl;have m1:=cell_of (i:=1) pb.out.cQ rfl;have m2:=cell_of (i:=2) pb.out.cQ rfl;have m3:=cell_of (i:=3) pb.out.cQ rfl;have m4:=cell_of (i:=4) pb.out.cQ rfl;have m5:=cell_of (i:=5) pb.out.cQ rfl;have m6:=cell_of (i:=6) pb.out.cQ rfl;have m7:=cell_of (i:=7) pb.out.cQ rfl;have m8:=cell_of (i:=8) pb.out.cQ rfl;have m9:=cell_of (i:=9) pb.out.cQ rfl;have m10:=cell_of (i:=10) pb.out.cQ rfl;have m11:=cell_of (i:=11) pb.out.cQ rfl;have v2:=cell_of (i:=2) pb.out.vs rfl;have v3:=cell_of (i:=3) pb.out.vs rfl;obtain⟨t0,t1⟩:=Ps qM.out;have jG:af (ao w w gh):=pb.out.aZ;go_wp2_with fail;with_reducible refine (LD.out _ jG.out).mono ?_
  rintro e ki ⟨ym,C6⟩;have tO:=aq (C6.get acQ qM.out);clear m0 m1 m2 m3 m4 m5 m6 m7 m8 m9 m10 m11 v2 v3 t0 t1;cases Bf with
  |error k=>
   have q4:((k:Int)==0)=false:=(by have:=r5.out k rfl;rw[uO];omega);obtain rfl:=ym.err rfl;have sy:af (ao w0 w0 ki):=ym.1;have hF: .error k=res:=aP.out;clear ym C6;go_wp2_with fail;go_ret;rw[←hF];exact⟨sy.out,rfl⟩
  |ok q=>
   obtain⟨rfl,vi⟩:=ym.get rfl;have hF: .ok {q with at_:=(ec 0,ec 1)}=res:=aP.out;clear ym C6;obtain⟨axF,m7,axG,axH,axI,axJ,axK,axL,eN⟩:=vi;have LF:=aq eN;clear eN;obtain⟨t0,t1⟩:=Ps tO.out;have axM:ak ki P 9 (I q.at_.1):=cell_of (i:=9) LF.out.pl rfl;have Ul:ak ki P 10 (I q.at_.2):=cell_of (i:=10) LF.out.pl rfl;have g9:=cR LF.out.pl 9;have g10:=cR LF.out.pl 10;go_wp2_with fail;go_ret;rw[←hF];exact jK.CR rfl (LF.out.setAt (ec 0) (ec 1))
end c4
namespace c4
open Go.RowKit dH
open bS (C)
open gT (kS iX eW)
abbrev iZ(ca e1 cn cQ:Int)(dJ:Bool)(bF ed ee ef bG:au)(c7 bv:ada):Array Value:= #[I ca,I e1,I cn,I cQ,U dJ,aa ⟨bF.toArray⟩,aa ⟨ed.toArray⟩,aa ⟨ee.toArray⟩,aa ⟨ef.toArray⟩,aa ⟨bG.toArray⟩,c7,bv]
theorem aoA(w0:aeo)(P:Nat)(p:cH)(c:C)(ca:Int)(c7 bv:ada)(w:aeo)(H:af (o' w0 P p w))(ax:c.k=6)(res:Except Nat cH)(dQ:af (DW p c=res)):
  Calls Tryz.prog 97 #[ah P 0,kS c ca c7 bv] w fun e w'=>jK w0 P res e w':=by
 obtain⟨R,m,L,fu,cv,ov,cx,ox,h⟩:=H.out;have H1:=aq h;obtain⟨e1,cn,cQ,dJ,bF,ed,ee,ef,bG,da,h'⟩:=c;have ax:e1=6:=ax;subst ax;have acR:af ((if (p.jA cn).isSome=false then .error 4 else .ok {p with uk:=cn})=res):=by show _=_;rw[←dQ.out];rfl
 show Calls _ _ #[ah P 0,.agg (iZ ca 6 cn cQ dJ bF ed ee ef bG c7 bv)] w _;clear h H dQ;go_enter Tryz.func97,Tryz.ntmps97;go_upto_region 1 with fail;have c1:=aq (H1.out.below (a' w (ai (iZ ca 6 cn cQ dJ bF ed ee ef bG c7 bv) ic)));have aO:af (ao w w (w.alloc (ai (iZ ca 6 cn cQ dJ bF ed ee ef bG c7 bv) ic))):=a' _ _;have di:af ((w.alloc (ai (iZ ca 6 cn cQ dJ bF ed ee ef bG c7 bv) ic)).heap[w.heap.size]?=some (.cells (iZ ca 6 cn cQ dJ bF ed ee ef bG c7 bv) ic)):=cd _ _;generalize w.alloc (.cells (iZ ca 6 cn cQ dJ bF ed ee ef bG c7 bv) ic)=W at c1 aO di⊢;obtain⟨D,cb⟩:=ar w.heap.size;rw[cb] at di⊢;clear cb H1;have d1:ak W D 1 (I 6):=cell_of (i:=1) di.out rfl;have d2:ak W D 2 (I cn):=cell_of (i:=2) di.out rfl;have d4:ak W D 4 (U dJ):=cell_of (i:=4) di.out rfl;obtain⟨v,o4,aS⟩:=c1.out.mp.look cn;have c2:af ((if (p.jA cn).isSome=false then .error 4 else .ok {p with uk:=cn})=res):=acR.out;obtain⟨b,ay⟩:=ar ((p.jA cn).isSome);rw[ay] at o4 c2
 obtain⟨aC,aE,fJ,y3,y4,oq,y6,sh,si,cE,bo,bW,cj,eb,dy,eU,n3,a1,a6,ch,C7⟩:∃(aC aE fJ y3 y4 oq y6 sh si:Int) (cE bo:Bool) (bW cj eb:Ja) (dy eU n3 a1 a6 ch:Nat),v=.agg #[I aC,I aE,I fJ,I y3,I y4,I oq,I y6,I sh,ad bW dy a1,ad cj eU a6,I si,U cE,U bo,ad eb n3 ch]:=by
  cases ha:p.jA cn with
  |none=>rw[ha] at aS;exact⟨_,_,_,_,_,_,_,_,_,_,_,_,_,_,_,_,_,_,_,_,aS⟩
  |some a=>
   rw[ha] at aS;obtain⟨pl,cl,pp,cp,l3,co,av,_⟩:=aS;exact⟨_,_,_,_,_,_,_,_,_,_,_,_,_,_,_,_,_,_,_,_,av⟩
 subst C7;have b2:ak W P 6 (.map (some m)):=cell_of (i:=6) c1.out.pl rfl;have vh:=lt_of_heap c1.out.pl;have sj:=lt_of_heap di.out;have Bd:m<W.heap.size:=by obtain⟨_,_,hm⟩:=c1.out.mp.map;exact lt_of_heap hm
 have q7:=o4 W.drew rfl;have mB:=o4 (W.alloc (ai (#[I 0,I 0,I 0,I 0,I 0,I 0,I 0,I 0,J 0,J 0,I 0,U false,U false,J 0]) qJ)).drew (xq _ _ _ Bd);clear o4 aS ay acR;go_upto_region 7 with fail;go_cut [6] (fun a gy=>a=U b∧(W.alloc (ai (#[I aC,I aE,I fJ,I y3,I y4,I oq,I y6,I sh,ad bW dy a1,ad cj eU a6,I si,U cE,U bo,ad eb n3 ch]) qJ)).drew=gy)
 case first=>
  go_region;all_goals go_wp2_with fail
  all_goals go_meet
  all_goals exact⟨rfl,rfl⟩
 case rest=>
  obtain⟨rfl,rfl⟩:=hcut;have dk:af (ao W W ((W.alloc (ai (#[I aC,I aE,I fJ,I y3,I y4,I oq,I y6,I sh,ad bW dy a1,ad cj eU a6,I si,U cE,U bo,ad eb n3 ch]) qJ)).drew)):=(a' _ _).drew;clear q7 mB b2 vh sj Bd;generalize (W.alloc (ai (#[I aC,I aE,I fJ,I y3,I y4,I oq,I y6,I sh,ad bW dy a1,ad cj eU a6,I si,U cE,U bo,ad eb n3 ch]) qJ)).drew=dt at dk⊢;have dM:=aq (c1.out.below dk.out);have nO:=aq (aU di.out dk.out);cases b with
  |false=>
   have hF: .error 4=res:=c2.out;clear d1 d2 d4;go_wp2_with fail;go_ret;rw[←hF];exact⟨dM.out.aZ,rfl⟩
  |true=>
   have hF: .ok {p with uk:=cn}=res:=c2.out;have d2:ak dt D 2 (I cn):=cell_of (i:=2) nO.out rfl;have b':ak dt P 7 (I p.uk):=cell_of (i:=7) dM.out.pl rfl;have g7:=cR dM.out.pl 7;go_wp2_with fail;go_ret;rw[←hF];exact jK.CR rfl (dM.out.HX (aQ.set (a:=⟨P,7,none⟩) (fun ax=>ax rfl) _) (by have:=dL (k:=P) (i:=7) (I cn) dM.out.pl;exact this) rfl rfl rfl rfl rfl)
end c4
namespace c4
open Go.RowKit dH
open bS (C)
open gT (kS iX eW)
open vM (k3 rJ)
open Pw (UG H6 Bg Py)
theorem aoB(w0:aeo)(P:Nat)(p:cH)(ca cn cQ:Int)(dJ:Bool)(bF ed ee ef bG:au)(c7 bv:ada)(w:aeo)(H:af (o' w0 P p w))(res:Except Nat cH)(dQ:af ((if p.formed=true∨rJ 1 cn cQ=false then .error 4 else .ok {p with kI:=cn,fd:=cQ,fs:=dJ,formed:=true})=res)):
  Calls Tryz.prog 96 #[ah P 0,.agg (iZ ca 8 cn cQ dJ bF ed ee ef bG c7 bv)] w fun e w'=>jK w0 P res e w':=by
 obtain⟨R,m,L,fu,cv,ov,cx,ox,h⟩:=H.out;have H1:=aq h;obtain⟨b,ay⟩:=ar (rJ 1 cn cQ);have nP:=aq ay;obtain⟨f,hf⟩:=ar p.formed;have aoC:=aq hf;have qI:af ((if f=true∨b=false then .error 4 else .ok {p with kI:=cn,fd:=cQ,fs:=dJ,formed:=true})=res):=by show _=_;rw[←dQ.out,ay,hf]
 clear h H ay hf dQ;go_enter Pz,PA;go_upto_region 4 with fail;obtain⟨W,br⟩:=ar ((w.alloc (ai (iZ ca 8 cn cQ dJ bF ed ee ef bG c7 bv) ic)).alloc (ai (#[I 1,I cn,I cQ,U dJ]) C3));have aO:af (ao w w W):=by show Below _ _ _;rw[←br];exact (a' _ _).trans ((a' _ _).mono (a' _ _).size)
 have aP:af (an W (w.heap.size+1) (#[I 1,I cn,I cQ,U dJ]) C3):=by show _=_;rw[←br,show w.heap.size+1=(w.alloc (ai (iZ ca 8 cn cQ dJ bF ed ee ef bG c7 bv) ic)).heap.size from (qf _).symm];exact cd _ _
 rw[br];clear br;obtain⟨D,cb⟩:=ar w.heap.size;have c1:=aq (H1.out.below aO.out);have axN:P<D:=by rw[←cb];exact lt_of_heap H1.out.pl
 rw[cb] at aP⊢;clear cb aO H1;have f0:=cell_of (i:=0) aP.out rfl;have f1:=cell_of (i:=1) aP.out rfl;have f2:=cell_of (i:=2) aP.out rfl;have f3:=cell_of (i:=3) aP.out rfl;have c5:ak W P 5 (U f):=by rw[←aoC.out];exact cell_of (i:=5) c1.out.pl rfl
 cases f with
 |true=>
  have hF: .error 4=res:=qI.out;go_wp2_with fail;go_ret;rw[←hF];exact⟨c1.out.aZ,rfl⟩
 |false=>
  go_wp2_with fail;with_reducible refine (Py 1 cn cQ dJ b nP _).mono ?_
  rintro e ck ⟨rfl,oY⟩;have er:ao W W ck:=(by rw[←oY];exact a' _ _);have dM:=aq (c1.out.below er);have uE:=aq (aU aP.out er);clear f0 f1 f2 f3 c5 oY er c1 aP;cases b with
  |false=>
   have hF: .error 4=res:=qI.out;go_wp2_with fail;go_ret;rw[←hF];exact⟨dM.out.aZ,rfl⟩
  |true=>
   have hF: .ok {p with kI:=cn,fd:=cQ,fs:=dJ,formed:=true}=res:=qI.out;have f0:=cell_of (i:=0) uE.out rfl;have f1:=cell_of (i:=1) uE.out rfl;have f2:=cell_of (i:=2) uE.out rfl;have f3:=cell_of (i:=3) uE.out rfl;have cE:ak ck P 1 (I fu):=cell_of (i:=1) dM.out.pl rfl;have bo:ak ck P 2 (I p.kI):=cell_of (i:=2) dM.out.pl rfl;have fk:ak ck P 3 (I p.fd):=cell_of (i:=3) dM.out.pl rfl;have B9:ak ck P 4 (U p.fs):=cell_of (i:=4) dM.out.pl rfl;have UL:ak ck P 5 (U p.formed):=cell_of (i:=5) dM.out.pl rfl;have g1:=cR dM.out.pl 1;have g2:=cR dM.out.pl 2;have g3:=cR dM.out.pl 3;have g4:=cR dM.out.pl 4;have g5:=cR dM.out.pl 5;have hne:P≠D+1:=(by omega);have GV:D+1≠P:=(by omega);go_wp2_with fail;go_ret;rw[←hF];refine jK.CR (R:=R) (m:=m) (L:=L) (fu:=1) (cv:=cv) (ov:=ov) (cx:=cx) (ox:=ox) rfl ?_;have ax:=((((aQ.set (a:=⟨P,1,none⟩) (S:=fun k=>k≠P) (w:=ck) (fun ax=>ax rfl) (I 1)).trans (aQ.set (a:=⟨P,2,none⟩) (fun ax=>ax rfl) (I cn))).trans (aQ.set (a:=⟨P,3,none⟩) (fun ax=>ax rfl) (I cQ))).trans (aQ.set (a:=⟨P,4,none⟩) (fun ax=>ax rfl) (U dJ))).trans (aQ.set (a:=⟨P,5,none⟩) (fun ax=>ax rfl) (U true));exact dM.out.HX ax (by have:=dL (k:=P) (i:=5) (U true) (dL (k:=P) (i:=4) (U dJ) (dL (k:=P) (i:=3) (I cQ) (dL (k:=P) (i:=2) (I cn) (dL (k:=P) (i:=1) (I 1) dM.out.pl))));exact this) rfl rfl rfl rfl rfl
theorem aoD(w0:aeo)(P:Nat)(p:cH)(ca cn cQ:Int)(dJ:Bool)(bF ed ee ef bG:au)(c7 bv:ada)(w:aeo)(H:af (o' w0 P p w))(res:Except Nat cH)(dQ:af ((if p.unit≠0 then .error 4 else .ok {p with unit:=cn})=res)):
  Calls Tryz.prog 96 #[ah P 0,.agg (iZ ca 9 cn cQ dJ bF ed ee ef bG c7 bv)] w fun e w'=>jK w0 P res e w':=by
 obtain⟨R,m,L,fu,cv,ov,cx,ox,h⟩:=H.out;have H1:=aq h;clear h H;go_enter Pz,PA;go_upto_region 8 with fail;have c1:=aq (H1.out.below (a' w (ai (iZ ca 9 cn cQ dJ bF ed ee ef bG c7 bv) ic)));have di:af ((w.alloc (ai (iZ ca 9 cn cQ dJ bF ed ee ef bG c7 bv) ic)).heap[w.heap.size]?=some (.cells (iZ ca 9 cn cQ dJ bF ed ee ef bG c7 bv) ic)):=cd _ _;generalize w.alloc (.cells (iZ ca 9 cn cQ dJ bF ed ee ef bG c7 bv) ic)=W at c1 di⊢;obtain⟨u,hu⟩:=ar p.unit;have qI:af ((if u≠0 then .error 4 else .ok {p with unit:=cn})=res):=by show _=_;rw[←dQ.out,hu]
 have aN:ak W P 0 (I u):=by rw[←hu];exact cell_of (i:=0) c1.out.pl rfl
 have g0:=cR c1.out.pl 0;have d2:=cell_of (i:=2) di.out rfl;clear dQ hu;by_cases yl:u=0
 ·subst yl;have hF: .ok {p with unit:=cn}=res:=qI.out;go_wp2_with fail;go_ret;rw[←hF];exact jK.CR rfl (c1.out.HX (aQ.set (a:=⟨P,0,none⟩) (fun ax=>ax rfl) _) (by have:=dL (k:=P) (i:=0) (I cn) c1.out.pl;exact this) rfl rfl rfl rfl rfl)
 ·have hF: .error 4=res:=(by rw[←qI.out,a8 yl]);have UI:(u !=0)=true:=(by rw[xf];exact yl);go_wp2_with fail;go_ret;rw[←hF];exact⟨c1.out.aZ,rfl⟩
end c4
namespace c4
open Go.RowKit dH
open bS (C eg)
open gT (kS iX eW fG)
abbrev sz(p:cH):List qv:=(p.top::p.levels).reverse
theorem o9.at{R:afp}{B:Nat}{w:aeo}:∀{l:List qv} {hY:aev} {hs:List Nat},o9 R B w l hY hs→∀i (hi:i<l.reverse.length),∃(q:Ja) (e d:Nat),∀j,j<7→hY[i *7+j]?=(CQ (l.reverse[i]) (ad q e d))[j]?
 |[],_,_,_,i,hi=>absurd hi (nB _)
 |v::l,hY,hs,⟨qe,gs,ov,ox,av,az,aF,bk,b9⟩,i,hi=>by
  have hlen:=o9.len b9;rw[yT,eP] at hi;by_cases b1:i<l.length
  ·obtain⟨q,e,d,bl⟩:=o9.at b9 i (by rw[yT];exact b1);refine⟨q,e,d,fun j cr=>?_⟩;rw[av,UH (by omega),bl j cr];simp only[PB];rw[N8 (by rw[yT];exact b1)]
  ·have e:i=l.length:=(by omega);obtain⟨q,d,rfl⟩:=jf aF;refine⟨q,v.fc.length,d,fun j cr=>?_⟩;rw[av,EI (by omega),show i *7+j-qe.length=j by omega];simp only[PB];rw[Sz (by rw[yT];omega)];simp
theorem gr.rowAt{w0:aeo}{P:Nat}{R:afp}{m:Nat}{L:rp}{fu:Int}{cv ov:ada}{cx ox:aev}{p:cH}{w:aeo}(h:gr w0 P R m L fu cv ov cx ox p w)(i:Nat)(hi:i<(sz p).length):∃(q:Ja) (e d:Nat),∀j,j<7→w.cell? ⟨L.b,i *7+j,none⟩=(CQ ((sz p)[i]) (ad q e d))[j]?:=by
 have hlen:=h.ni.len;have hn:=h.rq;have acS:i<p.levels.length+1:=by rw[yT] at hi;exact hi
 by_cases b1:i<p.levels.length
 ·obtain⟨q,e,d,bl⟩:=h.ni.at i (by rw[yT];exact b1);refine⟨q,e,d,fun j cr=>?_⟩;rw[h.gG.cellAt (i *7+j) (by omega),UH (by omega),bl j cr];simp only[sz,PB];rw[N8 (by rw[yT];exact b1)]
 ·have e:i=p.levels.length:=(by omega);obtain⟨q,d,rfl⟩:=jf h.aB;refine⟨q,p.top.fc.length,d,fun j cr=>?_⟩;rw[h.gG.cellAt (i *7+j) (by omega),EI (by omega),show i *7+j-L.hY.length=j by omega];simp only[sz,PB];rw[Sz (by rw[yT];omega)];simp
def PH(code:Int)(v:qv):Bool:=!v.step&&decide (v.code=code)
theorem aoE(p:cH)(code:Int):Ah p code=((p.jA code).isSome ||((sz p).drop 1).any (PH code)):=by
 unfold Ah
 congr 1
 have:(sz p).drop 1=((p.top::p.levels).dropLast).reverse:=by unfold sz;rw[List.drop_one,List.tail_reverse]
 rw[this,List.any_reverse];rfl
variable{j:Nat}
theorem aoF{a:Bool}{f:qv→Bool}{l:List qv}(cr:j<l.length):(a ||(l.take (j+1)).any f)=((a ||(l.take j).any f)|| f l[j]):=by rw[y5 cr,List.any_append];simp[Bool.or_assoc]
theorem aoG(w0:aeo)(P:Nat)(p:cH)(code:Int)(w:aeo)(H:af (o' w0 P p w))(uY:p.levels.length≤1000)(t:Bool)(bB:af (Ah p code=t)):
    Calls Tryz.prog 141 #[ah P 0,I code] w fun e w'=>e=ab (U t)∧ao w w w':=by
  obtain⟨R,m,⟨ey,lM,lc,hY,hs,eK,bD⟩,fu,cv,ov,cx,ox,h⟩:=H.out;have H1:=aq h;have c9:af (((p.jA code).isSome ||((sz p).drop 1).any (PH code))=t):=(by show _=_;rw[←aoE];exact bB);obtain⟨v,o4,aS⟩:=h.mp.look code;obtain⟨b,ay⟩:∃b,(p.jA code).isSome=b:=⟨_,rfl⟩
  obtain⟨aC,aE,fJ,y3,y4,oq,y6,sh,si,cE,bo,bW,cj,eb,dy,eU,n3,a1,a6,ch,C7⟩:∃(aC aE fJ y3 y4 oq y6 sh si:Int) (cE bo:Bool) (bW cj eb:Ja) (dy eU n3 a1 a6 ch:Nat),v=.agg #[I aC,I aE,I fJ,I y3,I y4,I oq,I y6,I sh,ad bW dy a1,ad cj eU a6,I si,U cE,U bo,ad eb n3 ch]:=by
    cases ha:p.jA code with
    |none=>rw[ha] at aS;exact⟨_,_,_,_,_,_,_,_,_,_,_,_,_,_,_,_,_,_,_,_,aS⟩
    |some a=>
      rw[ha] at aS;obtain⟨pl,cl,pp,cp,l3,co,av,_⟩:=aS;exact⟨_,_,_,_,_,_,_,_,_,_,_,_,_,_,_,_,_,_,_,_,av⟩
  subst C7;rw[ay] at o4 c9;have b2:w.cell? ⟨P,6,none⟩=some (.map (some m)):=cell_of (i:=6) h.pl rfl;have vh:=lt_of_heap h.pl;have Bd:m<w.heap.size:=(by obtain⟨_,_,hm⟩:=h.mp.map;exact lt_of_heap hm);have q7:=o4 w.drew rfl;have mB:=o4 (w.alloc (ai (#[I 0,I 0,I 0,I 0,I 0,I 0,I 0,I 0,J 0,J 0,I 0,U false,U false,J 0]) qJ)).drew (xq _ _ _ Bd);have N1:=o4 w rfl;have sr:lM=p.levels.length+1:=h.rq;have im:af ((sz p).length=lM):=(by show _=_;rw[yT,eP,sr]);have axO:1≤lM∧lM≤1001:=by omega
  have FC:lM≤lc:=by
    have b9:=h.gG;rcases b9.2 with ⟨cW,eN⟩|⟨k,cap,cur,cW,_,_,eN,_⟩
    · cases cW
    · injection cW with _ _ ff
      have ff:lc=cap:=ff;have eN:lM≤cap:=eN;omega
  clear o4 aS ay h H bB uY sr;go_enter Tryz.func141,Tryz.ntmps141;go_upto_region 2 with fail;have aO:af (ao w w (w.alloc (ai (#[I aC,I aE,I fJ,I y3,I y4,I oq,I y6,I sh,ad bW dy a1,ad cj eU a6,I si,U cE,U bo,ad eb n3 ch]) qJ))):=a' _ _;clear q7 mB N1 b2 vh Bd;generalize w.alloc (.cells #[I aC,I aE,I fJ,I y3,I y4,I oq,I y6,I sh,ad bW dy a1,ad cj eU a6,I si,U cE,U bo,ad eb n3 ch] qJ)=W at aO⊢;have c1:=aq (H1.out.below aO.out);have Lk:W.cell? ⟨P,21,none⟩=some (ad (some (aj ey 0)) lM lc):=cell_of (i:=21) c1.out.pl rfl;obtain⟨n,hn⟩:∃n,lM=n+1:=⟨lM-1,by omega⟩;subst hn;obtain⟨d,hd⟩:∃d,lc=d+1:=⟨lc-1,by omega⟩;subst hd;have bU:(1:Int)≤(n:Int)+1:=(by omega);have a7:(n:Int)+1≤(d:Int)+1:=(by omega);have acM:af (o' w0 P p W):=⟨_,_,_,_,_,_,_,_,c1.out⟩;go_upto_region 3 with fail
  all_goals
    clear Lk bU a7
    go_loopw [6,24] (fun f i wr=>∃(j:Nat) (a:Bool) (aK:aeo),aK=wr∧j≤n∧i=I j∧f=U a∧af (a=(b ||(((sz p).drop 1).take j).any (PH code)))∧af (Below W.heap.size W aK)) (fun _ i _=>n -(intOf i).toNat)
    case atStart=>exact⟨0,b,_,rfl,eE _,rfl,rfl,by show _=_;simp,Below.refl _ _⟩
    case round=>
    obtain⟨j,a,aK,rfl,cr,rfl,rfl,cc,jv⟩:=hrel;by_cases b1:j<n
    · first
        |(exfalso;omega)
        | (have i':(j:Int)<(n:Int):=by omega
           have Ks:(0:Int)≤(j:Int):=(by omega);have q7:j+1<(sz p).length:=(by rw[im.out];omega);have dM:=aq (c1.out.below jv.out);obtain⟨acT,on,od,bl⟩:=dM.out.rowAt (j+1) q7;obtain⟨⟨vs,Ic,acU,acV,⟨cM,cN⟩,fg⟩,aS⟩:∃v,(sz p)[j+1]=v:=⟨_,rfl⟩;rw[aS,show (j+1) *7=7+j *7 by omega] at bl;have gZ:aK.cell? ⟨ey,7+j *7,none⟩=some (U vs):=bl 0 (by decide);have fM:aK.cell? ⟨ey,7+j *7+1,none⟩=some (I Ic):=bl 1 (by decide);have kO:aK.cell? ⟨ey,7+j *7+2,none⟩=some (I acU):=bl 2 (by decide);have p5:aK.cell? ⟨ey,7+j *7+3,none⟩=some (I acV):=bl 3 (by decide);have tc:aK.cell? ⟨ey,7+j *7+4,none⟩=some (I cM):=bl 4 (by decide);have td:aK.cell? ⟨ey,7+j *7+5,none⟩=some (I cN):=bl 5 (by decide);have p6:aK.cell? ⟨ey,7+j *7+6,none⟩=some (ad acT on od):=bl 6 (by decide)
           have jT:af ((a ||(!vs&&decide (Ic=code)))=(b ||(((sz p).drop 1).take (j+1)).any (PH code))):=by
             show _=_;rw[aoF (by rw[gI,im.out];omega),←cc.out,Sy]
             congr 1
             have a1:(sz p)[1+j]'(by omega)=(sz p)[j+1]:=(by congr 1;omega);rw[a1,aS];rfl
           have kV:af (ao W W (aK.alloc (ai (#[U vs,I Ic,I acU,I acV,I cM,I cN,ad acT on od]) oz))):=jv.out.alloc jv.out.size _;have he:(Ic==code)=decide (Ic=code):=rfl;generalize decide (Ic=code)=e at jT he;clear bl aS dM;cases a<;>cases vs
           all_goals
             have vj:=jT;simp only[Bool.false_or,Bool.true_or,Bool.not_true,Bool.not_false,JW,NT,Bool.or_false] at vj;go_wp2_with fail;go_round<;>first|exact⟨j+1,_,_,rfl,by omega,by go_num,rfl,vj.out,kV.out⟩|(simp[intOf]<;>omega))
    · have iR:j=n:=by omega
      subst iR;have hF:a=t:=(by rw[cc.out,←c9.out,vX (by rw[gI,im.out];omega)]);subst hF;go_wp2_with fail;go_ret;exact⟨rfl,aO.out.trans (jv.out.mono aO.out.size)⟩
theorem aoH:(Tryz.prog.info? 266).map (fun i=>(i.zero,i.size,i.bytes))=some (some (.agg #[aa ⟨#[]⟩,J 0]),2,40):=by kernel_rfl
theorem gr.aoI{w0:aeo}{P:Nat}{R:afp}{m:Nat}{L:rp}{fu:Int}{cv ov:ada}{cx ox:aev}{p:cH}{X Y cA:aeo}{n dh c:Nat}{a:jz}{q:Ja}{d:Nat}
  (h:gr w0 P R m L fu cv ov cx ox p X) (hn:p.fB.length=n) (CD:ao X X Y) (ba:Y.grownBy cA L.eK.ownBlock) (cI:cA.ownsRow w0.heap.size qK 2 (ag dh 0 (n+1) c) (n+1) (L.bD++[aa ⟨a.name.toArray⟩,ad q a.b.length d])) (hw:some dh=L.eK.ownBlock∨Y.heap.size≤dh) (ay:fG 0 w0 q a.b):
  gr w0 P R m {L with eK:=ad (some (aj dh 0)) (n+1) c,bD:=L.bD++[aa ⟨a.name.toArray⟩,ad q a.b.length d]} fu cv ov cx ox {p with fB:=p.fB++[a]} (cA.setCell (aj P 8) (ag dh 0 (n+1) c)):=by
 have lj:=h.below CD;obtain⟨zv,cur,gp⟩:=sq cI;have hne:∀k cs t ei,X.heap[k]?=some (.cells cs t ei)→t≠qK→t≠zG→L.eK.ownBlock≠some k∧k≠P:=fun k cs t ei ax av az=>⟨so h.hC ax (gJ av),lL ax h.pl az⟩;have hK:aQ (fun k=>L.eK.ownBlock≠some k∧k≠P) X (cA.setCell (aj P 8) (ag dh 0 (n+1) c)):=((aQ.dI CD).trans (aQ.grown ba fun k e ax=>ax.1 e)).trans (aQ.set (a:=⟨P,8,none⟩) (fun ax=>ax.2 rfl) _);have aoJ:=so h.hC h.pl (by decide);have Ie:an cA P (T2 p fu m L cv) zG:=(ba.block P (lt_of_heap lj.pl) (gJ aoJ)).trans lj.pl;have hR:∀k,R k→L.eK.ownBlock≠some k∧k≠P:=fun k ax=>⟨(h.mH k ax).ku,(h.mH k ax).Lh⟩;obtain⟨es,Fb,tI⟩:=h.mp.map;have Ig:∀{e:aai} {bG n:Nat} {v:ada} {xs:aev},X.ownsRow w0.heap.size e bG v n xs→e≠qK→e≠zG→∀k,v.ownBlock=some k→L.eK.ownBlock≠some k∧k≠P:=by intro e bG n v xs hr av az k ax;obtain⟨_,_,c,hc⟩:=o8 hr ax;exact hne _ _ _ _ hc av az
 have aoK:∀k,R k→dh≠k:=by
  intro k ax e;subst e;rcases hw with e|e
  ·exact (h.mH dh ax).ku e.symm
  ·have:=(h.nN dh ax).2;have:=CD.size;omega
 exact {
  pl:=by have:=dL (k:=P) (i:=8) (ag dh 0 (n+1) c) Ie;exact this
  mp:=h.mp.keep hK ⟨abX h.hC tI,(A' h.pl tI).symm⟩ hR
  rq:=h.rq
  gG:=mF h.gG hK (Ig h.gG (by decide) (by decide))
  ni:=h.ni.keep hK hR fun k hm=>by obtain⟨_,_,c,hc⟩:=h.ni.Fa k hm;exact hne _ _ _ _ hc (by decide) (by decide)
  zH:=h.zH
  Ba:=h.Ba
  bF:=h.bF.keep hK hR (fun k cur t aJ bB=>hne _ _ _ _ aJ (by rcases bB with rfl|rfl<;>decide) (by rcases bB with rfl|rfl<;>decide))
  aB:=mF h.aB hK (Ig h.aB (by decide) (by decide))
  tH:=h.tH.keep (hK.mono fun k _ ax=>hR k ax)
  hC:=by show World.ownsRow _ _ _ _ _ (p.fB++[a]).length _;rw[show (p.fB++[a]).length=n+1 by rw[hl,hn];rfl];exact mF cI (aQ.set (S:=fun k=>k≠P) (a:=⟨P,8,none⟩) (fun ax=>ax rfl) _) fun k e=>by have a6:dh=k:=(by simpa[Value.ownBlock] using e);rw[←a6];exact lL gp Ie (by decide)
  yd:=h.yd.snoc ay
  nN:=fun k ax=>⟨(h.nN k ax).1,jN (h.nN k ax).2 hK.size⟩
  mH:=fun k ax=>
   have hc:=h.mH k ax
   ⟨hc.Lh,hc.T3,hc.abZ,hc.anf,hc.Li,fun e=>aoK k ax (by simpa[Value.ownBlock] using e),hc.ang⟩
  ye:=h.ye
  zI:=h.zI
  aZ:=h.aZ.trans (hK.below _ h.aZ.size fun k ax=>⟨fun e=>by have:=(o8 h.hC e).1;omega,by have:=h.ye;omega⟩)}
theorem aoL{f:jz→Bool}{l:List jz}(cr:j<l.length)(h:(l.take j).any f=false)(hf:f l[j]=false):(l.take (j+1)).any f=false:=by rw[y5 cr,List.any_append,h];simp[hf]
theorem aoM{f:jz→Bool}{l:List jz}(cr:j<l.length)(hf:f l[j]=true):l.any f=true:=List.any_eq_true.2 ⟨_,mu cr,hf⟩
theorem aoN(a b:au):((⟨a.toArray⟩:Ua).toList==b)=(a==b):=by rw[oN]
theorem aoO(w0:aeo)(P:Nat)(p:cH)(ca cn cQ:Int)(dJ:Bool)(bF ed ee ef bG:au)(c7:ada)(h':List eg)(me:Ja)(rO:Nat)(w:aeo)(H:af (o' w0 P p w))(ll:af (fG 0 w0 me h'))(EB:p.fB.length≤1000000)(res:Except Nat cH)(dQ:af ((if p.fB.any (fun m=>m.name==bF)=true then .error 4 else .ok {p with fB:=p.fB++[⟨bF,h'⟩]})=res)):
  Calls Tryz.prog 96 #[ah P 0,.agg (iZ ca 19 cn cQ dJ bF ed ee ef bG c7 (ad me h'.length rO))] w fun e w'=>jK w0 P res e w':=by
 obtain⟨R,m,⟨ey,lM,lc,hY,hs,eK,bD⟩,fu,cv,ov,cx,ox,h⟩:=H.out;have H1:=aq h;obtain⟨s3,uI⟩:=ar h'.length;have Es:=aq uI;obtain⟨n,hn⟩:=ar p.fB.length;have bf:=aq hn;have axP:n≤1000000:=by rw[←hn];exact EB
 have cI:w.ownsRow w0.heap.size qK 2 eK p.fB.length bD:=h.hC;rw[hn] at cI;obtain⟨pm,Ih,rfl⟩:=jf cI;have tu:=aq cI;have CT:af (vf w0 p.fB bD):=h.yd;rw[uI];clear h H cI hn uI EB;go_enter Pz,PA;go_upto_region 12 with fail;have c1:=aq (H1.out.below (a' w (ai (iZ ca 19 cn cQ dJ bF ed ee ef bG c7 (ad me s3 rO)) ic)));have di:af ((w.alloc (ai (iZ ca 19 cn cQ dJ bF ed ee ef bG c7 (ad me s3 rO)) ic)).heap[w.heap.size]?=some (.cells (iZ ca 19 cn cQ dJ bF ed ee ef bG c7 (ad me s3 rO)) ic)):=cd _ _;have aO:af (ao w w (w.alloc (ai (iZ ca 19 cn cQ dJ bF ed ee ef bG c7 (ad me s3 rO)) ic))):=a' _ _;generalize w.alloc (.cells (iZ ca 19 cn cQ dJ bF ed ee ef bG c7 (ad me s3 rO)) ic)=W at c1 di aO⊢;obtain⟨D,cb⟩:=ar w.heap.size;rw[cb] at di⊢;clear cb;have c5:ak W P 8 (ad pm n Ih):=cell_of (i:=8) c1.out.pl rfl;go_upto_region 13 with fail;clear c5
 go_loopw [57] (fun i wr=>∃(j:Nat) (aK:aeo),aK=wr∧j≤n∧i=I j∧af ((p.fB.take j).any (fun m=>m.name==bF)=false)∧af (ao W W aK)) (fun i _=>n -(intOf i).toNat)
 case atStart=>exact⟨0,_,rfl,eE _,rfl,rfl,Below.refl _ _⟩
 case round=>
 obtain⟨j,aK,rfl,cr,rfl,acW,jv⟩:=hrel;have dM:=aq (c1.out.below jv.out);have nO:=aq (aU di.out jv.out);by_cases b1:j<n
 ·have i':(j:Int)<(n:Int):=(by omega);have Ks:(0:Int)≤(j:Int):=(by omega);have fL:j<p.fB.length:=(by rw[bf.out];exact b1);obtain⟨acX,md,oe,jR,_⟩:=CT.out.get j fL;have d':=e9 tu.out (aO.out.trans (jv.out.mono aO.out.size))
  obtain⟨nA,rfl⟩:∃b,pm=some ⟨b,0,none⟩:=by
   rcases d'.2 with ⟨_,aT⟩|⟨g,_,_,ba,_⟩
   ·omega
   ·injection ba with ba;exact⟨g,ba⟩
  have gZ:ak aK nA (j *2) (aa ⟨(p.fB[j]).name.toArray⟩):=(d'.cellAt (j *2) (by omega)).trans oe;have fM:ak aK nA (j *2+1) (ad acX (p.fB[j]).b.length md):=(d'.cellAt (j *2+1) (by omega)).trans jR;have PF:=aoN (p.fB[j]).name bF;have d5:ak aK D 5 (aa ⟨bF.toArray⟩):=cell_of (i:=5) nO.out rfl;have sj:=lt_of_heap nO.out;obtain⟨e,he⟩:=ar ((p.fB[j]).name==bF);have bm:=aq he;rw[he] at PF;generalize (⟨(p.fB[j]).name.toArray⟩:Ua)=aoP at gZ PF;generalize (p.fB[j]).b.length=aoQ at fM;clear oe jR d' he;have kV:af (ao W W (aK.alloc (ai (#[aa aoP,ad acX aoQ md]) qK))):=jv.out.alloc jv.out.size _;cases e with
  |true=>
   have hF: .error 4=res:=(by rw[←dQ.out,a8 (aoM fL bm.out)]);go_wp2_with fail;go_ret;rw[←hF];exact⟨c1.out.aZ.trans (kV.out.mono c1.out.aZ.size),rfl⟩
  |false=>
   have aoR:=aq (aoL fL acW.out bm.out);go_wp2_with fail;go_round<;>first|exact⟨j+1,_,rfl,by omega,by go_num,aoR.out,kV.out⟩|(simp[intOf]<;>omega)
 ·have iR:j=n:=(by omega);subst iR;have hF: .ok {p with fB:=p.fB++[⟨bF,h'⟩]}=res:=(by have av:=acW.out;rw[vX (by rw[bf.out];exact bx _)] at av;rw[←dQ.out,av];rfl);have aP:=aq hF;have d5:ak aK D 5 (aa ⟨bF.toArray⟩):=cell_of (i:=5) nO.out rfl;have d11:ak aK D 11 (ad me s3 rO):=cell_of (i:=11) nO.out rfl;have c5:ak aK P 8 (ad pm j Ih):=cell_of (i:=8) dM.out.pl rfl;have f5:=cR dM.out.pl 8;have sj:=lt_of_heap nO.out;have vh:=lt_of_heap dM.out.pl;have gK:=dM.out.aZ.size;have d':=e9 tu.out (aO.out.trans (jv.out.mono aO.out.size));have jg:af ((aK.drew.alloc (ai (#[aa ⟨bF.toArray⟩,ad me s3 rO]) qK)).ownsRow w0.heap.size qK 2 (ad pm j Ih) j bD):=d'.drew.alloc _;have oh:af (ao aK aK (aK.drew.alloc (ai (#[aa ⟨bF.toArray⟩,ad me s3 rO]) qK))):=(Below.refl _ _).drew.alloc (bx _) _;have l7:∀(cA:aeo),(aK.drew.alloc (ai (#[aa ⟨bF.toArray⟩,ad me s3 rO]) qK)).grownBy cA (Value.slice pm j Ih).ownBlock→ak cA P 8 (ad pm j Ih)∧cA.frozen? ⟨P,8,none⟩=false:=(by intro cA uT;have Ie:=aU dM.out.pl oh.out;have av:=(uT.block _ (lt_of_heap Ie) (gJ (so jg.out Ie (by decide)))).trans Ie;exact⟨cell_of av rfl,cR av 8⟩);obtain⟨i0,hi,dE,dP,dq⟩:=info_parts aoH;have bZ:=aq (And.intro hi (And.intro dE (And.intro dP dq)));clear hi dE dP dq d' hF;go_upto_region 18 with fail
  go_region_law (first|(refine Cr _ (by rfl) _ _ _ (by rfl) w0.heap.size qK i0 (.agg #[aa ⟨#[]⟩,J 0]) 2 40 Tryz.underlying162 bZ.out.1 bZ.out.2.1 bZ.out.2.2.1 bZ.out.2.2.2 rfl (by omega) (ad pm j Ih) j _ (by rfl) jg.out (aj aK.heap.size 0) 1 1 [aa ⟨bF.toArray⟩,ad me s3 rO] (by rfl) (by rfl) (kc (cs:= #[aa ⟨bF.toArray⟩,ad me s3 rO]) (t:=qK) (fr:=(0,0)) (ga aK _)) (by simp[Value.oneCell']) (by omega) (by unfold maxLen;omega) (by omega) (by simp;omega) (aK.heap.size+1) (by simp) ?_;intro dh hg bt cI dO eJ hV;obtain⟨bW,cj⟩:=l7 bt dO)|fail)
  all_goals
   have jI:=gr.aoI (a:=⟨bF,h'⟩) dM.out bf.out oh.out dO (by rw[Es.out];exact cI) (eJ.imp Eq.symm (fun h=>by rw[h];exact HZ (qf _))) ll.out;clear cI dO eJ hV bW cj d5 d11 c5 f5 l7;go_wp2_with fail;go_ret;rw[←aP.out];exact jK.CR rfl jI
end c4
