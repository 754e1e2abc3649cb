/- Lemmas. -/
import Derived.Test.YtfldplmgkeiimaaGreatDoorR21
set_option linter.all false
set_option maxRecDepth 100000
set_option maxHeartbeats 12800000
namespace Go.Proofs.YtfldplmgkeiimaaGreatDoor
abbrev OH:=@Proofs.Tryz.func96
abbrev OI:=@Proofs.Tryz.ntmps96
abbrev OJ:=@List.reverse_cons
namespace dd
open Go.RowKit ef
open ct (C)
open iS (lu jm)
open ym (hH h6)
open GM (TJ GN)
abbrev Cc:TypeId:=161
abbrev GU:TypeId:=276
abbrev aln:TypeId:=277
def Cd(res:Except Nat cT):Prop:=∀k,res=.error k→k≠0
variable{p:cT}
theorem aaG{d:Bool}{s:eg}{t:gN}:Cd (kG p d s t):=fun k h=>by rcases aam h with rfl|rfl<;>decide
theorem aaH{f:Bool→Bool}{t:gN}:∀{l:List eu} {p:cT},Cd (lJ f t l p)
 |[],_,k,h=>by cases h
 |o::l,p,k,h=>by
  unfold lJ at h;split at h
  ·rename_i e he;injection h with h;subst h;exact aaG _ he
  ·exact aaH _ h
theorem aaI{q:b3}:Cd (wW p q):=by
 intro k h;unfold wW at h;split at h
 ·cases h;decide
 ·split at h
  ·cases h;decide
  ·split at h
   ·exact aaG _ h
   ·exact aaH _ h
variable{u v:Int}
theorem aaJ{n:Int}(h:h6 n u=some v):-536870912≤v∧v≤536870912:=by
 unfold h6 at h;split at h
 ·rename_i aK;injection h with h;rw[←h];exact aK.2.2
 ·cases h
theorem alo{l:au}{i d:Int}{t:Bool}(h:hH l u i d t=some v):-536870912≤v∧v≤536870912:=by
 unfold hH at h;split at h
 ·exact aaJ h
 ·cases h
variable{w:aeo}
theorem gp.setAt{w0:aeo}{P:Nat}{R:afp}{m:Nat}{L:qR}{fu:Int}{cv ov:ada}{cx ox:aev}(h:gp w0 P R m L fu cv ov cx ox p w)(a b:Int):
  gp w0 P R m L fu cv ov cx ox {p with at_:=(a,b)} ((w.setCell (aj P 9) (I a)).setCell (aj P 10) (I b)):=by
 refine h.GF ((aP.set (a:=⟨P,9,none⟩) (fun ay=>ay rfl) _).trans (aP.set (a:=⟨P,10,none⟩) (fun ay=>ay rfl) _)) ?_ rfl rfl rfl rfl rfl;have:=dt (k:=P) (i:=10) (I b) (dt (k:=P) (i:=9) (I a) h.pl);exact this
def nW(x y i j:au):Nat→List UInt8
 |0=>x
 |1=>y
 |2=>i
 |_=>j
def Ce(p:cT):Nat→Int
 |0=>p.at_.1
 |1=>p.at_.2
 |_=>0
abbrev OK(dZ:Nat→Int):Array Value:= #[I (dZ 0),I (dZ 1),I (dZ 2),I (dZ 3)]
variable{j:Nat}
theorem alp(dZ:Nat→Int)(v:Int)(cd:j<4):(OK dZ).setIfInBounds j (I v)=OK (fun i=>if i=j then v else dZ i):=by rcases (show j=0∨j=1∨j=2∨j=3 by omega) with rfl|rfl|rfl|rfl<;>rfl
theorem alq(x y i l:au)(cd:j<4)(w:aeo):(Instr.index aln (.agg #[aa ⟨x.toArray⟩,aa ⟨y.toArray⟩,aa ⟨i.toArray⟩,aa ⟨l.toArray⟩]) (I (j:Int))).run Tryz.prog w=.ok (aa ⟨(nW x y i l j).toArray⟩) w:=by rcases (show j=0∨j=1∨j=2∨j=3 by omega) with rfl|rfl|rfl|rfl<;>simp[Instr.index,jC Tryz.underlying277,asIntOf,go_sem,part,nW]
variable{dZ:Nat→Int}
theorem alr{k:Nat}(h:an w k (OK dZ) GU)(cd:j<4):ak w k j (I (dZ j)):=by rcases (show j=0∨j=1∨j=2∨j=3 by omega) with rfl|rfl|rfl|rfl<;>simp[World.cell?,h]
structure GV(w:aeo)(D:Nat)(o:Obj)(u kF fd:Int)(eJ:Bool)(dZ:Nat→Int)(x:aeo):Prop where
 aX:ao w w x
 cP:x.heap[D]?=some o
 mH:an x (D+1) (#[I u,I kF,I fd,U eJ]) Cc
 vs:an x (D+1+1) (OK dZ) GU
theorem GV.below{D:Nat}{o:Obj}{kF fd:Int}{eJ:Bool}{x y:aeo}(h:GV w D o u kF fd eJ dZ x)(ax:ao x x y):GV w D o u kF fd eJ dZ y:=⟨h.aX.trans (ax.mono h.aX.size),aU h.cP ax,aU h.mH ax,aU h.vs ax⟩
def vO(p:cT)(c:C)(dZ:Nat→Int)(j:Nat):Prop:=(∀i,i<j→kc p (nW c.x c.y c.i c.j i) (Ce p i)=some (dZ i))∧∀i,j≤i→dZ i=Ce p i
def aaK(wV:b3):Except Nat cT→Except Nat cT
 |.error e=>.error e
 |.ok q=>.ok {q with at_:=wV}
variable{c:C}
theorem aaL(hn:c.n=3)(hu:¬(p.unit=0∨p.formed=false))(h:vO p c dZ 4):sr p c=aaK (dZ 0,dZ 1) (wW p (dZ 0,dZ 1)):=by unfold sr;have aS:kc p c.x p.at_.1=some (dZ 0):=h.1 0 (by decide);have av:kc p c.y p.at_.2=some (dZ 1):=h.1 1 (by decide);have az:kc p c.i 0=some (dZ 2):=h.1 2 (by decide);have aC:kc p c.j 0=some (dZ 3):=h.1 3 (by decide);rw[aW hu,aS,av,az,aC];simp only;rw[aW (by omega),aW (by omega),bb hn];split<;>rename_i hx<;>rw[hx]<;>rfl
theorem als(cd:j<4)(hu:¬(p.unit=0∨p.formed=false))(h:vO p c dZ j)(hn:kc p (nW c.x c.y c.i c.j j) (Ce p j)=none):sr p c=.error 5:=by
 unfold sr;rw[aW hu];rcases (show j=0∨j=1∨j=2∨j=3 by omega) with rfl|rfl|rfl|rfl
 ·have hn:kc p c.x p.at_.1=none:=hn;rw[hn]
 ·have hn:kc p c.y p.at_.2=none:=hn;have aS:kc p c.x p.at_.1=some (dZ 0):=h.1 0 (by decide);rw[aS,hn]
 ·have hn:kc p c.i 0=none:=hn;have aS:kc p c.x p.at_.1=some (dZ 0):=h.1 0 (by decide);have av:kc p c.y p.at_.2=some (dZ 1):=h.1 1 (by decide);rw[aS,av,hn]
 ·have hn:kc p c.j 0=none:=hn;have aS:kc p c.x p.at_.1=some (dZ 0):=h.1 0 (by decide);have av:kc p c.y p.at_.2=some (dZ 1):=h.1 1 (by decide);have az:kc p c.i 0=some (dZ 2):=h.1 2 (by decide);rw[aS,av,az,hn]
theorem vO.step(h:vO p c dZ j)(aY:kc p (nW c.x c.y c.i c.j j) (Ce p j)=some v):vO p c (fun i=>if i=j then v else dZ i) (j+1):=by
 refine⟨fun i hi=>?_,fun i hi=>?_⟩
 ·by_cases e:i=j
  ·subst e;simpa using aY
  ·simpa[e] using h.1 i (by omega)
 ·have e:¬i=j:=(by omega);simpa[e] using h.2 i (by omega)
theorem vO.same(h:vO p c dZ j)(he:nW c.x c.y c.i c.j j=[]):vO p c dZ (j+1):=by
 refine⟨fun i hi=>?_,fun i hi=>h.2 i (by omega)⟩;by_cases e:i=j
 ·subst e;unfold kc;rw[bb he,h.2 i (bx _)]
 ·exact h.1 i (by omega)
theorem vO.B7{p:cT}{c:C}{dZ:Nat→Int}(h:vO p c dZ 4)(cz:B7 p.at_):∀i,i<4→-536870912≤dZ i∧dZ i≤536870912:=by
 intro i hi;have av:=h.1 i hi;unfold kc at av;split at av
 ·injection av with av;rw[←av];unfold dd.B7 at cz;rcases (show i=0∨i=1∨i=2∨i=3 by omega) with rfl|rfl|rfl|rfl<;>simp only[Ce]<;>omega
 ·exact alo av
theorem alu(w0:aeo)(P:Nat)(p:cT)(c:C)(ca:Int)(cK bv:ada)(w:aeo)(H:af (oE w0 P p w))(yz:c.n=3)(cz:oH p)(kK:af (∀i,(nW c.x c.y c.i c.j i).length≤1000000000))(res:Except Nat cT)(dA:af (sr p c=res)):
  Calls Tryz.prog 99 #[ah P 0,lu c ca cK bv] w fun e w'=>jM w0 P res e w':=by
 obtain⟨R,m,L,fu,cv,ov,cx,ox,h⟩:=H.out;have H1:=aq h;have rL:=aq cz;obtain⟨u,Em⟩:=ar p.unit;obtain⟨kF,y2⟩:=ar p.kF;obtain⟨fd,Kj⟩:=ar p.fd;obtain⟨eJ,Bz⟩:=ar p.eJ;obtain⟨mH,tS⟩:=ar p.formed;have oT:=aq Em;have aaM:af (∀s was,kc p s was=if s=[] then some was else hH s u kF fd eJ):=fun s was=>by unfold kc;rw[Em,y2,Kj,Bz]
 obtain⟨na,ka⟩:=ar c;have ui:=aq ka;have uT:af (na.n=3):=by rw[←ka];exact yz
 obtain⟨eZ,cn,cP,dz,bz,d',ea,eb,bD,da,fN⟩:=c;have yz:cn=3:=yz;subst yz;rw[ka] at kK dA;show Calls _ _ #[ah P 0,.agg #[I ca,I eZ,I 3,I cP,U dz,aa ⟨bz.toArray⟩,aa ⟨d'.toArray⟩,aa ⟨ea.toArray⟩,aa ⟨eb.toArray⟩,aa ⟨bD.toArray⟩,cK,bv]] w _;clear h cz H ka;have IN:=aq (Eq.refl p.at_);go_enter Tryz.func99,Tryz.ntmps99;go_upto_region 1 with fail;have il:af (ao w w (w.alloc (ai (#[I ca,I eZ,I 3,I cP,U dz,aa ⟨bz.toArray⟩,aa ⟨d'.toArray⟩,aa ⟨ea.toArray⟩,aa ⟨eb.toArray⟩,aa ⟨bD.toArray⟩,cK,bv]) ia))):=a6 _ _;have OL:af ((w.alloc (ai (#[I ca,I eZ,I 3,I cP,U dz,aa ⟨bz.toArray⟩,aa ⟨d'.toArray⟩,aa ⟨ea.toArray⟩,aa ⟨eb.toArray⟩,aa ⟨bD.toArray⟩,cK,bv]) ia)).heap[w.heap.size]?=some (.cells #[I ca,I eZ,I 3,I cP,U dz,aa ⟨bz.toArray⟩,aa ⟨d'.toArray⟩,aa ⟨ea.toArray⟩,aa ⟨eb.toArray⟩,aa ⟨bD.toArray⟩,cK,bv] ia)):=bY _ _;have B5:af ((w.alloc (ai (#[I ca,I eZ,I 3,I cP,U dz,aa ⟨bz.toArray⟩,aa ⟨d'.toArray⟩,aa ⟨ea.toArray⟩,aa ⟨eb.toArray⟩,aa ⟨bD.toArray⟩,cK,bv]) ia)).heap.size=w.heap.size+1):=Array.size_push _;generalize w.alloc (.cells #[I ca,I eZ,I 3,I cP,U dz,aa ⟨bz.toArray⟩,aa ⟨d'.toArray⟩,aa ⟨ea.toArray⟩,aa ⟨eb.toArray⟩,aa ⟨bD.toArray⟩,cK,bv] ia)=W at il OL B5⊢;obtain⟨D,b2⟩:=ar w.heap.size;have kn:=aq b2;rw[b2] at OL B5⊢;have rZ:=aq (H1.out.below il.out);have aQ:ak W P 0 (I u):=by rw[←Em];exact cell_of (i:=0) rZ.out.pl rfl
 have aN:ak W P 1 (I fu):=cell_of (i:=1) rZ.out.pl rfl;have aJ:ak W P 2 (I kF):=by rw[←y2];exact cell_of (i:=2) rZ.out.pl rfl
 have c3:ak W P 3 (I fd):=by rw[←Kj];exact cell_of (i:=3) rZ.out.pl rfl
 have bF:ak W P 4 (U eJ):=by rw[←Bz];exact cell_of (i:=4) rZ.out.pl rfl
 have c5:ak W P 5 (U mH):=by rw[←tS];exact cell_of (i:=5) rZ.out.pl rfl
 have bg:ak W P 9 (I p.at_.1):=cell_of (i:=9) rZ.out.pl rfl;have cH:ak W P 10 (I p.at_.2):=cell_of (i:=10) rZ.out.pl rfl;have uk:P<W.heap.size:=lt_of_heap rZ.out.pl;by_cases fb:u=0∨mH=false
 ·have hF: .error 4=res:=(by rw[←dA.out];unfold sr;rw[Em,tS,bb fb]);clear Em y2 Kj Bz tS b2 dA;by_cases xG:u=0
  ·subst xG;go_wp2_with fail;go_ret;rw[←hF];exact⟨rZ.out.aX,rfl⟩
  ·have TK:(u==0)=false:=beq_eq_false_iff_ne.2 xG;obtain rfl:mH=false:=fb.resolve_left xG;go_wp2_with fail;go_ret;rw[←hF];exact⟨rZ.out.aX,rfl⟩
 have TK:(u==0)=false:=beq_eq_false_iff_ne.2 fun h=>fb (.inl h);have aaN:af (¬(p.unit=0∨p.formed=false)):=by show ¬_;rw[Em,tS];exact fb
 obtain rfl:mH=true:=by cases mH;exact absurd (.inr rfl) fb;rfl
 clear Em y2 Kj Bz tS fb b2 rZ;go_upto_region 5 with fail;have c6:af (ao W W (W.alloc (ai (#[I u,I kF,I fd,U eJ]) Cc))):=a6 _ _;have fT:af ((W.alloc (ai (#[I u,I kF,I fd,U eJ]) Cc)).heap[D+1]?=some (.cells #[I u,I kF,I fd,U eJ] Cc)):=by show _=_;rw[←B5.out];exact bY _ _
 have p1:af ((W.alloc (ai (#[I u,I kF,I fd,U eJ]) Cc)).heap.size=D+1+1):=by show _=_;rw[←B5.out];exact Array.size_push _
 generalize W.alloc (.cells #[I u,I kF,I fd,U eJ] Cc)=b4 at c6 fT p1⊢;rw[B5.out];have d9:=bV c6.out bg;have d10:=bV c6.out cH;have alv:P<b4.heap.size:=by have:=c6.out.size;omega
 clear aQ aN aJ c3 bF c5 bg cH uk;go_region;have r0:af (GV w D (ai (#[I ca,I eZ,I 3,I cP,U dz,aa ⟨bz.toArray⟩,aa ⟨d'.toArray⟩,aa ⟨ea.toArray⟩,aa ⟨eb.toArray⟩,aa ⟨bD.toArray⟩,cK,bv]) ia) u kF fd eJ (Ce p) (b4.alloc (ai (#[I p.at_.1,I p.at_.2,I 0,I 0]) GU)).drew):=by have er:ao b4 b4 ((b4.alloc (ai (#[I p.at_.1,I p.at_.2,I 0,I 0]) GU)).drew):=(a6 _ _).drew;refine⟨(il.out.trans (c6.out.mono il.out.size)).trans (er.mono (dx il.out.size c6.out.size)),aU (aU OL.out c6.out) er,aU fT.out er,?_⟩;have:=bY b4 (ai (#[I p.at_.1,I p.at_.2,I 0,I 0]) GU);rw[p1.out] at this;exact this
 rw[p1.out];generalize (b4.alloc (ai (#[I p.at_.1,I p.at_.2,I 0,I 0]) GU)).drew=c9 at r0⊢;clear il OL B5 c6 fT p1 d9 d10 alv;have rh:=cell_of (i:=6) r0.out.cP rfl;have pT:=cell_of (i:=7) r0.out.cP rfl;have sl:=cell_of (i:=8) r0.out.cP rfl;have a9:=cell_of (i:=9) r0.out.cP rfl;have Kh:af (∀i,nW na.x na.y na.i na.j i=nW d' ea eb bD i):=fun i=>by rw[←ui.out]
 go_wp2_with fail;clear rh pT sl a9
 go_loopw [54] (fun i wr=>∃(j:Nat) (dZ:Nat→Int) (aM:aeo),aM=wr∧j≤4∧i=I j∧af (GV w D (ai (#[I ca,I eZ,I 3,I cP,U dz,aa ⟨bz.toArray⟩,aa ⟨d'.toArray⟩,aa ⟨ea.toArray⟩,aa ⟨eb.toArray⟩,aa ⟨bD.toArray⟩,cK,bv]) ia) u kF fd eJ dZ aM)∧af (vO p na dZ j)) (fun i _=>4 -(intOf i).toNat)
 case atStart=>exact⟨0,Ce p,_,rfl,by omega,rfl,r0.out,fun i hi=>absurd hi (my _),fun i _=>rfl⟩
 case round=>
 obtain⟨j,dZ,aM,rfl,cd,rfl,b6,e0⟩:=hrel;clear r0;by_cases En:j<4
 ·have alw:(j:Int)<4:=(by omega);have mB:(0:Int)≤(j:Int):=(by omega);have kB:=fun x=>alq d' ea eb bD En x;have hlen:=kK.out j;have TL:=aq (ald (nW d' ea eb bD j));rw[Kh.out] at hlen;obtain⟨S,hS⟩:∃S:Ua,(⟨(nW d' ea eb bD j).toArray⟩:Ua)=S:=⟨_,rfl⟩;have k1:af (S.data.toList=nW d' ea eb bD j):=(by show _=_;rw[←hS]);rw[hS] at kB TL;clear hS;by_cases OM:nW d' ea eb bD j=[]
  ·have ON:S.toList.isEmpty=true:=TL.out.trans (eL OM);have tw:=aq (e0.out.same ((Kh.out j).trans OM));clear hlen;go_wp2_with fail;go_round<;>first|exact⟨j+1,dZ,_,rfl,by omega,by go_num,b6.out,tw.out⟩|(simp[intOf]<;>omega)
  ·have ON:S.toList.isEmpty=false:=TL.out.trans (ey OM);have mH:=b6.out.mH;have f0:=cell_of (i:=0) mH rfl;have f1:=cell_of (i:=1) mH rfl;have f2:=cell_of (i:=2) mH rfl;have f3:=cell_of (i:=3) mH rfl;have alx:S.size≤9223372036854775807:=(by have av:=fp List.length k1.out;have az:S.data.toList.length=S.size:=(by rw[Array.length_toList];rfl);omega);obtain⟨o,bm⟩:=ar (hH (nW d' ea eb bD j) u kF fd eJ);have zq:kc p (nW na.x na.y na.i na.j j) (Ce p j)=o:=(by rw[aaM.out,Kh.out,aW OM];exact bm);have b0:af ((hH (nW d' ea eb bD j) u kF fd eJ).getD 0=o.getD 0∧(hH (nW d' ea eb bD j) u kF fd eJ).isSome=o.isSome):=(by show _∧_;rw[bm];exact⟨rfl,rfl⟩);have aaO:=aq zq;clear mH bm zq hlen;go_wp2_with fail;with_reducible refine (TJ S (nW d' ea eb bD j) k1 u kF fd eJ _ _ b0 alx _).mono ?_
   rintro e bI ⟨rfl,dY⟩;have OO:=aq (b6.out.below dY);clear f0 f1 f2 f3 dY b0;cases o with
   |none=>
    have hF: .error 5=res:=(by rw[←dA.out];exact (als En aaN.out e0.out aaO.out).symm);go_wp2_with fail;go_ret;rw[←hF];exact⟨H1.out.aX.trans (OO.out.aX.mono H1.out.aX.size),rfl⟩
   |some v=>
    have tw:=aq (e0.out.step aaO.out);have v0:=alr OO.out.vs En;have aly:=cJ OO.out.vs j;have awI:j<4:=En;go_wp2_with fail;have oI:af (GV w D (ai (#[I ca,I eZ,I 3,I cP,U dz,aa ⟨bz.toArray⟩,aa ⟨d'.toArray⟩,aa ⟨ea.toArray⟩,aa ⟨eb.toArray⟩,aa ⟨bD.toArray⟩,cK,bv]) ia) u kF fd eJ (fun i=>if i=j then v else dZ i) (bI.setCell (aj (D+1+1) j) (I v))):=(by have h:=OO.out;refine⟨h.aX.setCell (p:=⟨D+1+1,j,none⟩) (by show _≤D+1+1;have:=kn.out;omega) _,(iK (by omega)).trans h.cP,(iK (by omega)).trans h.mH,?_⟩;have:=dt (i:=j) (I v) h.vs;rw[alp dZ v En] at this;exact this);go_round<;>first|exact⟨j+1,_,_,rfl,by omega,by go_num,oI.out,tw.out⟩|(simp[intOf]<;>omega)
 ·have iH:j=4:=(by omega);subst iH;have hU:af (ao w w aM):=b6.out.aX;have lZ:=e0.out.B7 rL.out.at_;obtain⟨Ap,i7⟩:=ar (wW p (dZ 0,dZ 1));have aO:af (aaK (dZ 0,dZ 1) Ap=res):=(by show _=_;rw[←dA.out,aaL uT.out aaN.out e0.out,←i7]);have rA:af (Cd Ap):=(by show Cd _;rw[←i7];exact aaI);have TM:af (oE w0 P p w):=⟨_,_,_,_,_,_,_,_,H1.out⟩;have i0:=lZ 0 (by decide);have lN:=lZ 1 (by decide);have alz:af (∀Z,ao w w Z→Calls Tryz.prog 149 #[ah P 0,.agg #[I (dZ 0),I (dZ 1)]] Z fun e w'=>jM w0 P Ap e w'∧aP (fun k=>w.heap.size≤k) Z w'):=fun Z eY=>akY w0 P p (dZ 0) (dZ 1) w Z TM eY rL.out (by show _∧_;unfold e1;omega) Ap i7;clear i7 lZ i0 lN;have m0:=cell_of (i:=0) b6.out.cP rfl;have m1:=cell_of (i:=1) b6.out.cP rfl;have m2:=cell_of (i:=2) b6.out.cP rfl;have m3:=cell_of (i:=3) b6.out.cP rfl;have m4:=cell_of (i:=4) b6.out.cP rfl;have m5:=cell_of (i:=5) b6.out.cP rfl;have m6:=cell_of (i:=6) b6.out.cP rfl;have m7:=cell_of (i:=7) b6.out.cP rfl;have m8:=cell_of (i:=8) b6.out.cP rfl;have m9:=cell_of (i:=9) b6.out.cP rfl;have m10:=cell_of (i:=10) b6.out.cP rfl;have m11:=cell_of (i:=11) b6.out.cP rfl;have v0:=cell_of (i:=0) b6.out.vs rfl;have v1:=cell_of (i:=1) b6.out.vs rfl;go_upto_region 17 with fail;have oI:=aq (b6.out.below (a6 aM (ai (#[I (dZ 0),I (dZ 1)]) jT)));have s3:af ((aM.alloc (ai (#[I (dZ 0),I (dZ 1)]) jT)).heap[aM.heap.size]?=some (.cells #[I (dZ 0),I (dZ 1)] jT)):=bY _ _;have aaP:w.heap.size≤aM.heap.size:=hU.out.size;clear m0 m1 m2 m3 m4 m5 m6 m7 m8 m9 m10 m11 v0 v1;generalize aM.alloc (.cells #[I (dZ 0),I (dZ 1)] jT)=fP at oI s3⊢;obtain⟨T,fC⟩:=ar aM.heap.size;rw[fC] at s3 aaP⊢;clear fC b6 hU;have m0:=cell_of (i:=0) oI.out.cP rfl;have m1:=cell_of (i:=1) oI.out.cP rfl;have m2:=cell_of (i:=2) oI.out.cP rfl;have m3:=cell_of (i:=3) oI.out.cP rfl;have m4:=cell_of (i:=4) oI.out.cP rfl;have m5:=cell_of (i:=5) oI.out.cP rfl;have m6:=cell_of (i:=6) oI.out.cP rfl;have m7:=cell_of (i:=7) oI.out.cP rfl;have m8:=cell_of (i:=8) oI.out.cP rfl;have m9:=cell_of (i:=9) oI.out.cP rfl;have m10:=cell_of (i:=10) oI.out.cP rfl;have m11:=cell_of (i:=11) oI.out.cP rfl;have v2:=cell_of (i:=2) oI.out.vs rfl;have v3:=cell_of (i:=3) oI.out.vs rfl;obtain⟨t0,t1⟩:=Oz s3.out;have hU:af (ao w w fP):=oI.out.aX;go_wp2_with fail;with_reducible refine (alz.out _ hU.out).mono ?_
  rintro e k4 ⟨Kk,TN⟩;have vP:=aq (TN.get aaP s3.out);clear m0 m1 m2 m3 m4 m5 m6 m7 m8 m9 m10 m11 v2 v3 t0 t1;cases Ap with
  |error k=>
   have qi:((k:Int)==0)=false:=(by have:=rA.out k rfl;rw[kS];omega);obtain rfl:=Kk.err rfl;have o9:af (ao w0 w0 k4):=Kk.1;have hF: .error k=res:=aO.out;clear Kk TN;go_wp2_with fail;go_ret;rw[←hF];exact⟨o9.out,rfl⟩
  |ok q=>
   obtain⟨rfl,um⟩:=Kk.get rfl;have hF: .ok {q with at_:=(dZ 0,dZ 1)}=res:=aO.out;clear Kk TN;obtain⟨awJ,m7,gT,awK,awL,awM,awN,awO,ez⟩:=um;have Kl:=aq ez;clear ez;obtain⟨t0,t1⟩:=Oz vP.out;have awP:ak k4 P 9 (I q.at_.1):=cell_of (i:=9) Kl.out.pl rfl;have Tp:ak k4 P 10 (I q.at_.2):=cell_of (i:=10) Kl.out.pl rfl;have g9:=cJ Kl.out.pl 9;have g10:=cJ Kl.out.pl 10;go_wp2_with fail;go_ret;rw[←hF];exact jM.B0 rfl (Kl.out.setAt (dZ 0) (dZ 1))
end dd
namespace dd
open Go.RowKit ef
open ct (C)
open iS (lu jm dH)
abbrev iU(ca eZ cn cP:Int)(dz:Bool)(bz d' ea eb bD:au)(cK bv:ada):Array Value:= #[I ca,I eZ,I cn,I cP,U dz,aa ⟨bz.toArray⟩,aa ⟨d'.toArray⟩,aa ⟨ea.toArray⟩,aa ⟨eb.toArray⟩,aa ⟨bD.toArray⟩,cK,bv]
theorem alA(w0:aeo)(P:Nat)(p:cT)(c:C)(ca:Int)(cK bv:ada)(w:aeo)(H:af (oE w0 P p w))(ay:c.k=6)(res:Except Nat cT)(dA:af (FP p c=res)):
  Calls Tryz.prog 97 #[ah P 0,lu c ca cK bv] w fun e w'=>jM w0 P res e w':=by
 obtain⟨R,m,L,fu,cv,ov,cx,ox,h⟩:=H.out;have H1:=aq h;obtain⟨eZ,cn,cP,dz,bz,d',ea,eb,bD,da,fN⟩:=c;have ay:eZ=6:=ay;subst ay;have aaQ:af ((if (p.jv cn).isSome=false then .error 4 else .ok {p with tM:=cn})=res):=by show _=_;rw[←dA.out];rfl
 show Calls _ _ #[ah P 0,.agg (iU ca 6 cn cP dz bz d' ea eb bD cK bv)] w _;clear h H dA;go_enter Tryz.func97,Tryz.ntmps97;go_upto_region 1 with fail;have dp:=aq (H1.out.below (a6 w (ai (iU ca 6 cn cP dz bz d' ea eb bD cK bv) ia)));have aI:af (ao w w (w.alloc (ai (iU ca 6 cn cP dz bz d' ea eb bD cK bv) ia))):=a6 _ _;have cF:af ((w.alloc (ai (iU ca 6 cn cP dz bz d' ea eb bD cK bv) ia)).heap[w.heap.size]?=some (.cells (iU ca 6 cn cP dz bz d' ea eb bD cK bv) ia)):=bY _ _;generalize w.alloc (.cells (iU ca 6 cn cP dz bz d' ea eb bD cK bv) ia)=W at dp aI cF⊢;obtain⟨D,b2⟩:=ar w.heap.size;rw[b2] at cF⊢;clear b2 H1;have d1:ak W D 1 (I 6):=cell_of (i:=1) cF.out rfl;have d2:ak W D 2 (I cn):=cell_of (i:=2) cF.out rfl;have d4:ak W D 4 (U dz):=cell_of (i:=4) cF.out rfl;obtain⟨v,oy,aY⟩:=dp.out.mp.look cn;have cR:af ((if (p.jv cn).isSome=false then .error 4 else .ok {p with tM:=cn})=res):=aaQ.out;obtain⟨b,ax⟩:=ar ((p.jv cn).isSome);rw[ax] at oy cR
 obtain⟨aE,aH,gQ,y3,y4,nR,y6,rO,rP,cS,bq,b1,cw,ei,en,fa,n3,a7,bf,cM,TO⟩:∃(aE aH gQ y3 y4 nR y6 rO rP:Int) (cS bq:Bool) (b1 cw ei:Ja) (en fa n3 a7 bf cM:Nat),v=.agg #[I aE,I aH,I gQ,I y3,I y4,I nR,I y6,I rO,ad b1 en a7,ad cw fa bf,I rP,U cS,U bq,ad ei n3 cM]:=by
  cases ha:p.jv cn with
  |none=>rw[ha] at aY;exact⟨_,_,_,_,_,_,_,_,_,_,_,_,_,_,_,_,_,_,_,_,aY⟩
  |some a=>
   rw[ha] at aY;obtain⟨pl,cl,pp,cp,lH,co,av,_⟩:=aY;exact⟨_,_,_,_,_,_,_,_,_,_,_,_,_,_,_,_,_,_,_,_,av⟩
 subst TO;have bZ:ak W P 6 (.map (some m)):=cell_of (i:=6) dp.out.pl rfl;have uk:=lt_of_heap dp.out.pl;have rQ:=lt_of_heap cF.out;have An:m<W.heap.size:=by obtain⟨_,_,hm⟩:=dp.out.mp.map;exact lt_of_heap hm
 have qk:=oy W.drew rfl;have mg:=oy (W.alloc (ai (#[I 0,I 0,I 0,I 0,I 0,I 0,I 0,I 0,J 0,J 0,I 0,U false,U false,J 0]) p6)).drew (A2 _ _ _ An);clear oy aY ax aaQ;go_upto_region 7 with fail;go_cut [6] (fun a dw=>a=U b∧(W.alloc (ai (#[I aE,I aH,I gQ,I y3,I y4,I nR,I y6,I rO,ad b1 en a7,ad cw fa bf,I rP,U cS,U bq,ad ei n3 cM]) p6)).drew=dw)
 case first=>
  go_region;all_goals go_wp2_with fail
  all_goals go_meet
  all_goals exact⟨rfl,rfl⟩
 case rest=>
  obtain⟨rfl,rfl⟩:=hcut;have dV:af (ao W W ((W.alloc (ai (#[I aE,I aH,I gQ,I y3,I y4,I nR,I y6,I rO,ad b1 en a7,ad cw fa bf,I rP,U cS,U bq,ad ei n3 cM]) p6)).drew)):=(a6 _ _).drew;clear qk mg bZ uk rQ An;generalize (W.alloc (ai (#[I aE,I aH,I gQ,I y3,I y4,I nR,I y6,I rO,ad b1 en a7,ad cw fa bf,I rP,U cS,U bq,ad ei n3 cM]) p6)).drew=c9 at dV⊢;have eo:=aq (dp.out.below dV.out);have nt:=aq (aU cF.out dV.out);cases b with
  |false=>
   have hF: .error 4=res:=cR.out;clear d1 d2 d4;go_wp2_with fail;go_ret;rw[←hF];exact⟨eo.out.aX,rfl⟩
  |true=>
   have hF: .ok {p with tM:=cn}=res:=cR.out;have d2:ak c9 D 2 (I cn):=cell_of (i:=2) nt.out rfl;have b':ak c9 P 7 (I p.tM):=cell_of (i:=7) eo.out.pl rfl;have g7:=cJ eo.out.pl 7;go_wp2_with fail;go_ret;rw[←hF];exact jM.B0 rfl (eo.out.GF (aP.set (a:=⟨P,7,none⟩) (fun ay=>ay rfl) _) (by have:=dt (k:=P) (i:=7) (I cn) eo.out.pl;exact this) rfl rfl rfl rfl rfl)
end dd
namespace dd
open Go.RowKit ef
open ct (C)
open iS (lu jm dH)
open ym (hH so)
open GM (TJ GN Aq OE)
theorem alB(w0:aeo)(P:Nat)(p:cT)(ca cn cP:Int)(dz:Bool)(bz d' ea eb bD:au)(cK bv:ada)(w:aeo)(H:af (oE w0 P p w))(res:Except Nat cT)(dA:af ((if p.formed=true∨so 1 cn cP=false then .error 4 else .ok {p with kF:=cn,fd:=cP,eJ:=dz,formed:=true})=res)):
  Calls Tryz.prog 96 #[ah P 0,.agg (iU ca 8 cn cP dz bz d' ea eb bD cK bv)] w fun e w'=>jM w0 P res e w':=by
 obtain⟨R,m,L,fu,cv,ov,cx,ox,h⟩:=H.out;have H1:=aq h;obtain⟨b,ax⟩:=ar (so 1 cn cP);have qT:=aq ax;obtain⟨f,hf⟩:=ar p.formed;have alC:=aq hf;have p5:af ((if f=true∨b=false then .error 4 else .ok {p with kF:=cn,fd:=cP,eJ:=dz,formed:=true})=res):=by show _=_;rw[←dA.out,ax,hf]
 clear h H ax hf dA;go_enter OH,OI;go_upto_region 4 with fail;obtain⟨W,bo⟩:=ar ((w.alloc (ai (iU ca 8 cn cP dz bz d' ea eb bD cK bv) ia)).alloc (ai (#[I 1,I cn,I cP,U dz]) Cc));have aI:af (ao w w W):=by show Below _ _ _;rw[←bo];exact (a6 _ _).trans ((a6 _ _).mono (a6 _ _).size)
 have aO:af (an W (w.heap.size+1) (#[I 1,I cn,I cP,U dz]) Cc):=by show _=_;rw[←bo,show w.heap.size+1=(w.alloc (ai (iU ca 8 cn cP dz bz d' ea eb bD cK bv) ia)).heap.size from (Array.size_push _).symm];exact bY _ _
 rw[bo];clear bo;obtain⟨D,b2⟩:=ar w.heap.size;have dp:=aq (H1.out.below aI.out);have awQ:P<D:=by rw[←b2];exact lt_of_heap H1.out.pl
 rw[b2] at aO⊢;clear b2 aI H1;have f0:=cell_of (i:=0) aO.out rfl;have f1:=cell_of (i:=1) aO.out rfl;have f2:=cell_of (i:=2) aO.out rfl;have f3:=cell_of (i:=3) aO.out rfl;have c5:ak W P 5 (U f):=by rw[←alC.out];exact cell_of (i:=5) dp.out.pl rfl
 cases f with
 |true=>
  have hF: .error 4=res:=p5.out;go_wp2_with fail;go_ret;rw[←hF];exact⟨dp.out.aX,rfl⟩
 |false=>
  go_wp2_with fail;with_reducible refine (OE 1 cn cP dz b qT _).mono ?_
  rintro e b7 ⟨rfl,oo⟩;have er:ao W W b7:=(by rw[←oo];exact a6 _ _);have eo:=aq (dp.out.below er);have tH:=aq (aU aO.out er);clear f0 f1 f2 f3 c5 oo er dp aO;cases b with
  |false=>
   have hF: .error 4=res:=p5.out;go_wp2_with fail;go_ret;rw[←hF];exact⟨eo.out.aX,rfl⟩
  |true=>
   have hF: .ok {p with kF:=cn,fd:=cP,eJ:=dz,formed:=true}=res:=p5.out;have f0:=cell_of (i:=0) tH.out rfl;have f1:=cell_of (i:=1) tH.out rfl;have f2:=cell_of (i:=2) tH.out rfl;have f3:=cell_of (i:=3) tH.out rfl;have cS:ak b7 P 1 (I fu):=cell_of (i:=1) eo.out.pl rfl;have bq:ak b7 P 2 (I p.kF):=cell_of (i:=2) eo.out.pl rfl;have fA:ak b7 P 3 (I p.fd):=cell_of (i:=3) eo.out.pl rfl;have GO:ak b7 P 4 (U p.eJ):=cell_of (i:=4) eo.out.pl rfl;have awR:ak b7 P 5 (U p.formed):=cell_of (i:=5) eo.out.pl rfl;have g1:=cJ eo.out.pl 1;have g2:=cJ eo.out.pl 2;have g3:=cJ eo.out.pl 3;have g4:=cJ eo.out.pl 4;have g5:=cJ eo.out.pl 5;have hne:P≠D+1:=(by omega);have CQ:D+1≠P:=(by omega);go_wp2_with fail;go_ret;rw[←hF];refine jM.B0 (R:=R) (m:=m) (L:=L) (fu:=1) (cv:=cv) (ov:=ov) (cx:=cx) (ox:=ox) rfl ?_;have ay:=((((aP.set (a:=⟨P,1,none⟩) (S:=fun k=>k≠P) (w:=b7) (fun ay=>ay rfl) (I 1)).trans (aP.set (a:=⟨P,2,none⟩) (fun ay=>ay rfl) (I cn))).trans (aP.set (a:=⟨P,3,none⟩) (fun ay=>ay rfl) (I cP))).trans (aP.set (a:=⟨P,4,none⟩) (fun ay=>ay rfl) (U dz))).trans (aP.set (a:=⟨P,5,none⟩) (fun ay=>ay rfl) (U true));exact eo.out.GF ay (by have:=dt (k:=P) (i:=5) (U true) (dt (k:=P) (i:=4) (U dz) (dt (k:=P) (i:=3) (I cP) (dt (k:=P) (i:=2) (I cn) (dt (k:=P) (i:=1) (I 1) eo.out.pl))));exact this) rfl rfl rfl rfl rfl
theorem alD(w0:aeo)(P:Nat)(p:cT)(ca cn cP:Int)(dz:Bool)(bz d' ea eb bD:au)(cK bv:ada)(w:aeo)(H:af (oE w0 P p w))(res:Except Nat cT)(dA:af ((if p.unit≠0 then .error 4 else .ok {p with unit:=cn})=res)):
  Calls Tryz.prog 96 #[ah P 0,.agg (iU ca 9 cn cP dz bz d' ea eb bD cK bv)] w fun e w'=>jM w0 P res e w':=by
 obtain⟨R,m,L,fu,cv,ov,cx,ox,h⟩:=H.out;have H1:=aq h;clear h H;go_enter OH,OI;go_upto_region 8 with fail;have dp:=aq (H1.out.below (a6 w (ai (iU ca 9 cn cP dz bz d' ea eb bD cK bv) ia)));have cF:af ((w.alloc (ai (iU ca 9 cn cP dz bz d' ea eb bD cK bv) ia)).heap[w.heap.size]?=some (.cells (iU ca 9 cn cP dz bz d' ea eb bD cK bv) ia)):=bY _ _;generalize w.alloc (.cells (iU ca 9 cn cP dz bz d' ea eb bD cK bv) ia)=W at dp cF⊢;obtain⟨u,hu⟩:=ar p.unit;have p5:af ((if u≠0 then .error 4 else .ok {p with unit:=cn})=res):=by show _=_;rw[←dA.out,hu]
 have aQ:ak W P 0 (I u):=by rw[←hu];exact cell_of (i:=0) dp.out.pl rfl
 have g0:=cJ dp.out.pl 0;have d2:=cell_of (i:=2) cF.out rfl;clear dA hu;by_cases xG:u=0
 ·subst xG;have hF: .ok {p with unit:=cn}=res:=p5.out;go_wp2_with fail;go_ret;rw[←hF];exact jM.B0 rfl (dp.out.GF (aP.set (a:=⟨P,0,none⟩) (fun ay=>ay rfl) _) (by have:=dt (k:=P) (i:=0) (I cn) dp.out.pl;exact this) rfl rfl rfl rfl rfl)
 ·have hF: .error 4=res:=(by rw[←p5.out,bb xG]);have TK:(u !=0)=true:=(by rw[wK];exact xG);go_wp2_with fail;go_ret;rw[←hF];exact⟨dp.out.aX,rfl⟩
end dd
namespace dd
open Go.RowKit ef
open ct (C eC)
open iS (lu jm dH gY)
abbrev r1(p:cT):List pV:=(p.top::p.levels).reverse
theorem oD.at{R:afp}{B:Nat}{w:aeo}:∀{l:List pV} {gE:aev} {hs:List Nat},oD R B w l gE hs→∀i (hi:i<l.reverse.length),∃(q:Ja) (e d:Nat),∀j,j<7→gE[i *7+j]?=(BZ (l.reverse[i]) (ad q e d))[j]?
 |[],_,_,_,i,hi=>absurd hi (my _)
 |v::l,gE,hs,⟨rW,gs,ov,ox,av,az,aC,bt,cr⟩,i,hi=>by
  have hlen:=oD.len cr;rw[x7,fY] at hi;by_cases bR:i<l.length
  ·obtain⟨q,e,d,bm⟩:=oD.at cr i (by rw[x7];exact bR);refine⟨q,e,d,fun j cd=>?_⟩;rw[av,Mm (by omega),bm j cd];simp only[OJ];rw[CW (by rw[x7];exact bR)]
  ·have e:i=l.length:=(by omega);obtain⟨q,d,rfl⟩:=jH aC;refine⟨q,v.fk.length,d,fun j cd=>?_⟩;rw[av,A8 (by omega),show i *7+j-rW.length=j by omega];simp only[OJ];rw[Rw (by rw[x7];omega)];simp
theorem gp.rowAt{w0:aeo}{P:Nat}{R:afp}{m:Nat}{L:qR}{fu:Int}{cv ov:ada}{cx ox:aev}{p:cT}{w:aeo}(h:gp w0 P R m L fu cv ov cx ox p w)(i:Nat)(hi:i<(r1 p).length):∃(q:Ja) (e d:Nat),∀j,j<7→w.cell? ⟨L.b,i *7+j,none⟩=(BZ ((r1 p)[i]) (ad q e d))[j]?:=by
 have hlen:=h.mM.len;have hn:=h.qS;have Ba:i<p.levels.length+1:=by rw[x7] at hi;exact hi
 by_cases bR:i<p.levels.length
 ·obtain⟨q,e,d,bm⟩:=h.mM.at i (by rw[x7];exact bR);refine⟨q,e,d,fun j cd=>?_⟩;rw[h.gS.cellAt (i *7+j) (by omega),Mm (by omega),bm j cd];simp only[r1,OJ];rw[CW (by rw[x7];exact bR)]
 ·have e:i=p.levels.length:=(by omega);obtain⟨q,d,rfl⟩:=jH h.aB;refine⟨q,p.top.fk.length,d,fun j cd=>?_⟩;rw[h.gS.cellAt (i *7+j) (by omega),A8 (by omega),show i *7+j-L.gE.length=j by omega];simp only[r1,OJ];rw[Rw (by rw[x7];omega)];simp
def OP(code:Int)(v:pV):Bool:=!v.step&&decide (v.code=code)
theorem alE(p:cT)(code:Int):Da p code=((p.jv code).isSome ||((r1 p).drop 1).any (OP code)):=by
 unfold Da
 congr 1
 have:(r1 p).drop 1=((p.top::p.levels).dropLast).reverse:=by unfold r1;rw[List.drop_one,List.tail_reverse]
 rw[this,List.any_reverse];rfl
variable{j:Nat}
theorem alF{a:Bool}{f:pV→Bool}{l:List pV}(cd:j<l.length):(a ||(l.take (j+1)).any f)=((a ||(l.take j).any f)|| f l[j]):=by rw[wy cd,List.any_append];simp[Bool.or_assoc]
theorem alG(w0:aeo)(P:Nat)(p:cT)(code:Int)(w:aeo)(H:af (oE w0 P p w))(q':p.levels.length≤1000)(t:Bool)(bE:af (Da p code=t)):
    Calls Tryz.prog 141 #[ah P 0,I code] w fun e w'=>e=ab (U t)∧ao w w w':=by
  obtain⟨R,m,⟨ev,kJ,lc,gE,hs,e4,bB⟩,fu,cv,ov,cx,ox,h⟩:=H.out;have H1:=aq h;have dr:af (((p.jv code).isSome ||((r1 p).drop 1).any (OP code))=t):=(by show _=_;rw[←alE];exact bE);obtain⟨v,oy,aY⟩:=h.mp.look code;obtain⟨b,ax⟩:∃b,(p.jv code).isSome=b:=⟨_,rfl⟩
  obtain⟨aE,aH,gQ,y3,y4,nR,y6,rO,rP,cS,bq,b1,cw,ei,en,fa,n3,a7,bf,cM,TO⟩:∃(aE aH gQ y3 y4 nR y6 rO rP:Int) (cS bq:Bool) (b1 cw ei:Ja) (en fa n3 a7 bf cM:Nat),v=.agg #[I aE,I aH,I gQ,I y3,I y4,I nR,I y6,I rO,ad b1 en a7,ad cw fa bf,I rP,U cS,U bq,ad ei n3 cM]:=by
    cases ha:p.jv code with
    |none=>rw[ha] at aY;exact⟨_,_,_,_,_,_,_,_,_,_,_,_,_,_,_,_,_,_,_,_,aY⟩
    |some a=>
      rw[ha] at aY;obtain⟨pl,cl,pp,cp,lH,co,av,_⟩:=aY;exact⟨_,_,_,_,_,_,_,_,_,_,_,_,_,_,_,_,_,_,_,_,av⟩
  subst TO;rw[ax] at oy dr;have bZ:w.cell? ⟨P,6,none⟩=some (.map (some m)):=cell_of (i:=6) h.pl rfl;have uk:=lt_of_heap h.pl;have An:m<w.heap.size:=(by obtain⟨_,_,hm⟩:=h.mp.map;exact lt_of_heap hm);have qk:=oy w.drew rfl;have mg:=oy (w.alloc (ai (#[I 0,I 0,I 0,I 0,I 0,I 0,I 0,I 0,J 0,J 0,I 0,U false,U false,J 0]) p6)).drew (A2 _ _ _ An);have MT:=oy w rfl;have pP:kJ=p.levels.length+1:=h.qS;have hN:af ((r1 p).length=kJ):=(by show _=_;rw[x7,fY,pP]);have awS:1≤kJ∧kJ≤1001:=by omega
  have TP:kJ≤lc:=by
    have cr:=h.gS;rcases cr.2 with ⟨c4,ez⟩|⟨k,cap,cur,c4,_,_,ez,_⟩
    · cases c4
    · injection c4 with _ _ eS
      have eS:lc=cap:=eS;have ez:kJ≤cap:=ez;omega
  clear oy aY ax h H bE q' pP;go_enter Tryz.func141,Tryz.ntmps141;go_upto_region 2 with fail;have aI:af (ao w w (w.alloc (ai (#[I aE,I aH,I gQ,I y3,I y4,I nR,I y6,I rO,ad b1 en a7,ad cw fa bf,I rP,U cS,U bq,ad ei n3 cM]) p6))):=a6 _ _;clear qk mg MT bZ uk An;generalize w.alloc (.cells #[I aE,I aH,I gQ,I y3,I y4,I nR,I y6,I rO,ad b1 en a7,ad cw fa bf,I rP,U cS,U bq,ad ei n3 cM] p6)=W at aI⊢;have dp:=aq (H1.out.below aI.out);have J2:W.cell? ⟨P,21,none⟩=some (ad (some (aj ev 0)) kJ lc):=cell_of (i:=21) dp.out.pl rfl;obtain⟨n,hn⟩:∃n,kJ=n+1:=⟨kJ-1,by omega⟩;subst hn;obtain⟨d,hd⟩:∃d,lc=d+1:=⟨lc-1,by omega⟩;subst hd;have bO:(1:Int)≤(n:Int)+1:=(by omega);have ba:(n:Int)+1≤(d:Int)+1:=(by omega);have aaM:af (oE w0 P p W):=⟨_,_,_,_,_,_,_,_,dp.out⟩;go_upto_region 3 with fail
  all_goals
    clear J2 bO ba
    go_loopw [6,24] (fun f i wr=>∃(j:Nat) (a:Bool) (aM:aeo),aM=wr∧j≤n∧i=I j∧f=U a∧af (a=(b ||(((r1 p).drop 1).take j).any (OP code)))∧af (Below W.heap.size W aM)) (fun _ i _=>n -(intOf i).toNat)
    case atStart=>exact⟨0,b,_,rfl,dO _,rfl,rfl,by show _=_;simp,Below.refl _ _⟩
    case round=>
    obtain⟨j,a,aM,rfl,cd,rfl,rfl,cy,jn⟩:=hrel;by_cases bR:j<n
    · first
        |(exfalso;omega)
        | (have gU:(j:Int)<(n:Int):=by omega
           have mB:(0:Int)≤(j:Int):=(by omega);have qk:j+1<(r1 p).length:=(by rw[hN.out];omega);have eo:=aq (dp.out.below jn.out);obtain⟨aaR,on,od,bm⟩:=eo.out.rowAt (j+1) qk;obtain⟨⟨vs,GW,aaS,aaU,⟨cm,cq⟩,fc⟩,aY⟩:∃v,(r1 p)[j+1]=v:=⟨_,rfl⟩;rw[aY,show (j+1) *7=7+j *7 by omega] at bm;have ju:aM.cell? ⟨ev,7+j *7,none⟩=some (U vs):=bm 0 (by decide);have iJ:aM.cell? ⟨ev,7+j *7+1,none⟩=some (I GW):=bm 1 (by decide);have l':aM.cell? ⟨ev,7+j *7+2,none⟩=some (I aaS):=bm 2 (by decide);have sA:aM.cell? ⟨ev,7+j *7+3,none⟩=some (I aaU):=bm 3 (by decide);have vi:aM.cell? ⟨ev,7+j *7+4,none⟩=some (I cm):=bm 4 (by decide);have vj:aM.cell? ⟨ev,7+j *7+5,none⟩=some (I cq):=bm 5 (by decide);have qF:aM.cell? ⟨ev,7+j *7+6,none⟩=some (ad aaR on od):=bm 6 (by decide)
           have qx:af ((a ||(!vs&&decide (GW=code)))=(b ||(((r1 p).drop 1).take (j+1)).any (OP code))):=by
             show _=_;rw[alF (by rw[fH,hN.out];omega),←cy.out,MD]
             congr 1
             have a7:(r1 p)[1+j]'(by omega)=(r1 p)[j+1]:=(by congr 1;omega);rw[a7,aY];rfl
           have kl:af (ao W W (aM.alloc (ai (#[U vs,I GW,I aaS,I aaU,I cm,I cq,ad aaR on od]) nU))):=jn.out.alloc jn.out.size _;have he:(GW==code)=decide (GW=code):=rfl;generalize decide (GW=code)=e at qx he;clear bm aY eo;cases a<;>cases vs
           all_goals
             have aaV:=qx;simp only[QA,Bool.true_or,Bool.not_true,Bool.not_false,CN,H0,Bool.or_false] at aaV;go_wp2_with fail;go_round<;>first|exact⟨j+1,_,_,rfl,by omega,by go_num,rfl,aaV.out,kl.out⟩|(simp[intOf]<;>omega))
    · have iH:j=n:=by omega
      subst iH;have hF:a=t:=(by rw[cy.out,←dr.out,wq (by rw[fH,hN.out];omega)]);subst hF;go_wp2_with fail;go_ret;exact⟨rfl,aI.out.trans (jn.out.mono aI.out.size)⟩
theorem alH:(Tryz.prog.info? 266).map (fun i=>(i.zero,i.size,i.bytes))=some (some (.agg #[aa ⟨#[]⟩,J 0]),2,40):=by kernel_rfl
theorem gp.alI{w0:aeo}{P:Nat}{R:afp}{m:Nat}{L:qR}{fu:Int}{cv ov:ada}{cx ox:aev}{p:cT}{X Y cW:aeo}{n ed c:Nat}{a:lI}{q:Ja}{d:Nat}
  (h:gp w0 P R m L fu cv ov cx ox p X) (hn:p.fU.length=n) (BO:ao X X Y) (aF:Y.grownBy cW L.e4.ownBlock) (c0:cW.ownsRow w0.heap.size rV 2 (ag ed 0 (n+1) c) (n+1) (L.bB++[aa ⟨a.name.toArray⟩,ad q a.b.length d])) (hw:some ed=L.e4.ownBlock∨Y.heap.size≤ed) (ax:gY 0 w0 q a.b):
  gp w0 P R m {L with e4:=ad (some (aj ed 0)) (n+1) c,bB:=L.bB++[aa ⟨a.name.toArray⟩,ad q a.b.length d]} fu cv ov cx ox {p with fU:=p.fU++[a]} (cW.setCell (aj P 8) (ag ed 0 (n+1) c)):=by
 have k9:=h.below BO;obtain⟨yQ,cur,gJ⟩:=sU c0;have hne:∀k cs t dT,X.heap[k]?=some (.cells cs t dT)→t≠rV→t≠yY→L.e4.ownBlock≠some k∧k≠P:=fun k cs t dT ay av az=>⟨rU h.hC ay (gu av),oC ay h.pl az⟩;have hK:aP (fun k=>L.e4.ownBlock≠some k∧k≠P) X (cW.setCell (aj P 8) (ag ed 0 (n+1) c)):=((aP.dW BO).trans (aP.grown aF fun k e ay=>ay.1 e)).trans (aP.set (a:=⟨P,8,none⟩) (fun ay=>ay.2 rfl) _);have alJ:=rU h.hC h.pl (by decide);have GX:an cW P (S' p fu m L cv) yY:=(aF.block P (lt_of_heap k9.pl) (gu alJ)).trans k9.pl;have hR:∀k,R k→L.e4.ownBlock≠some k∧k≠P:=fun k ay=>⟨(h.ml k ay).ZY,(h.ml k ay).JY⟩;obtain⟨es,D8,sX⟩:=h.mp.map;have GY:∀{e:aai} {bD n:Nat} {v:ada} {xs:aev},X.ownsRow w0.heap.size e bD v n xs→e≠rV→e≠yY→∀k,v.ownBlock=some k→L.e4.ownBlock≠some k∧k≠P:=by intro e bD n v xs hr av az k ay;obtain⟨_,_,c,hc⟩:=vI hr ay;exact hne _ _ _ _ hc av az
 have alK:∀k,R k→ed≠k:=by
  intro k ay e;subst e;rcases hw with e|e
  ·exact (h.ml ed ay).ZY e.symm
  ·have:=(h.nr ed ay).2;have:=BO.size;omega
 exact {
  pl:=by have:=dt (k:=P) (i:=8) (ag ed 0 (n+1) c) GX;exact this
  mp:=h.mp.keep hK ⟨ZV h.hC sX,(Ak h.pl sX).symm⟩ hR
  qS:=h.qS
  gS:=nT h.gS hK (GY h.gS (by decide) (by decide))
  mM:=h.mM.keep hK hR fun k hm=>by obtain⟨_,_,c,hc⟩:=h.mM.D7 k hm;exact hne _ _ _ _ hc (by decide) (by decide)
  yZ:=h.yZ
  Al:=h.Al
  bz:=h.bz.keep hK hR (fun k cur t aK bE=>hne _ _ _ _ aK (by rcases bE with rfl|rfl<;>decide) (by rcases bE with rfl|rfl<;>decide))
  aB:=nT h.aB hK (GY h.aB (by decide) (by decide))
  sW:=h.sW.keep (hK.mono fun k _ ay=>hR k ay)
  hC:=by show World.ownsRow _ _ _ _ _ (p.fU++[a]).length _;rw[show (p.fU++[a]).length=n+1 by rw[iv,hn];rfl];exact nT c0 (aP.set (S:=fun k=>k≠P) (a:=⟨P,8,none⟩) (fun ay=>ay rfl) _) fun k e=>by have bf:ed=k:=(by simpa[Value.ownBlock] using e);rw[←bf];exact oC gJ GX (by decide)
  xx:=h.xx.snoc ax
  nr:=fun k ay=>⟨(h.nr k ay).1,km (h.nr k ay).2 hK.size⟩
  ml:=fun k ay=>
   have hc:=h.ml k ay
   ⟨hc.JY,hc.Ta,hc.ZX,hc.akb,hc.JZ,fun e=>alK k ay (by simpa[Value.ownBlock] using e),hc.akc⟩
  xy:=h.xy
  rq:=h.rq
  aX:=h.aX.trans (hK.below _ h.aX.size fun k ay=>⟨fun e=>by have:=(vI h.hC e).1;omega,by have:=h.xy;omega⟩)}
theorem alL{f:lI→Bool}{l:List lI}(cd:j<l.length)(h:(l.take j).any f=false)(hf:f l[j]=false):(l.take (j+1)).any f=false:=by rw[wy cd,List.any_append,h];simp[hf]
theorem alM{f:lI→Bool}{l:List lI}(cd:j<l.length)(hf:f l[j]=true):l.any f=true:=List.any_eq_true.2 ⟨_,kT cd,hf⟩
theorem alN(a b:au):((⟨a.toArray⟩:Ua).toList==b)=(a==b):=by rw[mV]
theorem alO(w0:aeo)(P:Nat)(p:cT)(ca cn cP:Int)(dz:Bool)(bz d' ea eb bD:au)(cK:ada)(fN:List eC)(lR:Ja)(e8:Nat)(w:aeo)(H:af (oE w0 P p w))(ks:af (gY 0 w0 lR fN))(DA:p.fU.length≤1000000)(res:Except Nat cT)(dA:af ((if p.fU.any (fun m=>m.name==bz)=true then .error 4 else .ok {p with fU:=p.fU++[⟨bz,fN⟩]})=res)):
  Calls Tryz.prog 96 #[ah P 0,.agg (iU ca 19 cn cP dz bz d' ea eb bD cK (ad lR fN.length e8))] w fun e w'=>jM w0 P res e w':=by
 obtain⟨R,m,⟨ev,kJ,lc,gE,hs,e4,bB⟩,fu,cv,ov,cx,ox,h⟩:=H.out;have H1:=aq h;obtain⟨uo,rb⟩:=ar fN.length;have Dr:=aq rb;obtain⟨n,hn⟩:=ar p.fU.length;have bd:=aq hn;have awT:n≤1000000:=by rw[←hn];exact DA
 have c0:w.ownsRow w0.heap.size rV 2 e4 p.fU.length bB:=h.hC;rw[hn] at c0;obtain⟨pm,GZ,rfl⟩:=jH c0;have sL:=aq c0;have B3:af (xw w0 p.fU bB):=h.xx;rw[rb];clear h H c0 hn rb DA;go_enter OH,OI;go_upto_region 12 with fail;have dp:=aq (H1.out.below (a6 w (ai (iU ca 19 cn cP dz bz d' ea eb bD cK (ad lR uo e8)) ia)));have cF:af ((w.alloc (ai (iU ca 19 cn cP dz bz d' ea eb bD cK (ad lR uo e8)) ia)).heap[w.heap.size]?=some (.cells (iU ca 19 cn cP dz bz d' ea eb bD cK (ad lR uo e8)) ia)):=bY _ _;have aI:af (ao w w (w.alloc (ai (iU ca 19 cn cP dz bz d' ea eb bD cK (ad lR uo e8)) ia))):=a6 _ _;generalize w.alloc (.cells (iU ca 19 cn cP dz bz d' ea eb bD cK (ad lR uo e8)) ia)=W at dp cF aI⊢;obtain⟨D,b2⟩:=ar w.heap.size;rw[b2] at cF⊢;clear b2;have c5:ak W P 8 (ad pm n GZ):=cell_of (i:=8) dp.out.pl rfl;go_upto_region 13 with fail;clear c5
 go_loopw [57] (fun i wr=>∃(j:Nat) (aM:aeo),aM=wr∧j≤n∧i=I j∧af ((p.fU.take j).any (fun m=>m.name==bz)=false)∧af (ao W W aM)) (fun i _=>n -(intOf i).toNat)
 case atStart=>exact⟨0,_,rfl,dO _,rfl,rfl,Below.refl _ _⟩
 case round=>
 obtain⟨j,aM,rfl,cd,rfl,aaW,jn⟩:=hrel;have eo:=aq (dp.out.below jn.out);have nt:=aq (aU cF.out jn.out);by_cases bR:j<n
 ·have gU:(j:Int)<(n:Int):=(by omega);have mB:(0:Int)≤(j:Int):=(by omega);have fE:j<p.fU.length:=(by rw[bd.out];exact bR);obtain⟨aaX,md,mX,jB,_⟩:=B3.out.get j fE;have eD:=gC sL.out (aI.out.trans (jn.out.mono aI.out.size))
  obtain⟨nb,rfl⟩:∃b,pm=some ⟨b,0,none⟩:=by
   rcases eD.2 with ⟨_,aS⟩|⟨g,_,_,aF,_⟩
   ·omega
   ·injection aF with aF;exact⟨g,aF⟩
  have ju:ak aM nb (j *2) (aa ⟨(p.fU[j]).name.toArray⟩):=(eD.cellAt (j *2) (by omega)).trans mX;have iJ:ak aM nb (j *2+1) (ad aaX (p.fU[j]).b.length md):=(eD.cellAt (j *2+1) (by omega)).trans jB;have ON:=alN (p.fU[j]).name bz;have d5:ak aM D 5 (aa ⟨bz.toArray⟩):=cell_of (i:=5) nt.out rfl;have rQ:=lt_of_heap nt.out;obtain⟨e,he⟩:=ar ((p.fU[j]).name==bz);have bl:=aq he;rw[he] at ON;generalize (⟨(p.fU[j]).name.toArray⟩:Ua)=alP at ju ON;generalize (p.fU[j]).b.length=alQ at iJ;clear mX jB eD he;have kl:af (ao W W (aM.alloc (ai (#[aa alP,ad aaX alQ md]) rV))):=jn.out.alloc jn.out.size _;cases e with
  |true=>
   have hF: .error 4=res:=(by rw[←dA.out,bb (alM fE bl.out)]);go_wp2_with fail;go_ret;rw[←hF];exact⟨dp.out.aX.trans (kl.out.mono dp.out.aX.size),rfl⟩
  |false=>
   have alR:=aq (alL fE aaW.out bl.out);go_wp2_with fail;go_round<;>first|exact⟨j+1,_,rfl,by omega,by go_num,alR.out,kl.out⟩|(simp[intOf]<;>omega)
 ·have iH:j=n:=(by omega);subst iH;have hF: .ok {p with fU:=p.fU++[⟨bz,fN⟩]}=res:=(by have av:=aaW.out;rw[wq (by rw[bd.out];exact bx _)] at av;rw[←dA.out,av];rfl);have aO:=aq hF;have d5:ak aM D 5 (aa ⟨bz.toArray⟩):=cell_of (i:=5) nt.out rfl;have d11:ak aM D 11 (ad lR uo e8):=cell_of (i:=11) nt.out rfl;have c5:ak aM P 8 (ad pm j GZ):=cell_of (i:=8) eo.out.pl rfl;have f5:=cJ eo.out.pl 8;have rQ:=lt_of_heap nt.out;have uk:=lt_of_heap eo.out.pl;have iF:=eo.out.aX.size;have eD:=gC sL.out (aI.out.trans (jn.out.mono aI.out.size));have jb:af ((aM.drew.alloc (ai (#[aa ⟨bz.toArray⟩,ad lR uo e8]) rV)).ownsRow w0.heap.size rV 2 (ad pm j GZ) j bB):=eD.drew.alloc _;have nM:af (ao aM aM (aM.drew.alloc (ai (#[aa ⟨bz.toArray⟩,ad lR uo e8]) rV))):=(Below.refl _ _).drew.alloc (bx _) _;have lO:∀(cW:aeo),(aM.drew.alloc (ai (#[aa ⟨bz.toArray⟩,ad lR uo e8]) rV)).grownBy cW (Value.slice pm j GZ).ownBlock→ak cW P 8 (ad pm j GZ)∧cW.frozen? ⟨P,8,none⟩=false:=(by intro cW tZ;have GX:=aU eo.out.pl nM.out;have av:=(tZ.block _ (lt_of_heap GX) (gu (rU jb.out GX (by decide)))).trans GX;exact⟨cell_of av rfl,cJ av 8⟩);obtain⟨i0,hi,dy,dJ,dv⟩:=info_parts alH;have b8:=aq (And.intro hi (And.intro dy (And.intro dJ dv)));clear hi dy dJ dv eD hF;go_upto_region 18 with fail
  go_region_law (first|(refine BC _ (by rfl) _ _ _ (by rfl) w0.heap.size rV i0 (.agg #[aa ⟨#[]⟩,J 0]) 2 40 Tryz.underlying162 b8.out.1 b8.out.2.1 b8.out.2.2.1 b8.out.2.2.2 rfl (by omega) (ad pm j GZ) j _ (by rfl) jb.out (aj aM.heap.size 0) 1 1 [aa ⟨bz.toArray⟩,ad lR uo e8] (by rfl) (by rfl) (j8 (cs:= #[aa ⟨bz.toArray⟩,ad lR uo e8]) (t:=rV) (fr:=(0,0)) (fJ aM _)) (by simp[Value.oneCell']) (by omega) (by unfold maxLen;omega) (by omega) (by simp;omega) (aM.heap.size+1) (by simp) ?_;intro ed jc bI c0 ep eX iR;obtain⟨b1,cw⟩:=lO bI ep)|fail)
  all_goals
   have h9:=gp.alI (a:=⟨bz,fN⟩) eo.out bd.out nM.out ep (by rw[Dr.out];exact c0) (eX.imp Eq.symm (fun h=>by rw[h];exact J1 (Array.size_push _))) ks.out;clear c0 ep eX iR b1 cw d5 d11 c5 f5 lO;go_wp2_with fail;go_ret;rw[←aO.out];exact jM.B0 rfl h9
end dd
