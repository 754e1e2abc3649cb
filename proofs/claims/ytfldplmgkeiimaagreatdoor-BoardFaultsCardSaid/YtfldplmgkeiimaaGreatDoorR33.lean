/- Lemmas. -/
import Derived.Test.YtfldplmgkeiimaaGreatDoorR31
import Derived.Test.YtfldplmgkeiimaaGreatDoorR32
set_option linter.all false
set_option maxRecDepth 100000
set_option maxHeartbeats 25600000
namespace Go.Proofs.YtfldplmgkeiimaaGreatDoor
namespace dd
open Go.RowKit ef
abbrev oO:TypeId:=43
abbrev gf(a b:Int):Obj:=.cells #[I a,I b] oO
variable{x w w0:aeo}
theorem aP.wb{S:afp}{W:aeo}(h:aP S W x){b i:Nat}(ax:W.heap.size≤b)(u:ada):aP S W (x.setCell (aj b i) u):=
 ⟨h.os,h.tape,h.output,dx h.size (by simp[World.setCell]),fun k hs aA=>(iK (by omega)).trans (h.block k hs aA)⟩
variable{bG g:Nat}
theorem US{S:afp}(hS:¬S bG)(h:aP (fun k=>k≠bG) w x):aP S w x:=h.mono (R:=S) (fun k _ hs=>by show k≠bG;intro e;rw[e] at hs;exact hS hs)
structure we(w0:aeo)(g bG:Nat)(gs:ajv)(b:ck)(b5 a:Int)(x:aeo):Prop where
 vt:an x g gs ja
 a8:x.heap[g+1]?=some (cV b)
 res:x.heap[g+1+1]?=some (gf 0 0)
 mt:x.heap[bG]?=some (ib b5 a)
 k:aP (fun k=>k≠bG) w0 x
 lt:bG<g
variable{b:ck}{gs:ajv}{b5 a:Int}
theorem we.step{k3:Int}{y:aeo}(h:we w0 g bG gs b b5 a x)(ay:aP (fun k=>k≠bG) x y)(hm:y.heap[bG]?=some (ib b5 k3)):we w0 g bG gs b b5 k3 y:=by have aA:=h.lt;exact⟨ay.get (by show _≠_;omega) h.vt,ay.get (by show _≠_;omega) h.a8,ay.get (by show _≠_;omega) h.res,hm,h.k.trans ay,h.lt⟩
theorem we.below{y:aeo}(h:we w0 g bG gs b b5 a x)(ax:ao x x y):we w0 g bG gs b b5 a y:=h.step (aP.dW ax) (aU h.mt ax)
theorem we.new(h:we w0 g bG gs b b5 a x){c i:Nat}(hc:g+1+1<c∧w0.heap.size≤c)(u:ada):we w0 g bG gs b b5 a (x.setCell (aj c i) u):=by have aA:=h.lt;exact⟨(iK (by omega)).trans h.vt,(iK (by omega)).trans h.a8,(iK (by omega)).trans h.res,(iK (by omega)).trans h.mt,h.k.wb hc.2 u,h.lt⟩
theorem acY{a b:Nat}(h:a≤b)(aF:bG<a):b≠bG:=by omega
def AG(bG:Nat)(b5:Int)(w:aeo)(r:Option e3×Int)(e:Ending)(w':aeo):Prop:=
 e=ab (.tuple #[Cs (r.1.getD (0,0)),I (if r.1.isNone=true then 6 else 0)])∧w'.heap[bG]?=some (ib b5 (b5-r.2))∧aP (fun k=>k≠bG) w w'
theorem AG.get{o:Option e3}{m:Int}{e:Ending}{w':aeo}(h:AG bG b5 w (o,m) e w'){b oM:Int}(hc:o.getD (0,0)=(a,b))(he:(if o.isNone=true then 6 else 0)=oM):
  e=ab (.tuple #[.agg #[I a,I b],I oM])∧w'.heap[bG]?=some (ib b5 (b5-m))∧aP (fun k=>k≠bG) w w':=by
 obtain⟨av,az,aC⟩:=h;simp only at av;rw[hc,he] at av;exact⟨av,az,aC⟩
theorem Hw{b9:aeo}(aF:g=w.heap.size)(h:we w g bG gs b b5 a b9){r:Option e3×Int}(aQ aN oM:Int)(hc:(aQ,aN)=r.1.getD (0,0))(he:oM=if r.1.isNone=true then 6 else 0)(ha:a=b5-r.2)
  {tmps:ajv} (hp:tmps.getD 8 undef=.pointer (some (aj (g+1+1) 0))) (hs:tmps.getD 9 undef=I oM):
  bodyPost Tryz.prog Tryz.f87 (AG bG b5 w r) .ret ⟨tmps,[]⟩ ((b9.setCell (aj (g+1+1) 0) (I aQ)).setCell (aj (g+1+1) 1) (I aN)):=by
 have jX:=oh [I aQ,I aN] h.res rfl;have aA:=h.lt;refine dU (o1 rfl _ _ (g+1+1) _ _ _ _ hp jX Tryz.underlying43 rfl (by kernel_rfl)) rfl ⟨?_,?_,?_⟩
 ·rw[hs,←hc,he]
 ·rw[←ha];exact (wX (by omega) [I aQ,I aN]).trans h.mt
 ·exact (h.k.wb (by omega) _).wb (by omega) _
theorem apC(d:Nat)(g:List fL)(b:ck)(m:Int)(h:m≤0):py d g b m=(none,m-1):=by
 cases d with
 |zero=>rw[K4,bb h]
 |succ d=>rw[K3,bb h]
theorem apD(d:Nat)(g:List fL)(b:ck)(m:Int)(h:¬m≤0)(ay:tO (g.map fL.o) b=0):py d g b m=(some (0,0),m-1):=by
 cases d with
 |zero=>rw[K4,aW h,bb ay]
 |succ d=>rw[K3,aW h,bb ay]
theorem apE(d:Nat)(g:List fL)(b:ck)(m:Int)(h:¬m≤0)(ay:tO (g.map fL.o) b=2):py d g b m=(some (4^d,4^d),m-1):=by
 cases d with
 |zero=>rw[K4,aW h,aW (by omega),bb ay];rfl
 |succ d=>rw[K3,aW h,aW (by omega),bb ay]
def sa(aD aE aL aH x y:Int):Nat→ck
 |0=>⟨aD,aE,x,y⟩
 |1=>⟨x,aE,aL,y⟩
 |2=>⟨aD,y,x,aH⟩
 |_=>⟨x,y,aL,aH⟩
theorem apF(aD aE aL aH x y:Int)(j:Nat)(cd:j<4)(w:aeo):(Instr.index 251 (.agg #[I aD,I aE,I x,I y,I x,I aE,I aL,I y,I aD,I y,I x,I aH,I x,I y,I aL,I aH]) (I j)).run Tryz.prog w=.ok (h5 (sa aD aE aL aH x y j)) w:=by rcases (show j=0∨j=1∨j=2∨j=3 by omega) with rfl|rfl|rfl|rfl<;>simp[Instr.index,jC Tryz.underlying251,asIntOf,go_sem,sa,part]
abbrev PD(W:aeo)(bG g:Nat)(p q:Ja)(n c e:Nat)(mo:Nat)(a0 bA a2 a3:Int)(Z:aeo):Prop:=
 Z.cell? ⟨g,0,none⟩=some (ad p n c)∧ak Z g 1 (ad q n e)∧ak Z mo 0 (I a0)∧ak Z mo 1 (I bA)∧ak Z mo 2 (I a2)∧ak Z mo 3 (I a3)∧aP (fun k=>k≠bG) W Z
theorem acZ{W Z:aeo}{p q:Ja}{n c e:Nat}{mo:Nat}{a0 bA a2 a3:Int}(aF:an W g (lp p n c q e) ja)(ax:W.heap[mo]?=some (cV ⟨a0,bA,a2,a3⟩))(en:g≠bG)(fa:mo≠bG)(ay:aP (fun k=>k≠bG) W Z):PD W bG g p q n c e mo a0 bA a2 a3 Z:=by have av:=ay.get en aF;have az:=ay.get fa ax;exact⟨cell_of av rfl,cell_of av rfl,cell_of az rfl,cell_of az rfl,cell_of az rfl,cell_of az rfl,ay⟩
theorem apG(N:Nat):∀(d:Nat),d<N→d≤6→∀(S:afp) (g:List fL) (aA:∀e∈g,sD e.o.2) (p q:Ja) (n c k8:Nat) (hn:n=g.length) (b:ck) (ax:okB b=true) (hx:(b.aL-b.aD)%2^d=0∧0<b.aL-b.aD) (hy:(b.aH-b.aE)%2^d=0∧0<b.aH-b.aE) (bG:Nat) (hS:¬S bG) (b5 m:Int) (hm:-1≤b5-m∧b5≤100000000∧-1000≤m) (w:aeo) (H:af (me S w p q g)) (bH:af (w.heap[bG]?=some (ib b5 (b5-m)))) (r:Option e3×Int) (hr:af (py d g b m=r)),
    Calls Tryz.prog 87 #[.agg (lp p n c q k8),h5 b,I (d:Int),ah bG 0] w (AG bG b5 w r):=by
  induction N with
  |zero=>intro d h;exact absurd h (my _)
  |succ N cO=>
  intro d DR ac0 S g aA p q n c k8 hn b ax hx hy bG hS b5 m hm w H bH r hr;have wQ:=aq cO;have F9:=aq DR;have dn:=aq aA;have bd:=aq hn;have rY:=aq ax;have Hx:=aq (And.intro hx hy);have Hy:=aq hS;have w5:=aq hm;have po:=aq (lt_of_heap bH.out);clear cO DR aA hn ax hx hy hS hm;obtain⟨aD,aE,aL,aH⟩:=b;obtain⟨f,hf⟩:∃f,decide (b5-m+1≤b5)=f:=⟨_,rfl⟩;have aO:=aq hf;obtain⟨k,ay⟩:∃k,tO (g.map fL.o) ⟨aD,aE,aL,aH⟩=k:=⟨_,rfl⟩;have cQ:=aq ay;have UU:=apw (g.map fL.o) ⟨aD,aE,aL,aH⟩;rw[ay] at UU;have axj:=aq UU;clear ay UU;go_enter Tryz.func87,Tryz.ntmps87;go_upto_region 1 with fail;obtain⟨W,bo⟩:∃W,((w.alloc (ai (lp p n c q k8) ja)).alloc (cV ⟨aD,aE,aL,aH⟩)).alloc (gf 0 0)=W:=⟨_,rfl⟩;have bl:af (we w w.heap.size bG (lp p n c q k8) ⟨aD,aE,aL,aH⟩ b5 (b5-m) W):=(by obtain⟨av,az,aC,bt,_⟩:=zv bo;exact⟨av,az,aC,aU bH.out bt,aP.dW bt,po.out⟩);rw[bo];clear bo;go_wp2_with fail;with_reducible refine (aoJ bG b5 (b5-m) (by have:=w5.out;omega) _ (aq bl.out.mt) f aO).mono ?_
  rintro e b7 ⟨rfl,ac1,rB⟩;have s9:=aq (bl.out.step rB ac1);clear ac1 rB bl;obtain⟨g0,g1⟩:=ot s9.out.vt;obtain⟨cu,cS,bq,fA⟩:=gW s9.out.a8;obtain⟨u0,u1⟩:=oN s9.out.res;have fu:=cJ s9.out.res;cases f with
  |false=>
    have sk:m≤0:=(by simp only[Rt] at hf;omega);have bw:af (r=(none,m-1)):=(by show _=_;rw[←hr.out,apC _ _ _ _ sk]);clear hf;go_wp2_with fail;rw[bw.out];exact Hw rfl s9.out 0 0 6 rfl rfl (by show _=b5 -(m-1);omega) rfl rfl
  |true=>
    have pD:af (0<m):=(by show 0<m;simp only[jR] at hf;omega);clear hf;go_wp2_with fail;with_reducible refine (aip S ⟨aD,aE,aL,aH⟩ (aoK rY.out) p (g.map fL.o) n c (by rw[gO];exact bd.out) (by intro o bm;obtain⟨e,he,rfl⟩:=List.mem_map.1 bm;exact dn.out e he) _ (aq (H.out.o.keep (US Hy.out s9.out.k))) k cQ).mono ?_
    rintro e b4 ⟨rfl,ax⟩;have r8:=aq (s9.out.below ax);clear ax s9 g0 g1 cu cS bq fA u0 u1 fu;obtain⟨g0,g1⟩:=ot r8.out.vt;obtain⟨cu,cS,bq,fA⟩:=gW r8.out.a8;obtain⟨u0,u1⟩:=oN r8.out.res;have fu:=cJ r8.out.res;by_cases bJ:k=0
    · subst bJ
      have bw:af (r=(some (0,0),m-1)):=(by show _=_;rw[←hr.out,apD _ _ _ _ (Int.not_le.2 pD.out) cQ.out]);go_wp2_with fail;rw[bw.out];exact Hw rfl r8.out 0 0 0 rfl rfl (by show _=b5 -(m-1);omega) rfl rfl
    by_cases ba:k=2
    · subst ba
      obtain⟨P,hB⟩:∃P:Int,4^d=P:=⟨_,rfl⟩;have UW:1≤P∧P≤4096:=by rw[←hB];rcases (show d=0∨d=1∨d=2∨d=3∨d=4∨d=5∨d=6 by omega) with rfl|rfl|rfl|rfl|rfl|rfl|rfl<;>decide
      have bw:af (r=(some (P,P),m-1)):=(by show _=_;rw[←hr.out,apE _ _ _ _ (Int.not_le.2 pD.out) cQ.out,hB]);have w0:ae (2 *(d:Int))=2 *(d:Int):=cY _ (by omega);have cc:ae (2 ^(2 *(d:Int)).toNat)=P:=(by have:=acR (d:=(d:Int)) (by omega);rw[this,show ((d:Int)).toNat=d from rfl,hB];exact cY _ (by omega));have m0:0≤2 *(d:Int):=(by omega);have m1:2 *(d:Int)≤64:=(by omega);clear hB UW;go_wp2_with fail;rw[bw.out];exact Hw rfl r8.out P P 0 rfl rfl (by show _=b5 -(m-1);omega) rfl rfl
    have axk:(k==0)=false:=(by simp;omega);have axl:(k==2)=false:=(by simp;omega);by_cases d0:d=0
    · subst d0
      have bw:af (r=(some (0,1),m-1)):=(by show _=_;rw[←hr.out,K4,aW (Int.not_le.2 pD.out),cQ.out,aW bJ,aW ba]);go_wp2_with fail;rw[bw.out];exact Hw rfl r8.out 0 1 0 rfl rfl (by show _=b5 -(m-1);omega) rfl rfl
    obtain⟨fx,rfl⟩:∃fx,d=fx+1:=⟨d-1,by omega⟩;have bw:af ((splitB ⟨aD,aE,aL,aH⟩).foldl (tb fx g) (some (0,0),m-1)=r):=(by show _=_;rw[←hr.out,K3,aW (Int.not_le.2 pD.out),cQ.out,aW bJ,aW ba]);obtain⟨nV,mE,vR,G'⟩:=acM Hx.out.1;obtain⟨Hz,UX,UY,apH⟩:=acM Hx.out.2;obtain⟨x,c7⟩:∃x,aD+(aL-aD)/ 2=x:=⟨_,rfl⟩;obtain⟨y,k9⟩:∃y,aE+(aH-aE)/ 2=y:=⟨_,rfl⟩;have Eb:af (splitB ⟨aD,aE,aL,aH⟩=[⟨aD,aE,x,y⟩,⟨x,aE,aL,y⟩,⟨aD,y,x,aH⟩,⟨x,y,aL,aH⟩]):=(by show _=_;simp only[splitB,c7,k9]);have yF:((((fx+1:Nat):Int))==0)=false:=(by simp;omega);go_upto_region 12 with fail;have Gk:=aq (r8.out.below (a6 b4 (gf 0 0)));have PE:af ((b4.alloc (gf 0 0)).heap[b4.heap.size]?=some (gf 0 0)):=bY _ _;have Ct:af (w.heap.size+1+1<b4.heap.size):=lt_of_heap r8.out.res;obtain⟨jS,Bc⟩:∃jS,b4.heap.size=jS:=⟨_,rfl⟩;change Code.wp _ _ _ _ (b4.alloc (gf 0 0));generalize b4.alloc (gf 0 0)=c9 at Gk PE⊢;rw[Bc] at PE Ct⊢;clear Bc r8 g0 g1 cu cS bq fA u0 u1 fu;obtain⟨cu,cS,bq,fA⟩:=gW Gk.out.a8;go_wp2_with fail;with_reducible refine (aoL aD aE aL aH rY.out ⟨nV,Hx.out.1.2⟩ ⟨Hz,Hx.out.2.2⟩ x y c7 k9 _).mono ?_
    rintro e eK ⟨rfl,ax⟩;have ac2:=aq (Gk.out.below ax);have ac3:=aq (aU PE.out ax);clear ax Gk PE cu cS bq fA;go_wp2_with fail;have pI:=aq (ac2.out.below (a6 eK (ai ((Cq aD aE aL aH x y).toArray) 251)));have ac4:=aq (aU ac3.out (a6 eK (ai ((Cq aD aE aL aH x y).toArray) 251)));obtain⟨gB,UZ⟩:∃gB,eK.alloc (.cells (Cq aD aE aL aH x y).toArray 251)=gB:=⟨_,rfl⟩;rw[UZ] at pI ac4;have apI:af (∀j,okB (sa aD aE aL aH x y j)=true):=(by have yT:=Pt rY.out;simp only at yT;rintro (_|_|_|j)<;>simp only[sa,okB,tD,jh,jR]<;>omega);have Tl:af (∀j,((sa aD aE aL aH x y j).aL -(sa aD aE aL aH x y j).aD)%2^fx=0∧0<(sa aD aE aL aH x y j).aL -(sa aD aE aL aH x y j).aD):=by have a7:x-aD=(aL-aD)/ 2:=(by omega);have bf:aL-x=(aL-aD)/ 2:=(by omega);rintro (_|_|_|j)<;>simp only[sa]<;>first|(rw[a7];exact⟨vR,mE⟩)|(rw[bf];exact⟨vR,mE⟩)
    have MQ:af (∀j,((sa aD aE aL aH x y j).aH -(sa aD aE aL aH x y j).aE)%2^fx=0∧0<(sa aD aE aL aH x y j).aH -(sa aD aE aL aH x y j).aE):=by have a7:y-aE=(aH-aE)/ 2:=(by omega);have bf:aH-y=(aH-aE)/ 2:=(by omega);rintro (_|_|_|j)<;>simp only[sa]<;>first|(rw[a7];exact⟨UY,UX⟩)|(rw[bf];exact⟨UY,UX⟩)
    rw[Eb.out] at bw;obtain⟨P,hB⟩:∃P:Int,4^fx=P:=⟨_,rfl⟩;have UW:1≤P∧P≤1024:=by rw[←hB];rcases (show fx=0∨fx=1∨fx=2∨fx=3∨fx=4∨fx=5 by omega) with rfl|rfl|rfl|rfl|rfl|rfl<;>decide
    have yC:=aq hB;clear hB ac2 ac3 Eb nV mE vR G' Hz UX UY apH c7 k9;change Code.wp _ _ _ _ (eK.alloc (ai ((Cq aD aE aL aH x y).toArray) 251));rw[UZ];clear UZ
    go_loopw [46] (fun i wr=>∃(j:Nat) (lo hi m1:Int) (aM:aeo),aM=wr∧j≤4∧i=I j∧0≤lo∧lo≤hi∧hi≤j *P∧0≤m1∧m1≤m-1∧af (([⟨aD,aE,x,y⟩,⟨x,aE,aL,y⟩,⟨aD,y,x,aH⟩,⟨x,y,aL,aH⟩].drop j).foldl (tb fx g) (some (lo,hi),m1)=r)∧af (we w w.heap.size bG (lp p n c q k8) ⟨aD,aE,aL,aH⟩ b5 (b5-m1) aM)∧af (aM.heap[jS]?=some (gf lo hi))) (fun i _=>4 -(intOf i).toNat)
    case atStart=>exact⟨0,0,0,m-1,_,rfl,by decide,rfl,by decide,by decide,by omega,by have:=pD.out;omega,by omega,bw.out,by rw[show b5 -(m-1)=b5-m+1 by omega];exact pI.out,ac4.out⟩
    case round=>
    obtain⟨j,lo,hi,m1,aM,rfl,cd,rfl,Ir,qk,mg,ac5,apJ,cG,c1,ac6⟩:=hrel;by_cases En:j<4
    · have alw:(j:Int)<4:=by omega
      have mB:(0:Int)≤(j:Int):=(by omega);have axm:(j:Int) *P≤4 *1024:=Int.mul_le_mul (by omega) UW.2 (by omega) (by decide);obtain⟨⟨ni,gd,oP,kk⟩,K6⟩:∃b,sa aD aE aL aH x y j=b:=⟨_,rfl⟩;have ac7:af (∀s,([⟨aD,aE,x,y⟩,⟨x,aE,aL,y⟩,⟨aD,y,x,aH⟩,⟨x,y,aL,aH⟩].drop j).foldl (tb fx g) s=([⟨aD,aE,x,y⟩,⟨x,aE,aL,y⟩,⟨aD,y,x,aH⟩,⟨x,y,aL,aH⟩].drop (j+1)).foldl (tb fx g) (tb fx g s ⟨ni,gd,oP,kk⟩)):=by intro s;rw[←K6];rcases (show j=0∨j=1∨j=2∨j=3 by omega) with rfl|rfl|rfl|rfl<;>rfl
      have kB:∀w,(Instr.index 251 (.agg (Cq aD aE aL aH x y).toArray) (I j)).run Tryz.prog w=.ok (h5 ⟨ni,gd,oP,kk⟩) w:=(fun w=>by rw[←K6];exact apF aD aE aL aH x y j En w);obtain⟨⟨fV,m6⟩,c4⟩:∃qF,py fx (gV g ⟨ni,gd,oP,kk⟩) ⟨ni,gd,oP,kk⟩ m1=qF:=⟨_,rfl⟩;have EL:=aq c4;obtain⟨oM,K7⟩:∃oM:Int,(if fV.isNone=true then 6 else 0)=oM:=⟨_,rfl⟩;obtain⟨⟨dL,dM⟩,ka⟩:∃c:e3,fV.getD (0,0)=c:=⟨_,rfl⟩;have AH:=aq K7;have ui:=aq ka;have apK:af (okB ⟨ni,gd,oP,kk⟩=true):=(by show _=_;rw[←K6];exact apI.out j);have apL:af ((oP-ni)%2^fx=0∧0<oP-ni):=(by have h:=Tl.out j;rw[K6] at h;exact h);have apM:af ((kk-gd)%2^fx=0∧0<kk-gd):=(by have h:=MQ.out j;rw[K6] at h;exact h);clear c4 K7 ka;go_upto_region 16 with fail;have uB:=aq (c1.out.below (a6 aM (cV ⟨ni,gd,oP,kk⟩)));have K8:=aq (aU ac6.out (a6 aM (cV ⟨ni,gd,oP,kk⟩)));have o9:af ((aM.alloc (cV ⟨ni,gd,oP,kk⟩)).heap[aM.heap.size]?=some (cV ⟨ni,gd,oP,kk⟩)):=bY _ _;have MP:=uB.out.lt;have ac8:af (bG<aM.heap.size):=lt_of_heap c1.out.mt;generalize aM.alloc (cV ⟨ni,gd,oP,kk⟩)=cU at uB K8 o9⊢;obtain⟨mo,K9⟩:∃mo,aM.heap.size=mo:=⟨_,rfl⟩;rw[K9] at o9 ac8⊢;have yQ:mo≠bG:=(by have:=ac8.out;omega);have vX:w.heap.size≠bG:=(by have:=po.out;omega);have bC:af (∀Z,aP (fun k=>k≠bG) cU Z→PD cU bG w.heap.size p q n c k8 mo ni gd oP kk Z):=fun Z ay=>acZ uB.out.vt o9.out vX yQ ay;have xT:af (aP (fun k=>k≠bG) cU cU.drew):=aP.dW (Below.refl _ _).drew;have l1:=aq (bC.out _ (aP.refl _ _));have lY:=aq (bC.out _ xT.out);have kC:af (aP (fun k=>k≠bG) cU (cU.alloc (gf 0 0)).drew):=aP.dW (a6 _ _).drew;have DN:af (me S cU.drew p q g):=H.out.keep (US Hy.out (uB.out.k.trans xT.out));have KV:af (me S (cU.alloc (gf 0 0)).drew p q g):=H.out.keep (US Hy.out (uB.out.k.trans kC.out));have wg:af (cU.drew.heap[bG]?=some (ib b5 (b5-m1))):=uB.out.mt;have vm:af ((cU.alloc (gf 0 0)).drew.heap[bG]?=some (ib b5 (b5-m1))):=aU uB.out.mt (a6 _ _).drew;have tc:af ((cU.alloc (gf 0 0)).drew.heap[cU.heap.size]?=some (gf 0 0)):=bY _ _;have y5:af (∀k,(S k∨cU.drew.heap.size≤k)→(S k∨cU.heap.size≤k)):=fun k h=>h;have rL:af (∀k,(S k∨(cU.alloc (gf 0 0)).drew.heap.size≤k)→(S k∨cU.heap.size≤k)):=fun k h=>h.elim .inl (fun h=>.inr (dx (a6 cU (gf 0 0)).size h))
      have ac9:af (¬(fun k=>S k∨cU.heap.size≤k) bG):=by
        show ¬(S bG∨_);intro h;rcases h with h|h
        · exact Hy.out h
        · have av:=lt_of_heap uB.out.mt
          exact absurd h (by omega)
      have MG:=lt_of_heap K8.out;have U0:jS≠bG:=(by have:=Ct.out;have:=po.out;omega);have U1:cU.heap.size≠bG:=(by have av:=lt_of_heap uB.out.mt;omega);have axn:ae (fx:Int)=(fx:Int):=cY _ (by omega);have K':=aq (fun (xc:Nat→Prop) (apN:¬xc bG) (sb j1:Ja) (bU iP:Nat) (Z:aeo) (aF:me xc Z sb j1 (gV g ⟨ni,gd,oP,kk⟩)) (cz:Z.heap[bG]?=some (ib b5 (b5-m1)))=>wQ.out fx (by have:=F9.out;omega) (by omega) xc (gV g ⟨ni,gd,oP,kk⟩) (fun e he=>dn.out e (List.mem_filter.1 he).1) sb j1 (gV g ⟨ni,gd,oP,kk⟩).length bU iP rfl ⟨ni,gd,oP,kk⟩ apK.out apL.out apM.out bG apN b5 m1 (by have:=w5.out;omega) Z (aq aF) (aq cz) (fV,m6) EL);have EM:bG<cU.heap.size:=lt_of_heap uB.out.mt;clear K9 MP
      go_region_held3 (fun Z => PD cU bG w.heap.size p q n c k8 mo ni gd oP kk Z) (first | with_reducible exact l1.out | with_reducible exact lY.out | with_reducible exact bC.out _ kC.out | with_reducible exact bC.out _ (((lx.wb nw.size _).wb nw.size _)) | with_reducible exact bC.out _ (((lx.wb (bx _) _).wb (bx _) _)) | with_reducible exact bC.out _ (lx.trans (aP.alloc _ _ _)) | with_reducible exact bC.out _ lx | with_reducible exact bC.out _ (nw.trans (aP.alloc _ _ _)) | with_reducible exact bC.out _ nw | assumption | (trace_state; fail)) (first
        |(go_at_call 86;with_reducible refine (Jf S g p q n c k8 ⟨ni,gd,oP,kk⟩ bd.out cU.drew DN).mono ?_;rintro e eT ⟨sb,bU,j1,iP,rfl,xU,la⟩;have nw:=xT.out.trans (aP.dW la);have EN:=aU wg.out la;have EO:=xU.mono (fun k _ h=>y5.out k h);clear xU)
        |(go_at_call 86;with_reducible refine (Jf S g p q n c k8 ⟨ni,gd,oP,kk⟩ bd.out (cU.alloc (gf 0 0)).drew KV).mono ?_;rintro e eT ⟨sb,bU,j1,iP,rfl,xU,la⟩;have nw:=kC.out.trans (aP.dW la);have EN:=aU vm.out la;have EO:=xU.mono (fun k _ h=>rL.out k h);have U2:=aU tc.out la;clear xU)
        |(go_at_call 87;with_reducible refine (K'.out (fun k=>S k∨cU.heap.size≤k) ac9.out sb j1 bU iP eT EO EN).mono ?_;intro e e6 fM;obtain⟨EP,AI,xV⟩:=AG.get fM ui.out AH.out;subst EP;have lx:=nw.trans xV;try (have mS:=xV.get U1 U2;obtain⟨z0,z1⟩:=oN mS;have oJ:=cJ mS))
        |(go_at_call 87;with_reducible refine (K'.out (fun k=>S k∨cU.heap.size≤k) ac9.out sb j1 bU iP (eT.alloc (gf 0 0)) (EO.below (a6 _ _)) (aU EN (a6 _ _))).mono ?_;intro e e6 fM;obtain⟨EP,AI,xV⟩:=AG.get fM ui.out AH.out;subst EP;have lx:=(nw.trans (aP.alloc _ _ _)).trans xV;have mS:=xV.get (acY nw.size EM) (bY eT (gf 0 0));obtain⟨z0,z1⟩:=oN mS;have oJ:=cJ mS))
      all_goals
        first
          | (change Exit.then _ _ _ _ (e6.alloc (gf dL dM))
             have pK:=aq ((uB.out.step lx AI).below (a6 e6 (gf dL dM)));have kl:af ((e6.alloc (gf dL dM)).heap[e6.heap.size]?=some (gf dL dM)):=bY _ _;have Cu:af ((e6.alloc (gf dL dM)).heap[jS]?=some (gf lo hi)):=(lx.trans (aP.alloc _ _ _)).get U0 K8.out;have ER:e6.heap.size≠jS:=(by have:=lx.size;omega);generalize e6.alloc (gf dL dM)=hX at pK kl Cu⊢;obtain⟨La,qb⟩:∃B,e6.heap.size=B:=⟨_,rfl⟩;rw[qb] at kl ER⊢;clear qb)
          | (change Exit.then _ _ _ _ ((e6.setCell (aj eT.heap.size 0) (I dL)).setCell (aj eT.heap.size 1) (I dM))
             have apO:=nw.size;have pK:=aq (((uB.out.step lx AI).new (c:=eT.heap.size) (i:=0) (by have:=Ct.out;omega) (I dL)).new (c:=eT.heap.size) (i:=1) (by have:=Ct.out;omega) (I dM));have kl:af (((e6.setCell (aj eT.heap.size 0) (I dL)).setCell (aj eT.heap.size 1) (I dM)).heap[eT.heap.size]?=some (gf dL dM)):=oh [I dL,I dM] mS rfl;have ER:eT.heap.size≠jS:=(by omega);have Cu:af (((e6.setCell (aj eT.heap.size 0) (I dL)).setCell (aj eT.heap.size 1) (I dM)).heap[jS]?=some (gf lo hi)):=(wX (m:=0) (gu ER) [I dL,I dM]).trans (lx.get U0 K8.out);generalize (e6.setCell (aj eT.heap.size 0) (I dL)).setCell (aj eT.heap.size 1) (I dM)=hX at pK kl Cu⊢;clear apO z0 z1 oJ mS;obtain⟨La,qb⟩:∃B,eT.heap.size=B:=⟨_,rfl⟩;rw[qb] at kl ER⊢;clear qb)
          | (change Exit.then _ _ _ _ ((e6.setCell (aj cU.heap.size 0) (I dL)).setCell (aj cU.heap.size 1) (I dM))
             have pK:=aq (((uB.out.step lx AI).new (c:=cU.heap.size) (i:=0) (by have:=Ct.out;omega) (I dL)).new (c:=cU.heap.size) (i:=1) (by have:=Ct.out;omega) (I dM));have kl:af (((e6.setCell (aj cU.heap.size 0) (I dL)).setCell (aj cU.heap.size 1) (I dM)).heap[cU.heap.size]?=some (gf dL dM)):=oh [I dL,I dM] mS rfl;have ER:cU.heap.size≠jS:=(by omega);have Cu:af (((e6.setCell (aj cU.heap.size 0) (I dL)).setCell (aj cU.heap.size 1) (I dM)).heap[jS]?=some (gf lo hi)):=(wX (m:=0) (gu ER) [I dL,I dM]).trans (lx.get U0 K8.out);generalize (e6.setCell (aj cU.heap.size 0) (I dL)).setCell (aj cU.heap.size 1) (I dM)=hX at pK kl Cu⊢;clear z0 z1 oJ mS;obtain⟨La,qb⟩:∃B,cU.heap.size=B:=⟨_,rfl⟩;rw[qb] at kl ER⊢;clear qb)
      all_goals
        obtain⟨s0,s1⟩:=oN Cu.out;obtain⟨v0,v1⟩:=oN kl.out;obtain⟨u0,u1⟩:=oN pK.out.res;have fu:=cJ pK.out.res;have axo:=cJ Cu.out;cases fV with
        |none=>
          obtain rfl:(6:Int)=oM:=AH.out;have dr:af (r=(none,m6)):=cG.out.symm.trans (by rw[ac7.out,acJ EL.out,UQ]);go_wp2_with fail;rw[dr.out];exact Hw rfl pK.out 0 0 6 rfl rfl rfl rfl rfl
        |some jW=>
          obtain rfl:(0:Int)=oM:=AH.out;obtain rfl:(dL,dM)=jW:=ui.out.symm;obtain⟨aY,adb,ade⟩:=PB fx _ _ _ _ _ EL.out;rw[yC.out] at aY;obtain⟨zk,sN,rf⟩:=aY;have oo:ae (lo+dL)=lo+dL:=cY _ (by omega);have w6:ae (hi+dM)=hi+dM:=cY _ (by omega);have dr:af (([⟨aD,aE,x,y⟩,⟨x,aE,aL,y⟩,⟨aD,y,x,aH⟩,⟨x,y,aL,aH⟩].drop (j+1)).foldl (tb fx g) (some (lo+dL,hi+dM),m6)=r):=(by show _=_;rw[←cG.out,ac7.out,acK EL.out]);have apP:=aq ((pK.out.new (c:=jS) (i:=0) (by have:=Ct.out;omega) (I (lo+dL))).new (c:=jS) (i:=1) (by have:=Ct.out;omega) (I (hi+dM)));have apQ:af (((hX.setCell (aj jS 0) (I (lo+dL))).setCell (aj jS 1) (I (hi+dM))).heap[jS]?=some (gf (lo+dL) (hi+dM))):=oh [I (lo+dL),I (hi+dM)] Cu.out rfl;go_wp2_with fail;go_round<;>first|exact⟨j+1,lo+dL,hi+dM,m6,_,rfl,by omega,by go_num,by omega,by omega,by rw[show ((j+1:Nat):Int) *P=(j:Int) *P+P by push_cast;grind];omega,by omega,by omega,dr.out,apP.out,apQ.out⟩|(simp[intOf]<;>omega)
    ·
      obtain rfl:j=4:=(by omega);have dr:af (r=(some (lo,hi),m1)):=cG.out.symm;obtain⟨s0,s1⟩:=oN ac6.out;obtain⟨u0,u1⟩:=oN c1.out.res;have fu:=cJ c1.out.res;go_wp2_with fail;rw[dr.out];exact Hw rfl c1.out lo hi 0 rfl rfl rfl rfl rfl
end dd
