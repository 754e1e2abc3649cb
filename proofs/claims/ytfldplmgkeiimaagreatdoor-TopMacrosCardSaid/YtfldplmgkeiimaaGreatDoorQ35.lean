/- Lemmas. -/
import Derived.Test.YtfldplmgkeiimaaGreatDoorQ34
set_option linter.all false
set_option maxRecDepth 100000
set_option maxHeartbeats 25600000
namespace Go.Proofs.YtfldplmgkeiimaaGreatDoor
abbrev MA:=@Int.mul_le_mul
namespace c4
open Go.RowKit dH
abbrev oE:TypeId:=43
abbrev gj(a b:Int):Obj:=.cells #[I a,I b] oE
variable{x w w0:aeo}
theorem aQ.w6{S:afp}{W:aeo}(h:aQ S W x){b i:Nat}(ay:W.heap.size≤b)(u:ada):aQ S W (x.setCell (aj b i) u):=
 ⟨h.os,h.tape,h.output,dB h.size (by simp[World.setCell]),fun k hs aA=>(mw (by omega)).trans (h.block k hs aA)⟩
variable{bH g:Nat}
theorem V4{S:afp}(hS:¬S bH)(h:aQ (fun k=>k≠bH) w x):aQ S w x:=h.mono (R:=S) (fun k _ hs=>by show k≠bH;intro e;rw[e] at hs;exact hS hs)
structure w7(w0:aeo)(g bH:Nat)(gs:ajv)(b:bO)(cf a:Int)(x:aeo):Prop where
 wo:an x g gs je
 bb:x.heap[g+1]?=some (cU b)
 res:x.heap[g+1+1]?=some (gj 0 0)
 mt:x.heap[bH]?=some (hk cf a)
 k:aQ (fun k=>k≠bH) w0 x
 lt:bH<g
variable{b:bO}{gs:ajv}{cf a:Int}
theorem w7.step{hq:Int}{y:aeo}(h:w7 w0 g bH gs b cf a x)(ax:aQ (fun k=>k≠bH) x y)(hm:y.heap[bH]?=some (hk cf hq)):w7 w0 g bH gs b cf hq y:=by have aA:=h.lt;exact⟨ax.get (by show _≠_;omega) h.wo,ax.get (by show _≠_;omega) h.bb,ax.get (by show _≠_;omega) h.res,hm,h.k.trans ax,h.lt⟩
theorem w7.below{y:aeo}(h:w7 w0 g bH gs b cf a x)(ay:ao x x y):w7 w0 g bH gs b cf a y:=h.step (aQ.dI ay) (aU h.mt ay)
theorem w7.new(h:w7 w0 g bH gs b cf a x){c i:Nat}(hc:g+1+1<c∧w0.heap.size≤c)(u:ada):w7 w0 g bH gs b cf a (x.setCell (aj c i) u):=by have aA:=h.lt;exact⟨(mw (by omega)).trans h.wo,(mw (by omega)).trans h.bb,(mw (by omega)).trans h.res,(mw (by omega)).trans h.mt,h.k.w6 hc.2 u,h.lt⟩
theorem afE{a b:Nat}(h:a≤b)(ba:bH<a):b≠bH:=by omega
def BB(bH:Nat)(cf:Int)(w:aeo)(r:Option eM×Int)(e:Ending)(w':aeo):Prop:=
 e=ab (.tuple #[Dt (r.1.getD (0,0)),I (if r.1.isNone=true then 6 else 0)])∧w'.heap[bH]?=some (hk cf (cf-r.2))∧aQ (fun k=>k≠bH) w w'
theorem BB.get{o:Option eM}{m:Int}{e:Ending}{w':aeo}(h:BB bH cf w (o,m) e w'){b pf:Int}(hc:o.getD (0,0)=(a,b))(he:(if o.isNone=true then 6 else 0)=pf):
  e=ab (.tuple #[.agg #[I a,I b],I pf])∧w'.heap[bH]?=some (hk cf (cf-m))∧aQ (fun k=>k≠bH) w w':=by
 obtain⟨av,az,aF⟩:=h;simp only at av;rw[hc,he] at av;exact⟨av,az,aF⟩
theorem I7{bY:aeo}(ba:g=w.heap.size)(h:w7 w g bH gs b cf a bY){r:Option eM×Int}(aN aL pf:Int)(hc:(aN,aL)=r.1.getD (0,0))(he:pf=if r.1.isNone=true then 6 else 0)(ha:a=cf-r.2)
  {tmps:ajv} (hp:tmps.getD 8 undef=.pointer (some (aj (g+1+1) 0))) (hs:tmps.getD 9 undef=I pf):
  bodyPost Tryz.prog Tryz.f87 (BB bH cf w r) .ret ⟨tmps,[]⟩ ((bY.setCell (aj (g+1+1) 0) (I aN)).setCell (aj (g+1+1) 1) (I aL)):=by
 have jV:=oU [I aN,I aL] h.res rfl;have aA:=h.lt;refine dC (l6 rfl _ _ (g+1+1) _ _ _ _ hp jV Tryz.underlying43 rfl (by kernel_rfl)) rfl ⟨?_,?_,?_⟩
 ·rw[hs,←hc,he]
 ·rw[←ha];exact (xJ (by omega) [I aN,I aL]).trans h.mt
 ·exact (h.k.w6 (by omega) _).w6 (by omega) _
theorem atC(d:Nat)(g:List eB)(b:bO)(m:Int)(h:m≤0):n1 d g b m=(none,m-1):=by
 cases d with
 |zero=>rw[B8,a8 h]
 |succ d=>rw[B7,a8 h]
theorem atD(d:Nat)(g:List eB)(b:bO)(m:Int)(h:¬m≤0)(ax:kJ (g.map eB.o) b=0):n1 d g b m=(some (0,0),m-1):=by
 cases d with
 |zero=>rw[B8,aR h,a8 ax]
 |succ d=>rw[B7,aR h,a8 ax]
theorem atE(d:Nat)(g:List eB)(b:bO)(m:Int)(h:¬m≤0)(ax:kJ (g.map eB.o) b=2):n1 d g b m=(some (4^d,4^d),m-1):=by
 cases d with
 |zero=>rw[B8,aR h,aR (by omega),a8 ax];rfl
 |succ d=>rw[B7,aR h,aR (by omega),a8 ax]
def sH(aD aC aG aE x y:Int):Nat→bO
 |0=>⟨aD,aC,x,y⟩
 |1=>⟨x,aC,aG,y⟩
 |2=>⟨aD,y,x,aE⟩
 |_=>⟨x,y,aG,aE⟩
theorem atF(aD aC aG aE x y:Int)(j:Nat)(cr:j<4)(w:aeo):(Instr.index 251 (.agg #[I aD,I aC,I x,I y,I x,I aC,I aG,I y,I aD,I y,I x,I aE,I x,I y,I aG,I aE]) (I j)).run Tryz.prog w=.ok (h7 (sH aD aC aG aE x y j)) w:=by rcases (show j=0∨j=1∨j=2∨j=3 by omega) with rfl|rfl|rfl|rfl<;>simp[Instr.index,jq Tryz.underlying251,asIntOf,go_sem,sH,part]
abbrev QD(W:aeo)(bH g:Nat)(p q:Ja)(n c e:Nat)(mL:Nat)(a0 bE a2 a3:Int)(Z:aeo):Prop:=
 Z.cell? ⟨g,0,none⟩=some (ad p n c)∧ak Z g 1 (ad q n e)∧ak Z mL 0 (I a0)∧ak Z mL 1 (I bE)∧ak Z mL 2 (I a2)∧ak Z mL 3 (I a3)∧aQ (fun k=>k≠bH) W Z
theorem afF{W Z:aeo}{p q:Ja}{n c e:Nat}{mL:Nat}{a0 bE a2 a3:Int}(ba:an W g (lG p n c q e) je)(ay:W.heap[mL]?=some (cU ⟨a0,bE,a2,a3⟩))(dy:g≠bH)(eU:mL≠bH)(ax:aQ (fun k=>k≠bH) W Z):QD W bH g p q n c e mL a0 bE a2 a3 Z:=by have av:=ax.get dy ba;have az:=ax.get eU ay;exact⟨cell_of av rfl,cell_of av rfl,cell_of az rfl,cell_of az rfl,cell_of az rfl,cell_of az rfl,ax⟩
theorem atG(N:Nat):∀(d:Nat),d<N→d≤6→∀(S:afp) (g:List eB) (aA:∀e∈g,qE e.o.2) (p q:Ja) (n c lh:Nat) (hn:n=g.length) (b:bO) (ay:okB b=true) (hx:(b.aG-b.aD)%2^d=0∧0<b.aG-b.aD) (hy:(b.aE-b.aC)%2^d=0∧0<b.aE-b.aC) (bH:Nat) (hS:¬S bH) (cf m:Int) (hm:-1≤cf-m∧cf≤100000000∧-1000≤m) (w:aeo) (H:af (my S w p q g)) (bM:af (w.heap[bH]?=some (hk cf (cf-m)))) (r:Option eM×Int) (hr:af (n1 d g b m=r)),
    Calls Tryz.prog 87 #[.agg (lG p n c q lh),h7 b,I (d:Int),ah bH 0] w (BB bH cf w r):=by
  induction N with
  |zero=>intro d h;exact absurd h (nB _)
  |succ N cT=>
  intro d EW afG S g aA p q n c lh hn b ay hx hy bH hS cf m hm w H bM r hr;have xB:=aq cT;have Hp:=aq EW;have dT:=aq aA;have bf:=aq hn;have oA:=aq ay;have I8:=aq (And.intro hx hy);have I9:=aq hS;have xI:=aq hm;have tX:=aq (lt_of_heap bM.out);clear cT EW aA hn ay hx hy hS hm;obtain⟨aD,aC,aG,aE⟩:=b;obtain⟨f,hf⟩:∃f,decide (cf-m+1≤cf)=f:=⟨_,rfl⟩;have aP:=aq hf;obtain⟨k,ax⟩:∃k,kJ (g.map eB.o) ⟨aD,aC,aG,aE⟩=k:=⟨_,rfl⟩;have dn:=aq ax;have V5:=ai2 (g.map eB.o) ⟨aD,aC,aG,aE⟩;rw[ax] at V5;have ayy:=aq V5;clear ax V5;go_enter Tryz.func87,Tryz.ntmps87;go_upto_region 1 with fail;obtain⟨W,br⟩:∃W,((w.alloc (ai (lG p n c q lh) je)).alloc (cU ⟨aD,aC,aG,aE⟩)).alloc (gj 0 0)=W:=⟨_,rfl⟩;have bm:af (w7 w w.heap.size bH (lG p n c q lh) ⟨aD,aC,aG,aE⟩ cf (cf-m) W):=(by obtain⟨av,az,aF,bk,_⟩:=zc br;exact⟨av,az,aF,aU bM.out bk,aQ.dI bk,tX.out⟩);rw[br];clear br;go_wp2_with fail;with_reducible refine (asX bH cf (cf-m) (by have:=xI.out;omega) _ (aq bm.out.mt) f aP).mono ?_
  rintro e ck ⟨rfl,afH,r6⟩;have pO:=aq (bm.out.step r6 afH);clear afH r6 bm;obtain⟨g0,g1⟩:=o1 pO.out.wo;obtain⟨cy,cE,bo,fk⟩:=hb pO.out.bb;obtain⟨u0,u1⟩:=pg pO.out.res;have fu:=cR pO.out.res;cases f with
  |false=>
    have s9:m≤0:=(by simp only[DT] at hf;omega);have bq:af (r=(none,m-1)):=(by show _=_;rw[←hr.out,atC _ _ _ _ s9]);clear hf;go_wp2_with fail;rw[bq.out];exact I7 rfl pO.out 0 0 6 rfl rfl (by show _=cf -(m-1);omega) rfl rfl
  |true=>
    have mC:af (0<m):=(by show 0<m;simp only[iO] at hf;omega);clear hf;go_wp2_with fail;with_reducible refine (aly S ⟨aD,aC,aG,aE⟩ (asY oA.out) p (g.map eB.o) n c (by rw[e6];exact bf.out) (by intro o bl;obtain⟨e,he,rfl⟩:=List.mem_map.1 bl;exact dT.out e he) _ (aq (H.out.o.keep (V4 I9.out pO.out.k))) k dn).mono ?_
    rintro e cm ⟨rfl,ay⟩;have qo:=aq (pO.out.below ay);clear ay pO g0 g1 cy cE bo fk u0 u1 fu;obtain⟨g0,g1⟩:=o1 qo.out.wo;obtain⟨cy,cE,bo,fk⟩:=hb qo.out.bb;obtain⟨u0,u1⟩:=pg qo.out.res;have fu:=cR qo.out.res;by_cases bQ:k=0
    · subst bQ
      have bq:af (r=(some (0,0),m-1)):=(by show _=_;rw[←hr.out,atD _ _ _ _ (Int.not_le.2 mC.out) dn.out]);go_wp2_with fail;rw[bq.out];exact I7 rfl qo.out 0 0 0 rfl rfl (by show _=cf -(m-1);omega) rfl rfl
    by_cases a7:k=2
    · subst a7
      obtain⟨P,hv⟩:∃P:Int,4^d=P:=⟨_,rfl⟩;have V6:1≤P∧P≤4096:=by rw[←hv];rcases (show d=0∨d=1∨d=2∨d=3∨d=4∨d=5∨d=6 by omega) with rfl|rfl|rfl|rfl|rfl|rfl|rfl<;>decide
      have bq:af (r=(some (P,P),m-1)):=(by show _=_;rw[←hr.out,atE _ _ _ _ (Int.not_le.2 mC.out) dn.out,hv]);have w0:ae (2 *(d:Int))=2 *(d:Int):=cX _ (by omega);have bV:ae (2 ^(2 *(d:Int)).toNat)=P:=(by have:=afx (d:=(d:Int)) (by omega);rw[this,show ((d:Int)).toNat=d from rfl,hv];exact cX _ (by omega));have m0:0≤2 *(d:Int):=(by omega);have m1:2 *(d:Int)≤64:=(by omega);clear hv V6;go_wp2_with fail;rw[bq.out];exact I7 rfl qo.out P P 0 rfl rfl (by show _=cf -(m-1);omega) rfl rfl
    have ayz:(k==0)=false:=(by simp;omega);have ayA:(k==2)=false:=(by simp;omega);by_cases d0:d=0
    · subst d0
      have bq:af (r=(some (0,1),m-1)):=(by show _=_;rw[←hr.out,B8,aR (Int.not_le.2 mC.out),dn.out,aR bQ,aR a7]);go_wp2_with fail;rw[bq.out];exact I7 rfl qo.out 0 1 0 rfl rfl (by show _=cf -(m-1);omega) rfl rfl
    obtain⟨fA,rfl⟩:∃fA,d=fA+1:=⟨d-1,by omega⟩;have bq:af ((splitB ⟨aD,aC,aG,aE⟩).foldl (oM fA g) (some (0,0),m-1)=r):=(by show _=_;rw[←hr.out,B7,aR (Int.not_le.2 mC.out),dn.out,aR bQ,aR a7]);obtain⟨l0,pH,wO,Ix⟩:=XR I8.out.1;obtain⟨I',V7,V8,atH⟩:=XR I8.out.2;obtain⟨x,dd⟩:∃x,aD+(aG-aD)/ 2=x:=⟨_,rfl⟩;obtain⟨y,lj⟩:∃y,aC+(aE-aC)/ 2=y:=⟨_,rfl⟩;have Fo:af (splitB ⟨aD,aC,aG,aE⟩=[⟨aD,aC,x,y⟩,⟨x,aC,aG,y⟩,⟨aD,y,x,aE⟩,⟨x,y,aG,aE⟩]):=(by show _=_;simp only[splitB,dd,lj]);have zk:((((fA+1:Nat):Int))==0)=false:=(by simp;omega);go_upto_region 12 with fail;have HE:=aq (qo.out.below (a' cm (gj 0 0)));have QE:af ((cm.alloc (gj 0 0)).heap[cm.heap.size]?=some (gj 0 0)):=cd _ _;have Du:af (w.heap.size+1+1<cm.heap.size):=lt_of_heap qo.out.res;obtain⟨k5,JQ⟩:∃k5,cm.heap.size=k5:=⟨_,rfl⟩;change Code.wp _ _ _ _ (cm.alloc (gj 0 0));generalize cm.alloc (gj 0 0)=dt at HE QE⊢;rw[JQ] at QE Du⊢;clear JQ qo g0 g1 cy cE bo fk u0 u1 fu;obtain⟨cy,cE,bo,fk⟩:=hb HE.out.bb;go_wp2_with fail;with_reducible refine (asZ aD aC aG aE oA.out ⟨l0,I8.out.1.2⟩ ⟨I',I8.out.2.2⟩ x y dd lj _).mono ?_
    rintro e dG ⟨rfl,ay⟩;have afI:=aq (HE.out.below ay);have afJ:=aq (aU QE.out ay);clear ay HE QE cy cE bo fk;go_wp2_with fail;have qm:=aq (afI.out.below (a' dG (ai ((Dr aD aC aG aE x y).toArray) 251)));have afK:=aq (aU afJ.out (a' dG (ai ((Dr aD aC aG aE x y).toArray) 251)));obtain⟨gO,V9⟩:∃gO,dG.alloc (.cells (Dr aD aC aG aE x y).toArray 251)=gO:=⟨_,rfl⟩;rw[V9] at qm afK;have atI:af (∀j,okB (sH aD aC aG aE x y j)=true):=(by have zC:=Qw oA.out;simp only at zC;rintro (_|_|_|j)<;>simp only[sH,okB,sP,ix,iO]<;>omega);have Ug:af (∀j,((sH aD aC aG aE x y j).aG -(sH aD aC aG aE x y j).aD)%2^fA=0∧0<(sH aD aC aG aE x y j).aG -(sH aD aC aG aE x y j).aD):=by have a1:x-aD=(aG-aD)/ 2:=(by omega);have a6:aG-x=(aG-aD)/ 2:=(by omega);rintro (_|_|_|j)<;>simp only[sH]<;>first|(rw[a1];exact⟨wO,pH⟩)|(rw[a6];exact⟨wO,pH⟩)
    have NY:af (∀j,((sH aD aC aG aE x y j).aE -(sH aD aC aG aE x y j).aC)%2^fA=0∧0<(sH aD aC aG aE x y j).aE -(sH aD aC aG aE x y j).aC):=by have a1:y-aC=(aE-aC)/ 2:=(by omega);have a6:aE-y=(aE-aC)/ 2:=(by omega);rintro (_|_|_|j)<;>simp only[sH]<;>first|(rw[a1];exact⟨V8,V7⟩)|(rw[a6];exact⟨V8,V7⟩)
    rw[Fo.out] at bq;obtain⟨P,hv⟩:∃P:Int,4^fA=P:=⟨_,rfl⟩;have V6:1≤P∧P≤1024:=by rw[←hv];rcases (show fA=0∨fA=1∨fA=2∨fA=3∨fA=4∨fA=5 by omega) with rfl|rfl|rfl|rfl|rfl|rfl<;>decide
    have zg:=aq hv;clear hv afI afJ Fo l0 pH wO Ix I' V7 V8 atH dd lj;change Code.wp _ _ _ _ (dG.alloc (ai ((Dr aD aC aG aE x y).toArray) 251));rw[V9];clear V9
    go_loopw [46] (fun i wr=>∃(j:Nat) (lo hi m1:Int) (aK:aeo),aK=wr∧j≤4∧i=I j∧0≤lo∧lo≤hi∧hi≤j *P∧0≤m1∧m1≤m-1∧af (([⟨aD,aC,x,y⟩,⟨x,aC,aG,y⟩,⟨aD,y,x,aE⟩,⟨x,y,aG,aE⟩].drop j).foldl (oM fA g) (some (lo,hi),m1)=r)∧af (w7 w w.heap.size bH (lG p n c q lh) ⟨aD,aC,aG,aE⟩ cf (cf-m1) aK)∧af (aK.heap[k5]?=some (gj lo hi))) (fun i _=>4 -(intOf i).toNat)
    case atStart=>exact⟨0,0,0,m-1,_,rfl,by decide,rfl,by decide,by decide,by omega,by have:=mC.out;omega,by omega,bq.out,by rw[show cf -(m-1)=cf-m+1 by omega];exact qm.out,afK.out⟩
    case round=>
    obtain⟨j,lo,hi,m1,aK,rfl,cr,rfl,JY,q7,mB,afL,atJ,df,cC,afM⟩:=hrel;by_cases FB:j<4
    · have aox:(j:Int)<4:=by omega
      have Ks:(0:Int)≤(j:Int):=(by omega);have ayB:(j:Int) *P≤4 *1024:=MA (by omega) V6.2 (by omega) (by decide);obtain⟨⟨jr,gg,ph,kq⟩,MB⟩:∃b,sH aD aC aG aE x y j=b:=⟨_,rfl⟩;have afN:af (∀s,([⟨aD,aC,x,y⟩,⟨x,aC,aG,y⟩,⟨aD,y,x,aE⟩,⟨x,y,aG,aE⟩].drop j).foldl (oM fA g) s=([⟨aD,aC,x,y⟩,⟨x,aC,aG,y⟩,⟨aD,y,x,aE⟩,⟨x,y,aG,aE⟩].drop (j+1)).foldl (oM fA g) (oM fA g s ⟨jr,gg,ph,kq⟩)):=by intro s;rw[←MB];rcases (show j=0∨j=1∨j=2∨j=3 by omega) with rfl|rfl|rfl|rfl<;>rfl
      have r4:∀w,(Instr.index 251 (.agg (Dr aD aC aG aE x y).toArray) (I j)).run Tryz.prog w=.ok (h7 ⟨jr,gg,ph,kq⟩) w:=(fun w=>by rw[←MB];exact atF aD aC aG aE x y j FB w);obtain⟨⟨fW,m6⟩,cW⟩:∃p6,n1 fA (fj g ⟨jr,gg,ph,kq⟩) ⟨jr,gg,ph,kq⟩ m1=p6:=⟨_,rfl⟩;have zN:=aq cW;obtain⟨pf,MC⟩:∃pf:Int,(if fW.isNone=true then 6 else 0)=pf:=⟨_,rfl⟩;obtain⟨⟨dV,dW⟩,mY⟩:∃c:eM,fW.getD (0,0)=c:=⟨_,rfl⟩;have BC:=aq MC;have ve:=aq mY;have atK:af (okB ⟨jr,gg,ph,kq⟩=true):=(by show _=_;rw[←MB];exact atI.out j);have atL:af ((ph-jr)%2^fA=0∧0<ph-jr):=(by have h:=Ug.out j;rw[MB] at h;exact h);have atM:af ((kq-gg)%2^fA=0∧0<kq-gg):=(by have h:=NY.out j;rw[MB] at h;exact h);clear cW MC mY;go_upto_region 16 with fail;have vv:=aq (cC.out.below (a' aK (cU ⟨jr,gg,ph,kq⟩)));have MD:=aq (aU afM.out (a' aK (cU ⟨jr,gg,ph,kq⟩)));have sy:af ((aK.alloc (cU ⟨jr,gg,ph,kq⟩)).heap[aK.heap.size]?=some (cU ⟨jr,gg,ph,kq⟩)):=cd _ _;have J1:=vv.out.lt;have afO:af (bH<aK.heap.size):=lt_of_heap cC.out.mt;generalize aK.alloc (cU ⟨jr,gg,ph,kq⟩)=dc at vv MD sy⊢;obtain⟨mL,ME⟩:∃mL,aK.heap.size=mL:=⟨_,rfl⟩;rw[ME] at sy afO⊢;have zv:mL≠bH:=(by have:=afO.out;omega);have w1:w.heap.size≠bH:=(by have:=tX.out;omega);have bz:af (∀Z,aQ (fun k=>k≠bH) dc Z→QD dc bH w.heap.size p q n c lh mL jr gg ph kq Z):=fun Z ax=>afF vv.out.wo sy.out w1 zv ax;have yI:af (aQ (fun k=>k≠bH) dc dc.drew):=aQ.dI (Below.refl _ _).drew;have l2:=aq (bz.out _ (aQ.refl _ _));have oi:=aq (bz.out _ yI.out);have kM:af (aQ (fun k=>k≠bH) dc (dc.alloc (gj 0 0)).drew):=aQ.dI (a' _ _).drew;have ES:af (my S dc.drew p q g):=H.out.keep (V4 I9.out (vv.out.k.trans yI.out));have Mt:af (my S (dc.alloc (gj 0 0)).drew p q g):=H.out.keep (V4 I9.out (vv.out.k.trans kM.out));have wW:af (dc.drew.heap[bH]?=some (hk cf (cf-m1))):=vv.out.mt;have wg:af ((dc.alloc (gj 0 0)).drew.heap[bH]?=some (hk cf (cf-m1))):=aU vv.out.mt (a' _ _).drew;have tZ:af ((dc.alloc (gj 0 0)).drew.heap[dc.heap.size]?=some (gj 0 0)):=cd _ _;have zL:af (∀k,(S k∨dc.drew.heap.size≤k)→(S k∨dc.heap.size≤k)):=fun k h=>h;have se:af (∀k,(S k∨(dc.alloc (gj 0 0)).drew.heap.size≤k)→(S k∨dc.heap.size≤k)):=fun k h=>h.elim .inl (fun h=>.inr (dB (a' dc (gj 0 0)).size h))
      have afP:af (¬(fun k=>S k∨dc.heap.size≤k) bH):=by
        show ¬(S bH∨_);intro h;rcases h with h|h
        · exact I9.out h
        · have av:=lt_of_heap vv.out.mt
          exact absurd h (by omega)
      have ayC:=lt_of_heap MD.out;have V':k5≠bH:=(by have:=Du.out;have:=tX.out;omega);have Wa:dc.heap.size≠bH:=(by have av:=lt_of_heap vv.out.mt;omega);have ayD:ae (fA:Int)=(fA:Int):=cX _ (by omega);have MF:=aq (fun (xT:Nat→Prop) (atN:¬xT bH) (sI iL:Ja) (bX lf:Nat) (Z:aeo) (ba:my xT Z sI iL (fj g ⟨jr,gg,ph,kq⟩)) (bn:Z.heap[bH]?=some (hk cf (cf-m1)))=>xB.out fA (by have:=Hp.out;omega) (by omega) xT (fj g ⟨jr,gg,ph,kq⟩) (fun e he=>dT.out e (List.mem_filter.1 he).1) sI iL (fj g ⟨jr,gg,ph,kq⟩).length bX lf rfl ⟨jr,gg,ph,kq⟩ atK.out atL.out atM.out bH atN cf m1 (by have:=xI.out;omega) Z (aq ba) (aq bn) (fW,m6) zN);have F8:bH<dc.heap.size:=lt_of_heap vv.out.mt;clear ME J1
      go_region_held3 (fun Z => QD dc bH w.heap.size p q n c lh mL jr gg ph kq Z) (first | with_reducible exact l2.out | with_reducible exact oi.out | with_reducible exact bz.out _ kM.out | with_reducible exact bz.out _ (((mg.w6 kW.size _).w6 kW.size _)) | with_reducible exact bz.out _ (((mg.w6 (bx _) _).w6 (bx _) _)) | with_reducible exact bz.out _ (mg.trans (aQ.alloc _ _ _)) | with_reducible exact bz.out _ mg | with_reducible exact bz.out _ (kW.trans (aQ.alloc _ _ _)) | with_reducible exact bz.out _ kW | assumption | (trace_state; fail)) (first
        |(go_at_call 86;with_reducible refine (Kx S g p q n c lh ⟨jr,gg,ph,kq⟩ bf.out dc.drew ES).mono ?_;rintro e gR ⟨sI,bX,iL,lf,rfl,vw,nr⟩;have kW:=yI.out.trans (aQ.dI nr);have F9:=aU wW.out nr;have F':=vw.mono (fun k _ h=>zL.out k h);clear vw)
        |(go_at_call 86;with_reducible refine (Kx S g p q n c lh ⟨jr,gg,ph,kq⟩ bf.out (dc.alloc (gj 0 0)).drew Mt).mono ?_;rintro e gR ⟨sI,bX,iL,lf,rfl,vw,nr⟩;have kW:=kM.out.trans (aQ.dI nr);have F9:=aU wg.out nr;have F':=vw.mono (fun k _ h=>se.out k h);have Wb:=aU tZ.out nr;clear vw)
        |(go_at_call 87;with_reducible refine (MF.out (fun k=>S k∨dc.heap.size≤k) afP.out sI iL bX lf gR F' F9).mono ?_;intro e gH hJ;obtain⟨Ga,BD,yJ⟩:=BB.get hJ ve.out BC.out;subst Ga;have mg:=kW.trans yJ;try (have ns:=yJ.get Wa Wb;obtain⟨z0,z1⟩:=pg ns;have nR:=cR ns))
        |(go_at_call 87;with_reducible refine (MF.out (fun k=>S k∨dc.heap.size≤k) afP.out sI iL bX lf (gR.alloc (gj 0 0)) (F'.below (a' _ _)) (aU F9 (a' _ _))).mono ?_;intro e gH hJ;obtain⟨Ga,BD,yJ⟩:=BB.get hJ ve.out BC.out;subst Ga;have mg:=(kW.trans (aQ.alloc _ _ _)).trans yJ;have ns:=yJ.get (afE kW.size F8) (cd gR (gj 0 0));obtain⟨z0,z1⟩:=pg ns;have nR:=cR ns))
      all_goals
        first
          | (change Exit.then _ _ _ _ (gH.alloc (gj dV dW))
             have qq:=aq ((vv.out.step mg BD).below (a' gH (gj dV dW)));have kV:af ((gH.alloc (gj dV dW)).heap[gH.heap.size]?=some (gj dV dW)):=cd _ _;have Dv:af ((gH.alloc (gj dV dW)).heap[k5]?=some (gj lo hi)):=(mg.trans (aQ.alloc _ _ _)).get V' MD.out;have Gb:gH.heap.size≠k5:=(by have:=mg.size;omega);generalize gH.alloc (gj dV dW)=w8 at qq kV Dv⊢;obtain⟨MG,qT⟩:∃B,gH.heap.size=B:=⟨_,rfl⟩;rw[qT] at kV Gb⊢;clear qT)
          | (change Exit.then _ _ _ _ ((gH.setCell (aj gR.heap.size 0) (I dV)).setCell (aj gR.heap.size 1) (I dW))
             have atO:=kW.size;have qq:=aq (((vv.out.step mg BD).new (c:=gR.heap.size) (i:=0) (by have:=Du.out;omega) (I dV)).new (c:=gR.heap.size) (i:=1) (by have:=Du.out;omega) (I dW));have kV:af (((gH.setCell (aj gR.heap.size 0) (I dV)).setCell (aj gR.heap.size 1) (I dW)).heap[gR.heap.size]?=some (gj dV dW)):=oU [I dV,I dW] ns rfl;have Gb:gR.heap.size≠k5:=(by omega);have Dv:af (((gH.setCell (aj gR.heap.size 0) (I dV)).setCell (aj gR.heap.size 1) (I dW)).heap[k5]?=some (gj lo hi)):=(xJ (m:=0) (gJ Gb) [I dV,I dW]).trans (mg.get V' MD.out);generalize (gH.setCell (aj gR.heap.size 0) (I dV)).setCell (aj gR.heap.size 1) (I dW)=w8 at qq kV Dv⊢;clear atO z0 z1 nR ns;obtain⟨MG,qT⟩:∃B,gR.heap.size=B:=⟨_,rfl⟩;rw[qT] at kV Gb⊢;clear qT)
          | (change Exit.then _ _ _ _ ((gH.setCell (aj dc.heap.size 0) (I dV)).setCell (aj dc.heap.size 1) (I dW))
             have qq:=aq (((vv.out.step mg BD).new (c:=dc.heap.size) (i:=0) (by have:=Du.out;omega) (I dV)).new (c:=dc.heap.size) (i:=1) (by have:=Du.out;omega) (I dW));have kV:af (((gH.setCell (aj dc.heap.size 0) (I dV)).setCell (aj dc.heap.size 1) (I dW)).heap[dc.heap.size]?=some (gj dV dW)):=oU [I dV,I dW] ns rfl;have Gb:dc.heap.size≠k5:=(by omega);have Dv:af (((gH.setCell (aj dc.heap.size 0) (I dV)).setCell (aj dc.heap.size 1) (I dW)).heap[k5]?=some (gj lo hi)):=(xJ (m:=0) (gJ Gb) [I dV,I dW]).trans (mg.get V' MD.out);generalize (gH.setCell (aj dc.heap.size 0) (I dV)).setCell (aj dc.heap.size 1) (I dW)=w8 at qq kV Dv⊢;clear z0 z1 nR ns;obtain⟨MG,qT⟩:∃B,dc.heap.size=B:=⟨_,rfl⟩;rw[qT] at kV Gb⊢;clear qT)
      all_goals
        obtain⟨s0,s1⟩:=pg Dv.out;obtain⟨v0,v1⟩:=pg kV.out;obtain⟨u0,u1⟩:=pg qq.out.res;have fu:=cR qq.out.res;have ayE:=cR Dv.out;cases fW with
        |none=>
          obtain rfl:(6:Int)=pf:=BC.out;have c9:af (r=(none,m6)):=df.out.symm.trans (by rw[afN.out,XP zN.out,RQ]);go_wp2_with fail;rw[c9.out];exact I7 rfl qq.out 0 0 6 rfl rfl rfl rfl rfl
        |some js=>
          obtain rfl:(0:Int)=pf:=BC.out;obtain rfl:(dV,dW)=js:=ve.out.symm;obtain⟨aS,afQ,afR⟩:=Nw fA _ _ _ _ _ zN.out;rw[zg.out] at aS;obtain⟨y8,tx,p4⟩:=aS;have oY:ae (lo+dV)=lo+dV:=cX _ (by omega);have xL:ae (hi+dW)=hi+dW:=cX _ (by omega);have c9:af (([⟨aD,aC,x,y⟩,⟨x,aC,aG,y⟩,⟨aD,y,x,aE⟩,⟨x,y,aG,aE⟩].drop (j+1)).foldl (oM fA g) (some (lo+dV,hi+dW),m6)=r):=(by show _=_;rw[←df.out,afN.out,RR zN.out]);have atP:=aq ((qq.out.new (c:=k5) (i:=0) (by have:=Du.out;omega) (I (lo+dV))).new (c:=k5) (i:=1) (by have:=Du.out;omega) (I (hi+dW)));have atQ:af (((w8.setCell (aj k5 0) (I (lo+dV))).setCell (aj k5 1) (I (hi+dW))).heap[k5]?=some (gj (lo+dV) (hi+dW))):=oU [I (lo+dV),I (hi+dW)] Dv.out rfl;go_wp2_with fail;go_round<;>first|exact⟨j+1,lo+dV,hi+dW,m6,_,rfl,by omega,by go_num,by omega,by omega,by rw[show ((j+1:Nat):Int) *P=(j:Int) *P+P by push_cast;grind];omega,by omega,by omega,c9.out,atP.out,atQ.out⟩|(simp[intOf]<;>omega)
    ·
      obtain rfl:j=4:=(by omega);have c9:af (r=(some (lo,hi),m1)):=df.out.symm;obtain⟨s0,s1⟩:=pg afM.out;obtain⟨u0,u1⟩:=pg cC.out.res;have fu:=cR cC.out.res;go_wp2_with fail;rw[c9.out];exact I7 rfl cC.out lo hi 0 rfl rfl rfl rfl rfl
end c4
