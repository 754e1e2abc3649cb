/- Lemmas. -/
import Derived.Test.YtfldplmgkeiimaaGreatDoorR3
import Derived.Laws.Rows
set_option linter.all false
set_option maxRecDepth 100000
set_option maxHeartbeats 12800000
namespace Go.Proofs.YtfldplmgkeiimaaGreatDoor
abbrev jV:=@Int.mul_nonneg
abbrev FF:=@Nat.lt_succ_self
namespace dd
open Go.RowKit ef
theorem kX{B:Nat}{a w:aeo}(h:Below B a w)(n:Nat):Below B a (w.drewN n):=⟨h.os,h.tape,h.output,h.size,h.block⟩
variable{k f q:Nat}
theorem aU{w w':aeo}{o:Obj}(h:w.heap[k]?=some o)(ax:ao w w w'):w'.heap[k]?=some o:=(ax.block k (lt_of_heap h)).trans h
variable{p:b3}
theorem kr{w:aeo}(h:w.heap[k]?=some (eU p)):ak w k 0 (I p.1)∧ak w k 1 (I p.2):=by constructor<;>simp[World.cell?,h]
theorem bY(w:aeo)(o:Obj):(w.alloc o).heap[w.heap.size]?=some o:=fJ w o
theorem wP(w:aeo)(o:Obj):(w.alloc o).heap.size=w.heap.size+1:=by simp
theorem a6(w:aeo)(o:Obj):ao w w (w.alloc o):=(Below.refl _ _).alloc (bx _) _
theorem zv{w W:aeo}{dX c2 fq:Obj}(h:((w.alloc dX).alloc c2).alloc fq=W):W.heap[w.heap.size]?=some dX∧W.heap[w.heap.size+1]?=some c2∧W.heap[w.heap.size+1+1]?=some fq∧ao w w W∧W.heap.size=w.heap.size+3:=by subst h;have a7:=wP w dX;have bf:=wP (w.alloc dX) c2;have cM:=wP ((w.alloc dX).alloc c2) fq;have av:=bY w dX;have az:=bY (w.alloc dX) c2;have aC:=bY ((w.alloc dX).alloc c2) fq;rw[a7] at az bf;rw[bf] at aC cM;have cS:=a6 w dX;have bq:=a6 (w.alloc dX) c2;have fA:=a6 ((w.alloc dX).alloc c2) fq;exact⟨aU (aU av bq) fA,aU az fA,aC,(cS.trans (bq.mono (by omega))).trans (fA.mono (by omega)),cM⟩
theorem pt{a b:Int}(h:a=b):Ending.returned (I a)=ab (I b):=by rw[h]
def e1(x:Int):Prop:=-2305843009213693952≤x∧x≤2305843009213693952
theorem W9(v lo hi:Int)(h:e1 v∧e1 lo∧e1 hi)(g:Int)(aF:af (pr v lo hi=g))(w:aeo):
  Calls Tryz.prog 304 #[I v,I lo,I hi] w fun e w'=>e=ab (I g)∧w'=w:=by
 unfold e1 at h;have av:ae (lo-v)=lo-v:=cY _ (by omega);have az:ae (v-hi)=v-hi:=cY _ (by omega);clear h;go_enter Tryz.func304,Tryz.ntmps304;go_wp2_with fail
 all_goals
  go_ret;refine⟨pt ?_,rfl⟩;have:=aF.out
  grind [pr]
def pv(x:Int):Prop:=-2147483647≤x∧x≤2147483647
theorem Iw{x:Int}(h:pv x):0≤x *x∧x *x≤4611686014132420609:=by
 obtain⟨av,az⟩:=h;have aC:0≤(2147483647-x) *(2147483647+x):=jV (by omega) (by omega);have bt:(2147483647-x) *(2147483647+x)=4611686014132420609-x *x:=by grind
 have cr:0≤x *x:=by
  rcases Int.le_total 0 x with h|h
  ·exact jV h h
  ·have:=jV (a:=-x) (b:=-x) (by omega) (by omega)
   rwa [Int.neg_mul_neg] at this
 omega
abbrev h5(b:ck):Value:=.agg #[I b.aD,I b.aE,I b.aL,I b.aH]
abbrev cV(b:ck):Obj:=.cells #[I b.aD,I b.aE,I b.aL,I b.aH] 198
structure ck.In(b:ck):Prop where
 aD:e1 b.aD
 aE:e1 b.aE
 aL:e1 b.aL
 aH:e1 b.aH
theorem W'(aD aE aL aH de cZ:Int)(ax:ck.In ⟨aD,aE,aL,aH⟩)(hp:e1 de∧e1 cZ)(kY kZ:Int)(hx:af (pr de aD aL=kY))(hy:af (pr cZ aE aH=kZ))(Xa:pv kY)(Q3:pv kZ)(d:Int)(hd:af (kY *kY+kZ *kZ=d))(w:aeo):
  Calls Tryz.prog 260 #[.agg #[I aD,I aE,I aL,I aH],.agg #[I de,I cZ]] w fun e w'=>e=ab (I d)∧ao w w w':=by
 have H1:=aq ax;have dp:=aq hp;have av:=Iw Xa;have az:=Iw Q3;have cc:ae (kY *kY)=kY *kY:=cY _ (by omega);have b9:ae (kZ *kZ)=kZ *kZ:=cY _ (by omega);have dP:ae (kY *kY+kZ *kZ)=d:=by rw[←hd.out];exact cY _ (by omega)
 have Q4:=aq (W9 de aD aL ⟨hp.1,ax.aD,ax.aL⟩ kY hx);have Q5:=aq (W9 cZ aE aH ⟨hp.2,ax.aE,ax.aH⟩ kZ hy);clear av az Xa Q3 ax hp H1 dp;go_enter Tryz.func260,Tryz.ntmps260;go_upto_region 1 with fail
 go_quiet (first
  |(go_at_call 304;with_reducible exact q9 (Q4.out _))
  |(go_at_call 304;with_reducible exact q9 (Q5.out _))
  |fail)
 go_wp2_with fail;go_ret;exact⟨rfl,kX (((Below.refl _ _).alloc (bx _) _).alloc (by simp) _) _⟩
theorem Xb(v q:Int):pr v q q *pr v q q=(v-q) *(v-q)∧(pv (v-q)→pv (pr v q q)):=by
 unfold pr pv;by_cases av:v<q
 ·rw[bb av];exact⟨by grind,by omega⟩
 ·rw[aW av];by_cases az:q<v
  ·rw[bb az];exact⟨rfl,id⟩
  ·rw[aW az];obtain rfl:v=q:=(by omega);simp
theorem Xc(p q:b3)(hp:e1 p.1∧e1 p.2)(aR:e1 q.1∧e1 q.2)(f1:pv (p.1-q.1))(f2:pv (p.2-q.2))(d:Int)(hd:af (pR p q=d))(w:aeo):
  Calls Tryz.prog 227 #[lG p,lG q] w fun e w'=>e=ab (I d)∧ao w w w':=by
 obtain⟨de,cZ⟩:=p;obtain⟨eV,eW⟩:=q;obtain⟨kY,hx⟩:=ar (pr de eV eV);obtain⟨kZ,hy⟩:=ar (pr cZ eW eW);have bO:=Xb de eV;have ba:=Xb cZ eW;rw[hx] at bO;rw[hy] at ba;have cF:af (kY *kY+kZ *kZ=d):=by show _=_;rw[bO.1,ba.1,←hd.out];rfl
 have G:=aq (W' eV eW eV eW de cZ ⟨aR.1,aR.2,aR.1,aR.2⟩ hp kY kZ hx hy (bO.2 f1) (ba.2 f2) d cF);clear bO ba f1 f2 hp aR hx hy cF hd;go_enter Tryz.func227,Tryz.ntmps227;go_wp2_with fail;with_reducible refine (G.out _).mono ?_
 rintro e w' ⟨rfl,ax⟩;have aI:af (ao w w w'):=(((Below.refl _ _).alloc (bx _) _).alloc (by simp) _).trans (ax.mono (by simp<;>omega));clear ax;go_wp2_with fail;go_ret;exact⟨rfl,aI.out⟩
theorem agZ(c a e:b3)(hc:e1 c.1∧e1 c.2)(ha:e1 a.1∧e1 a.2)(he:e1 e.1∧e1 e.2)(f1:pv (a.1-c.1))(f2:pv (a.2-c.2))(f3:pv (e.1-c.1))(f4:pv (e.2-c.2))(b:Bool)(ax:af (Io c a e=b))(w:aeo):
  Calls Tryz.prog 187 #[lG c,lG a,lG e] w fun r w'=>r=ab (U b)∧ao w w w':=by
 obtain⟨d1,ih⟩:=ar (pR a c);obtain⟨d2,gD⟩:=ar (pR e c);have Q4:=aq (Xc a c ha hc f1 f2 d1 ih);have Q5:=aq (Xc e c he hc f3 f4 d2 gD);have aI:af ((decide (d1≠0)&&decide (d1=d2))=b):=by show _=_;rw[←ax.out];unfold Io;rw[ih,gD]
 obtain⟨cx,bu⟩:=c;obtain⟨a1,aZ⟩:=a;obtain⟨ex,bL⟩:=e;clear hc ha he f1 f2 f3 f4 ax ih gD;go_enter Tryz.func187,Tryz.ntmps187;go_upto_region 1 with fail;obtain⟨W,bo⟩:=ar (((w.alloc (eU (cx,bu))).alloc (eU (a1,aZ))).alloc (eU (ex,bL)));obtain⟨av,az,aC,C5,iF⟩:=zv bo;have bl:=aq aC;have bC:=aq av;have Xd:=aq C5;obtain⟨aN,aJ⟩:=kr av;obtain⟨bA,a2⟩:=kr az;simp only[eU] at bo;rw[bo];clear av az aC C5 bo iF;go_wp2_with fail;with_reducible refine (Q4.out _).mono ?_
 rintro r cc ⟨rfl,er⟩;have cC:af (ao w w cc):=Xd.out.trans (er.mono Xd.out.size);have a7:=kr (aU bl.out er);have bf:=kr (aU bC.out er);obtain⟨fh,dI⟩:=a7;obtain⟨b1,cw⟩:=bf;clear aN aJ bA a2 er;by_cases aS:d1=0
 ·have aO:af (false=b):=(by show _=_;rw[←aI.out,ey (by simp[aS])];rfl);have ag0:(d1 !=0)=false:=(by rw[aS];rfl);go_wp2_with fail;go_ret;exact⟨dD aO.out,cC.out⟩
 ·have ag0:(d1 !=0)=true:=(by simp[aS]);go_wp2_with fail;with_reducible refine (Q5.out _).mono ?_
  rintro r b9 ⟨rfl,dc⟩;have c6:af (ao w w b9):=cC.out.trans (dc.mono cC.out.size);clear dc;go_wp2_with fail;go_ret;refine⟨dD ?_,c6.out⟩;rw[←aI.out,eL aS,H0]
  grind
abbrev tE:TypeId:=3
def kD(b:dm)(s:bk)(f:Nat)(left:Int):Option Int:=ji (.cons true b s .nil) f left
theorem FG(a:Bool)(b:dm)(s r:bk)(f:Nat)(left:Int):ji (.cons a b s r) f left=
 if left<1∨pQ b s.len=false then none
 else if b.k=6 then (if 8≤f then none else match ji s (f+1) (left-1) with
  |none=>none
  |some m=>ji r f m)
 else if iG b=true then ji r f (left-1) else none:=by rw[ji]<;>rfl
variable{b:dm}{s:bk}{left:Int}
theorem Q6(h:left<1∨pQ b s.len=false):kD b s f left=none:=by unfold kD;rw[FG,bb h]
theorem C6(h:¬left<1)(ax:pQ b s.len=true)(ay:b.k≠6){v:Bool}(aY:iG b=v):kD b s f left=if v=true then some (left-1) else none:=by unfold kD;rw[FG,aW (by rw[ax];simp[h]),aW ay,aY];rfl
theorem Xe(h:¬left<1)(ax:pQ b s.len=true)(ay:b.k=6):kD b s f left=if 8≤f then none else ji s (f+1) (left-1):=by
 unfold kD;rw[FG,aW (by rw[ax];simp[h]),bb ay];by_cases eS:8≤f
 ·rw[bb eS,bb eS]
 ·rw[aW eS,aW eS];cases h:ji s (f+1) (left-1)<;>rfl
theorem FH{a:Bool}{r:bk}:ji (.cons a b s r) f left=(kD b s f left).bind (fun m=>ji r f m):=by
 unfold kD;rw[FG,FG];split
 ·rfl
 ·split
  ·split
   ·rfl
   ·cases ji s (f+1) (left-1)<;>rfl
  ·split<;>rfl
variable{t:aai}
theorem eA{w:aeo}{v0 v1 v2 v3 v4 v5 v6 cj cD v9:ada}(h:an w k (#[v0,v1,v2,v3,v4,v5,v6,cj,cD,v9]) t):
  ak w k 0 v0∧ak w k 1 v1∧ak w k 2 v2∧ak w k 3 v3∧ak w k 4 v4∧ak w k 5 v5∧ak w k 6 v6∧ak w k 7 cj∧ak w k 8 cD∧ak w k 9 v9:=by
 refine⟨?_,?_,?_,?_,?_,?_,?_,?_,?_,?_⟩<;>simp[World.cell?,h]
theorem ag1{w:aeo}{n:Int}(h:an w k (#[I n]) tE):ak w k 0 (I n)∧w.frozen? ⟨k,0,none⟩=false:=by
 constructor
 ·simp[World.cell?,h]
 ·simp[World.frozen?,h]
theorem ag2{w:aeo}{n:Int}(m:Int)(h:an w k (#[I n]) tE):(w.setCell (aj k 0) (I m)).heap[k]?=some (.cells #[I m] tE):=by show (Array.modify _ _ _)[k]?=_;rw[zj,bb rfl,h];rfl
theorem tF(h:gF p=true):(-536870912≤p.1∧p.1≤536870912)∧-536870912≤p.2∧p.2≤536870912:=by simp only[gF,jh,jR] at h;omega
theorem Q7(h:(-536870912≤p.1∧p.1≤536870912)∧-536870912≤p.2∧p.2≤536870912):e1 p.1∧e1 p.2:=by unfold e1;omega
theorem Xf{q:b3}(h:(-536870912≤p.1∧p.1≤536870912)∧-536870912≤p.2∧p.2≤536870912)(g:(-536870912≤q.1∧q.1≤536870912)∧-536870912≤q.2∧q.2≤536870912):pv (p.1-q.1):=by unfold pv;omega
theorem Xg{q:b3}(h:(-536870912≤p.1∧p.1≤536870912)∧-536870912≤p.2∧p.2≤536870912)(g:(-536870912≤q.1∧q.1≤536870912)∧-536870912≤q.2∧q.2≤536870912):pv (p.2-q.2):=by unfold pv;omega
theorem ag3:∀(p:bk) {f:Nat} {n k:Int},0≤n→ji p f n=some k→0≤k:=by
 intro p
 induction p with
 |nil=>intro f n k hn ay;simp only[ji,n7] at ay;omega
 |cons a b s r QW Ip=>
  intro f n k hn ay;rw[FG] at ay;split at ay
  ·cases ay
  ·rename_i aS;split at ay
   ·split at ay
    ·cases ay
    ·split at ay
     ·cases ay
     ·rename_i j cd;exact Ip (QW (by omega) cd) ay
   ·split at ay
    ·exact Ip (by omega) ay
    ·cases ay
theorem ds.drop{S:afp}{w:aeo}{r:bk}:∀{p:bk} {xs:aev},ds S w (p.append r) xs→ds S w r (xs.drop (p.len *11))
 |.nil,xs,h=>h
 |.cons a b s t,xs,h=>by
  have az:=ds.drop (p:=t) (r:=r) (xs:=xs.drop 11) h.2;rw[si] at az
  rwa [show (bk.cons a b s t).len *11=11+t.len *11 by simp only[bk.len];omega]
theorem ij.part{S:afp}{w:aeo}{p:Ja}{pre:bk}{a:Bool}{r:bk}{n:Nat}(h:ij S w p (pre.append (.cons a b s r)))(hn:pre.len=n):
  ∃(k o:Nat) (pl:Ja) (cl:Nat) (pp:Ja) (cp:Nat),p=some ⟨k,o,none⟩∧k<w.heap.size∧S k∧dE S w pl cl pp cp ⟨b,s⟩∧
   ak w k (o+n *11) (U a)∧ak w k (o+n *11+1) (I b.k)∧ak w k (o+n *11+2) (I b.a.1)∧ak w k (o+n *11+3) (I b.a.2)∧ak w k (o+n *11+4) (I b.b.1)∧ak w k (o+n *11+5) (I b.b.2)∧ak w k (o+n *11+6) (I b.c.1)∧ak w k (o+n *11+7) (I b.c.2)∧ak w k (o+n *11+8) (I b.r)∧ak w k (o+n *11+9) (ad pl b.l.length cl)∧ak w k (o+n *11+10) (ad pp s.len cp):=by
 subst hn;obtain⟨k,o,cs,rfl,hS,aK,hp⟩:=h.2 (by rw[bk.tB];simp only[bk.len];omega);have az:=hp.drop;rw[si] at az;obtain⟨pl,cl,pp,cp,aC,hs⟩:=az.head;obtain⟨aQ,aN,aJ,c3,bF,c5,bZ,b',bU,bg,cH⟩:=W3 aC;refine⟨k,o,pl,cl,pp,cp,rfl,lt_of_heap aK,hS,hs,?_,?_,?_,?_,?_,?_,?_,?_,?_,?_,?_⟩<;>simp only[World.cell?, *]<;>rfl
def C7(q:Nat)(w:aeo)(o:Option Int)(e:Ending)(w':aeo):Prop:=e=ab (U o.isSome)∧aP (fun k=>k≠q) w w'∧∀m,o=some m→an w' q (#[I m]) tE
variable{o:Option Int}
theorem C7.no{w w':aeo}(h:o=none)(ay:aP (fun k=>k≠q) w w'):C7 q w o (ab (U false)) w':=by subst h;exact⟨rfl,ay,fun m hm=>by cases hm⟩
theorem C7.yes{w w':aeo}{m:Int}(h:o=some m)(ay:aP (fun k=>k≠q) w w')(aR:an w' q (#[I m]) tE):C7 q w o (ab (U true)) w':=by subst h;exact⟨rfl,ay,fun n hn=>by cases hn;exact aR⟩
theorem C7.is{w w':aeo}{m:Int}{v:Bool}(h:o=if v=true then some m else none)(ay:aP (fun k=>k≠q) w w')(aR:an w' q (#[I m]) tE):C7 q w o (ab (U v)) w':=by
 cases v
 ·exact .no h ay
 ·exact .yes h ay aR
theorem ag4(N:Nat):∀(s:bk),s.count<N→∀(b:dm) (f:Nat) (left:Int) (S:afp) (pl:Ja) (cl:Nat) (pp:Ja) (cp:Nat) (w:aeo) (q:Nat) (o:Option Int),
  af (∀k,S k→k≠q)→f≤8→-1000000≤left→left≤1000000→af (an w q (#[I left]) tE)→af (dE S w pl cl pp cp ⟨b,s⟩)→af (kD b s f left=o)→
  Calls Tryz.prog 212 #[jU b (ad pl b.l.length cl) (ad pp s.len cp),I f,ah q 0] w (C7 q w o):=by
 induction N with
 |zero=>intro s hs;exact absurd hs (my _)
 |succ N cO=>
 intro s hs b f left S pl cl pp cp w q o Q8 hf Ir qk aR el bm;obtain⟨k,⟨a1,aZ⟩,⟨a8,bh⟩,⟨cx,bu⟩,r,l⟩:=b;have wQ:=aq cO;have db:=aq hs;clear cO hs;obtain⟨fS,b1⟩:=ag1 aR.out;have bR:=lt_of_heap aR.out;have Q9:=aq bR;show Calls _ _ #[.agg #[I k,I a1,I aZ,I a8,I bh,I cx,I bu,I r,ad pl l.length cl,ad pp s.len cp],I f,ah q 0] w _;by_cases hle:left<1
 ·have bd:af (o=none):=(by show _=_;rw[←bm.out];exact Q6 (.inl hle));clear bm;go_enter Tryz.func212,Tryz.ntmps212;go_wp2_with fail;go_ret;exact .no bd.out (.alloc _ _ _)
 ·have W4:1≤left:=(by omega);have yk:=aq W4;have hw:ae (left-1)=left-1:=cY _ (by omega);go_enter Tryz.func212,Tryz.ntmps212;go_upto_region 4 with fail;obtain⟨W,bo⟩:=ar ((w.setCell (aj q 0) (I (left-1))).alloc (ai (#[I k,I a1,I aZ,I a8,I bh,I cx,I bu,I r,ad pl l.length cl,ad pp s.len cp]) dB))
  have e0:af (an W w.heap.size (#[I k,I a1,I aZ,I a8,I bh,I cx,I bu,I r,ad pl l.length cl,ad pp s.len cp]) dB):=by
   show _=_;rw[←bo];have h:=bY (w.setCell (aj q 0) (I (left-1))) (ai (#[I k,I a1,I aZ,I a8,I bh,I cx,I bu,I r,ad pl l.length cl,ad pp s.len cp]) dB)
   rwa [show (w.setCell (aj q 0) (I (left-1))).heap.size=w.heap.size by simp] at h
  have a':af (an W q (#[I (left-1)]) tE):=(by show _=_;rw[←bo];exact aU (ag2 _ aR.out) (a6 _ _));have cQ:af (aP (fun k=>k≠q) w W):=(by show aP _ _ _;rw[←bo];exact (aP.set (fun h=>h rfl) _).trans (.alloc _ _ _));rw[bo];clear bo fS b1 bR;obtain⟨g0,g1,g2,g3,g4,g5,g6,g7,g8,g9⟩:=eA e0.out;go_wp2_with fail;go_fit (agO k a1 aZ a8 bh cx bu r pl pp l.length s.len cl cp W);rintro e cc ⟨rfl,er⟩;have MO:=aq (aU e0.out er);have wR:=aq (aU a'.out er);have l3:=aq (cQ.out.trans (.dW er));obtain⟨fz,lW⟩:=ar (MJ k (a1,aZ) (a8,bh) (cx,bu) r l.length s.len);rw[lW];have e7:af (pQ ⟨k,(a1,aZ),(a8,bh),(cx,bu),r,l⟩ s.len=fz):=lW;clear g0 g1 g2 g3 g4 g5 g6 g7 g8 g9 e0 a' cQ er lW;obtain⟨g0,g1,g2,g3,g4,g5,g6,g7,g8,g9⟩:=eA MO.out;have MP:=lt_of_heap MO.out;cases fz with
  |false=>
   have bd:af (o=none):=(by show _=_;rw[←bm.out];exact Q6 (.inr e7.out));clear bm;go_wp2_with fail;go_ret;exact .no bd.out l3.out
  |true=>
   by_cases ej:k=1
   ·subst ej;have b6:af (o=if iG (⟨1,(a1,aZ),(a8,bh),(cx,bu),r,l⟩:dm)=true then some (left-1) else none):=(by show _=_;rw[←bm.out];exact C6 (Int.not_lt.2 yk.out) e7.out (show (1:Int)≠6 by decide) rfl);clear bm;go_wp2_with fail;refine (zr (a1,aZ) _).mono ?_;rintro e b9 ⟨rfl,rfl⟩;obtain⟨f0,l4⟩:=ar (gF (a1,aZ));rw[l4];have pw:=aq l4;clear l4;cases f0 with
    |false=>
     have bd:af (o=none):=(by show _=_;rw[b6.out];simp[iG,pw.out]);clear b6;go_wp2_with fail;go_ret;exact .no bd.out (l3.out.trans (.alloc _ _ _))
    |true=>
     go_wp2_with fail;refine (MK r _).mono ?_;rintro e dP ⟨rfl,rfl⟩;obtain⟨f1,nK⟩:=ar (wN r);rw[nK];have l5:=aq nK;clear nK;have bd:af (o=if f1=true then some (left-1) else none):=(by show _=_;rw[b6.out];simp[iG,pw.out,l5.out]);clear b6;go_wp2_with fail;go_ret;exact .is bd.out (l3.out.trans (.alloc _ _ _)) (aU wR.out (a6 _ _))
   by_cases fs:k=2
   ·subst fs;have b6:af (o=if iG (⟨2,(a1,aZ),(a8,bh),(cx,bu),r,l⟩:dm)=true then some (left-1) else none):=(by show _=_;rw[←bm.out];exact C6 (Int.not_lt.2 yk.out) e7.out (show (2:Int)≠6 by decide) rfl);clear bm;have dn:af (iB S cc pl l):=el.out.l.keep (l3.out.mono fun k _ h=>Q8.out k h);go_wp2_with fail;refine (agR S pl l l.length cl rfl cc dn (C2 l) (aq rfl)).mono ?_;rintro e b9 ⟨rfl,dc⟩;have kq:=aq (l3.out.trans (.dW dc));have Q':=aq (aU wR.out dc);clear dc;go_wp2_with fail;go_ret;exact .is b6.out kq.out Q'.out
   by_cases l6:k=3
   ·subst l6;have b6:af (o=if iG (⟨3,(a1,aZ),(a8,bh),(cx,bu),r,l⟩:dm)=true then some (left-1) else none):=(by show _=_;rw[←bm.out];exact C6 (Int.not_lt.2 yk.out) e7.out (show (3:Int)≠6 by decide) rfl);clear bm;go_wp2_with fail;refine (zr (a1,aZ) _).mono ?_;rintro e b9 ⟨rfl,rfl⟩;obtain⟨f0,l4⟩:=ar (gF (a1,aZ));rw[l4];have pw:=aq l4;clear l4;cases f0 with
    |false=>
     have bd:af (o=none):=(by show _=_;rw[b6.out];simp[iG,pw.out]);clear b6;go_wp2_with fail;go_ret;exact .no bd.out (l3.out.trans (.alloc _ _ _))
    |true=>
     go_wp2_with fail;refine (zr (a8,bh) _).mono ?_;rintro e dP ⟨rfl,rfl⟩;obtain⟨f1,nK⟩:=ar (gF (a8,bh));rw[nK];have l5:=aq nK;clear nK;cases f1 with
     |false=>
      have bd:af (o=none):=(by show _=_;rw[b6.out];simp[iG,pw.out,l5.out]);clear b6;go_wp2_with fail;go_ret;exact .no bd.out ((l3.out.trans (.alloc _ _ _)).trans (.alloc _ _ _))
     |true=>
      go_wp2_with fail;refine (MK r _).mono ?_;rintro e cW ⟨rfl,rfl⟩;obtain⟨f2,tG⟩:=ar (wN r);rw[tG];have fT:=aq tG;clear tG;have bd:af (o=if f2=true then some (left-1) else none):=(by show _=_;rw[b6.out];simp[iG,pw.out,l5.out,fT.out]);clear b6;go_wp2_with fail;go_ret;exact .is bd.out ((l3.out.trans (.alloc _ _ _)).trans (.alloc _ _ _)) (aU (aU wR.out (a6 _ _)) (a6 _ _))
   by_cases yl:k=4
   ·subst yl;have b6:af (o=if iG (⟨4,(a1,aZ),(a8,bh),(cx,bu),r,l⟩:dm)=true then some (left-1) else none):=(by show _=_;rw[←bm.out];exact C6 (Int.not_lt.2 yk.out) e7.out (show (4:Int)≠6 by decide) rfl);clear bm;go_wp2_with fail;refine (zr (a1,aZ) _).mono ?_;rintro e b9 ⟨rfl,rfl⟩;obtain⟨f0,l4⟩:=ar (gF (a1,aZ));rw[l4];have pw:=aq l4;clear l4;cases f0 with
    |false=>
     have bd:af (o=none):=(by show _=_;rw[b6.out];simp[iG,pw.out]);clear b6;go_wp2_with fail;go_ret;exact .no bd.out (l3.out.trans (.alloc _ _ _))
    |true=>
     go_wp2_with fail;refine (zr (a8,bh) _).mono ?_;rintro e dP ⟨rfl,rfl⟩;obtain⟨f1,nK⟩:=ar (gF (a8,bh));rw[nK];have l5:=aq nK;clear nK;cases f1 with
     |false=>
      have bd:af (o=none):=(by show _=_;rw[b6.out];simp[iG,pw.out,l5.out]);clear b6;go_wp2_with fail;go_ret;exact .no bd.out ((l3.out.trans (.alloc _ _ _)).trans (.alloc _ _ _))
     |true=>
      go_wp2_with fail;refine (MK r _).mono ?_;rintro e cW ⟨rfl,rfl⟩;obtain⟨f2,tG⟩:=ar (wN r);rw[tG];have fT:=aq tG;clear tG;cases f2 with
      |false=>
       have bd:af (o=none):=(by show _=_;rw[b6.out];simp[iG,pw.out,l5.out,fT.out]);clear b6;go_wp2_with fail;go_ret;exact .no bd.out ((l3.out.trans (.alloc _ _ _)).trans (.alloc _ _ _))
      |true=>
       obtain⟨f3,FI⟩:∃x:Bool,decide ((a1,aZ)≠(a8,bh))=x:=⟨_,rfl⟩;have tH:=aq FI;clear FI;have bd:af (o=if f3=true then some (left-1) else none):=(by show _=_;rw[b6.out,←tH.out];simp[iG,pw.out,l5.out,fT.out]);clear b6;go_wp2_with fail
       all_goals
        go_ret;refine .is (by rw[bd.out,←tH.out];grind) ((l3.out.trans (.alloc _ _ _)).trans (.alloc _ _ _)) (aU (aU wR.out (a6 _ _)) (a6 _ _))
   by_cases Xh:k=5
   ·subst Xh;have b6:af (o=if iG (⟨5,(a1,aZ),(a8,bh),(cx,bu),r,l⟩:dm)=true then some (left-1) else none):=(by show _=_;rw[←bm.out];exact C6 (Int.not_lt.2 yk.out) e7.out (show (5:Int)≠6 by decide) rfl);clear bm;go_wp2_with fail;refine (zr (a1,aZ) _).mono ?_;rintro e b9 ⟨rfl,rfl⟩;obtain⟨f0,l4⟩:=ar (gF (a1,aZ));rw[l4];have pw:=aq l4;clear l4;cases f0 with
    |false=>
     have bd:af (o=none):=(by show _=_;rw[b6.out];simp[iG,pw.out]);clear b6;go_wp2_with fail;go_ret;exact .no bd.out (l3.out.trans (.alloc _ _ _))
    |true=>
     go_wp2_with fail;refine (zr (a8,bh) _).mono ?_;rintro e dP ⟨rfl,rfl⟩;obtain⟨f1,nK⟩:=ar (gF (a8,bh));rw[nK];have l5:=aq nK;clear nK;cases f1 with
     |false=>
      have bd:af (o=none):=(by show _=_;rw[b6.out];simp[iG,pw.out,l5.out]);clear b6;go_wp2_with fail;go_ret;exact .no bd.out ((l3.out.trans (.alloc _ _ _)).trans (.alloc _ _ _))
     |true=>
      go_wp2_with fail;refine (zr (cx,bu) _).mono ?_;rintro e cW ⟨rfl,rfl⟩;obtain⟨f2,tG⟩:=ar (gF (cx,bu));rw[tG];have qq:af (aP (fun k=>k≠q) w (((cc.alloc (eU (a1,aZ))).alloc (eU (a8,bh))).alloc (eU (cx,bu)))):=(((l3.out.trans (.alloc _ _ _)).trans (.alloc _ _ _)).trans (.alloc _ _ _));have Xi:af ((((cc.alloc (eU (a1,aZ))).alloc (eU (a8,bh))).alloc (eU (cx,bu))).heap[q]?=some (.cells #[I (left-1)] tE)):=(aU (aU (aU wR.out (a6 _ _)) (a6 _ _)) (a6 _ _));have Ix:af ((((cc.alloc (eU (a1,aZ))).alloc (eU (a8,bh))).alloc (eU (cx,bu))).heap[w.heap.size]?=some (.cells #[I 5,I a1,I aZ,I a8,I bh,I cx,I bu,I r,ad pl l.length cl,ad pp s.len cp] dB)):=aU (aU (aU MO.out (a6 _ _)) (a6 _ _)) (a6 _ _);clear g0 g1 g2 g3 g4 g5 g6 g7 g8 g9 MP MO wR l3;generalize ((cc.alloc (eU (a1,aZ))).alloc (eU (a8,bh))).alloc (eU (cx,bu))=Bf at qq Xi Ix⊢;obtain⟨g0,g1,g2,g3,g4,g5,g6,g7,g8,g9⟩:=eA Ix.out;have MP:=lt_of_heap Ix.out;have fT:=aq tG;clear tG;cases f2 with
      |false=>
       have bd:af (o=none):=(by show _=_;rw[b6.out];simp[iG,pw.out,l5.out,fT.out]);clear b6;go_wp2_with fail;go_ret;exact .no bd.out qq.out
      |true=>
       go_wp2_with fail;refine (MK r _).mono ?_;rintro e bI ⟨rfl,rfl⟩;obtain⟨f3,FI⟩:=ar (wN r);rw[FI];have tH:=aq FI;clear FI;cases f3 with
       |false=>
        have bd:af (o=none):=(by show _=_;rw[b6.out];simp[iG,pw.out,l5.out,fT.out,tH.out]);clear b6;go_wp2_with fail;go_ret;exact .no bd.out qq.out
       |true=>
        go_wp2_with fail;obtain⟨f4,Ra⟩:=ar (Io (cx,bu) (a1,aZ) (a8,bh));have l0:=tF pw.out;have k0:=tF l5.out;have h1:=tF fT.out;refine (agZ (cx,bu) (a1,aZ) (a8,bh) (Q7 h1) (Q7 l0) (Q7 k0) (Xf l0 h1) (Xg l0 h1) (Xf k0 h1) (Xg k0 h1) f4 (aq Ra) _).mono ?_;rintro e cN ⟨rfl,dF⟩;have kq:=aq (qq.out.trans (.dW dF));have Q':=aq (aU Xi.out dF);clear dF l0 k0 h1;have Iy:=aq Ra;clear Ra;have bd:af (o=if f4=true then some (left-1) else none):=(by show _=_;rw[b6.out];simp[iG,pw.out,l5.out,fT.out,tH.out,Iy.out]);clear b6;go_wp2_with fail;go_ret;exact .is bd.out kq.out Q'.out
   by_cases jt:k=6
   ·subst jt;have b6:af ((if 8≤f then none else ji s (f+1) (left-1))=o):=(by show _=_;rw[←bm.out];exact (Xe (Int.not_lt.2 yk.out) e7.out rfl).symm);clear bm;by_cases eS:8≤f
    ·have bd:af (o=none):=(by show _=_;rw[←b6.out,bb eS]);have Xj:(8:Int)≤(f:Int):=(by omega);clear b6;go_wp2_with fail;go_ret;exact .no bd.out l3.out
    ·have oV:af (ji s (f+1) (left-1)=o):=(by show _=_;rw[←b6.out,aW eS]);have Xj:(f:Int)<8:=(by omega);have nK:ae ((f:Int)+1)=((f+1:Nat):Int):=(by rw[cY _ (by omega)];omega);have l5:=aq nK;have k1:=aq (show s.len≤1000000000 from el.out.p.1);have mG:=k1.out;obtain⟨n,hn⟩:=ar s.len;have qs:=aq hn;rw[hn] at mG g9⊢;clear b6 hn nK;go_wp2_with fail
     go_loopw [111] (fun i wr=>∃(pre hP:bk) (m:Int) (j:Nat) (aM:aeo),aM=wr∧af (s=pre.append hP)∧af (pre.len=j)∧i=I j∧af (ji hP (f+1) m=o)∧0≤m∧m≤1000000∧af (an aM q (#[I m]) tE)∧af (aP (fun k=>k≠q) w aM)) (fun i _=>n -(intOf i).toNat)
     case atStart=>exact⟨.nil,s,left-1,0,_,rfl,rfl,rfl,rfl,oV.out,by omega,by omega,wR.out,l3.out⟩
     case round=>
     obtain⟨pre,hP,m,j,aM,rfl,iI,cG,rfl,b0,sk,mX,MQ,Iz⟩:=hrel;cases hP with
     |nil=>
      have mC:j=n:=(by rw[←qs.out,←cG.out,iI.out,bk.append_nil]);have bd:af (o=some m):=b0.out.symm;subst mC;go_wp2_with fail;go_ret;exact .yes bd.out Iz.out MQ.out
     |cons a bc sub fK=>
      have lX:j<n:=(by rw[←qs.out,←cG.out,iI.out,bk.tB];simp only[bk.len];omega);have MR:(j:Int)<(n:Int):=(by omega);have i1:ij S aM pp (pre.append (.cons a bc sub fK)):=(by rw[←iI.out];exact el.out.p.keep (Iz.out.mono fun k _ h=>Q8.out k h));obtain⟨ht,lg,ql,dl,qp,cX,rfl,qt,_,oS,aQ,aN,aJ,c3,bF,c5,bZ,b',bU,bg,cH⟩:=i1.part cG.out;have uX:=aq oS;have nK:=l5.out;clear i1 oS;go_wp2_with fail;obtain⟨dX,jk⟩:=ar (kD bc sub (f+1) m);have wS:=aq jk;have lh:af (dX.bind (fun dj=>ji fK (f+1) dj)=o):=(by show _=_;rw[←b0.out,FH,jk]);have hv:sub.count<N:=(by have av:=db.out;rw[iI.out,bk.count_append] at av;simp only[bk.count] at av;omega);have wT:af (s=(pre.append (.cons a bc sub .nil)).append fK):=(by show _=_;rw[iI.out,bk.append_assoc];rfl);have hM:af ((pre.append (.cons a bc sub .nil)).len=j+1):=(by show _=_;rw[bk.tB,cG.out];rfl);refine (wQ.out sub hv bc (f+1) m S ql dl qp cX _ q dX Q8 (by omega) (by omega) mX (aU MQ.out (a6 _ _)) (uX.out.below (a6 _ _)) wS).mono ?_;rintro e dP ⟨rfl,l6,Xk⟩;have re:=aq ((Iz.out.trans (.alloc _ _ _)).trans l6);have ag5:=aq Xk;clear l6 Xk;cases dX with
      |none=>
       have bd:af (o=none):=lh.out.symm;clear lh jk;go_wp2_with fail;go_ret;exact .no bd.out re.out
      |some dj=>
       have oW:af (ji fK (f+1) dj=o):=lh.out;have IA:0≤dj:=ag3 _ sk (show ji (.cons true bc sub .nil) (f+1) m=some dj from jk);have avN:dj≤m:=(agN (show ji (.cons true bc sub .nil) (f+1) m=some dj from jk)).1;clear lh jk;go_wp2_with fail;go_round<;>first|exact⟨_,fK,dj,j+1,_,rfl,wT.out,hM.out,by go_num,oW.out,IA,by omega,ag5.out _ rfl,re.out⟩|(simp[intOf]<;>omega)
   ·have bd:af (o=none):=(by show _=_;rw[←bm.out,C6 (Int.not_lt.2 yk.out) e7.out (show k≠6 from jt) (v:=false) (by simp[iG,ej,fs,l6,yl,Xh])];rfl);clear bm;go_wp2_with fail;go_ret;exact .no bd.out l3.out
theorem IB(S:afp)(b:dm)(s:bk)(pl:Ja)(cl:Nat)(pp:Ja)(cp:Nat)(w:aeo)(el:af (dE S w pl cl pp cp ⟨b,s⟩))(v:Bool)(aY:af (okV ⟨b,s⟩=v)):
  Calls Tryz.prog 169 #[jU b (ad pl b.l.length cl) (ad pp s.len cp)] w fun e w'=>e=ab (U v)∧ao w w w':=by
 obtain⟨k,⟨a1,aZ⟩,⟨a8,bh⟩,⟨cx,bu⟩,r,l⟩:=b;show Calls _ _ #[.agg #[I k,I a1,I aZ,I a8,I bh,I cx,I bu,I r,ad pl l.length cl,ad pp s.len cp]] w _;go_enter Tryz.func169,Tryz.ntmps169;go_wp2_with fail;obtain⟨W,bo⟩:=ar ((w.alloc (ai (#[I k,I a1,I aZ,I a8,I bh,I cx,I bu,I r,ad pl l.length cl,ad pp s.len cp]) dB)).alloc (ai (#[I 1000]) tE))
 have a':af (an W (w.heap.size+1) (#[I 1000]) tE):=by
  show _=_;rw[←bo];have h:=bY (w.alloc (ai (#[I k,I a1,I aZ,I a8,I bh,I cx,I bu,I r,ad pl l.length cl,ad pp s.len cp]) dB)) (ai (#[I 1000]) tE)
  rwa [wP] at h
 have aI:af (ao w w W):=by show Below _ _ _;rw[←bo];exact (a6 _ _).trans ((a6 _ _).mono (by rw[wP];omega))
 rw[bo];have dn:af (w.heap.size+1<W.heap.size):=lt_of_heap a'.out;clear bo;refine (ag4 (s.count+1) s (FF _) ⟨k,(a1,aZ),(a8,bh),(cx,bu),r,l⟩ 0 1000 (fun k=>S k∧k<w.heap.size) pl cl pp cp W (w.heap.size+1) _ (aq fun k h=>by have:=h.2;omega) (by decide) (by decide) (by decide) a' (el.out.lt.below aI.out) (aq rfl)).mono ?_;rintro e w' ⟨rfl,ay,_⟩;have cQ:af (ao w w w'):=aI.out.trans (ay.below _ aI.out.size fun k h=>by omega);clear ay;have rf:(kD ⟨k,(a1,aZ),(a8,bh),(cx,bu),r,l⟩ s 0 1000).isSome=v:=aY.out;rw[rf];go_wp2_with fail;go_ret;exact⟨rfl,cQ.out⟩
theorem ag6(n:Int):bits .and .i64 n 3=n%4:=by
 have hm:(BitVec.ofInt 64 3).toNat=2^2-1:=by decide
 have key:(BitVec.ofInt 64 n&&&BitVec.ofInt 64 3).toNat=(n%((2^64:Nat):Int)).toNat%2^2:=by rw[BitVec.toNat_and,BitVec.toNat_ofInt,hm,Wx]
 show ae ((BitVec.ofInt 64 n&&&BitVec.ofInt 64 3).toNat:Nat)=n%4;rw[key,Qy];omega
abbrev px:TypeId:=164
abbrev tI(t:gN):Value:=.agg #[U t.bB,U t.bW,I t.q,I t.fj.1,I t.fj.2]
theorem ag7(q k:Int)(ay:af (q%4=k))(w:aeo):
  Calls Tryz.prog 305 #[I q] w fun e w'=>e=ab (I k)∧w'=w:=by
 go_enter Tryz.func305,Tryz.ntmps305;go_wp2_with fail;go_ret;exact⟨pt ((ag6 q).trans ay.out),rfl⟩
theorem dt{w:aeo}{i:Nat}{cs:ajv}{t:aai}{dT:Nat×Nat}(u:ada)(h:w.heap[k]?=some (.cells cs t dT)):(w.setCell (aj k i) u).heap[k]?=some (.cells (cs.setIfInBounds i u) t dT):=by show (Array.modify _ _ _)[k]?=_;rw[zj,bb rfl,h];rfl
theorem MS{w:aeo}{a b:ada}(h:an w k (#[a,b]) t):ak w k 0 a∧ak w k 1 b∧w.frozen? ⟨k,0,none⟩=false∧w.frozen? ⟨k,1,none⟩=false:=by refine⟨?_,?_,?_,?_⟩<;>simp[World.cell?,World.frozen?,h]
theorem tJ{w:aeo}{a b c d e:ada}(h:an w k (#[a,b,c,d,e]) t):ak w k 0 a∧ak w k 1 b∧ak w k 2 c∧ak w k 3 d∧ak w k 4 e:=by refine⟨?_,?_,?_,?_,?_⟩<;>simp[World.cell?,h]
theorem ag8{P:aeo→Prop}{w:aeo}{g:Nat}{a b u v:ada}(h:an w g (#[a,b]) t)(k:∀e5,an e5 g (#[u,v]) t→aP (fun k=>k≠g) w e5→P e5):P ((w.setCell (aj g 0) u).setCell (aj g 1) v):=
 k _ (dt _ (dt _ h)) ((aP.set (a:=⟨g,0,none⟩) (fun h=>h rfl) _).trans (aP.set (a:=⟨g,1,none⟩) (fun h=>h rfl) _))
theorem zw(t:gN)(de cZ:Int)(hx:-536870912≤de∧de≤536870912)(hy:-536870912≤cZ∧cZ≤536870912)(av:e1 t.fj.1)(az:e1 t.fj.2)(x y:Int)(hr:af (iA t (de,cZ)=(x,y)))(w:aeo):
  Calls Tryz.prog 261 #[.agg #[I de,I cZ],tI t] w fun e w'=>e=ab (.agg #[I x,I y])∧ao w w w':=by
 obtain⟨bB,bW,q,a8,bh⟩:=t;unfold e1 at av az;dsimp only at av az;obtain⟨k,ay⟩:=ar (q%4);have cQ:=aq ay;have yl:k=0∨k=1∨k=2∨k=3:=by omega
 have en:ae (-de)= -de:=cY _ (by omega);have fa:ae (-cZ)= -cZ:=cY _ (by omega);have n3:ae de=de:=cY _ (by omega);have n4:ae cZ=cZ:=cY _ (by omega);have bA:ae (de+a8)=de+a8:=cY _ (by omega);have a2:ae (cZ+a8)=cZ+a8:=cY _ (by omega);have a3:ae (-de+a8)= -de+a8:=cY _ (by omega);have a4:ae (-cZ+a8)= -cZ+a8:=cY _ (by omega);have a5:ae (de+bh)=de+bh:=cY _ (by omega);have rh:ae (cZ+bh)=cZ+bh:=cY _ (by omega);have pT:ae (-de+bh)= -de+bh:=cY _ (by omega);have sl:ae (-cZ+bh)= -cZ+bh:=cY _ (by omega);have aI:=aq (And.intro (And.intro hx hy) (And.intro av az));clear hx hy av az ay;show Calls _ _ #[.agg #[I de,I cZ],.agg #[U bB,U bW,I q,I a8,I bh]] w _;go_enter Tryz.func261,Tryz.ntmps261;go_upto_region 1 with fail
 go_quiet (fail)
 obtain⟨W,bo⟩:=ar ((((w.alloc (ai (#[I de,I cZ]) jT)).alloc (ai (#[U bB,U bW,I q,I a8,I bh]) px)).alloc (ai (#[I 0,I 0]) jT)).drewN nq);have bH:af (ao w w W∧an W (w.heap.size+1) (#[U bB,U bW,I q,I a8,I bh]) px∧an W (w.heap.size+1+1) (#[I 0,I 0]) jT):=by show _∧_;rw[←bo];obtain⟨_,az,aC,C5,_⟩:=zv (w:=w) rfl;exact⟨kX C5 nq,az,aC⟩
 rw[bo];clear bo;obtain⟨t0,t1,t2,t3,t4⟩:=tJ bH.out.2.1;obtain⟨ju,iJ,f0,f1⟩:=MS bH.out.2.2;have MT:=lt_of_heap bH.out.2.2;cases bB<;>cases bW
 all_goals
  go_wp2_with fail;go_fit (ag7 q k cQ W);rintro e cc ⟨rfl,rfl⟩;rcases yl with rfl|rfl|rfl|rfl
  all_goals
   go_wp2_with fail;have hx:=hr.out;simp[iA,MH,ef.flip,cQ.out] at hx;refine ag8 (P:=bodyPost _ _ _ _ _) bH.out.2.2 fun e5 g1 g2=>?_;obtain⟨aQ,aN,_,_⟩:=MS g1;exact dU (v:=.agg #[I x,I y]) (by simp[results,Tryz.results261,go_sem,aQ,aN,hx]) rfl ⟨rfl,bH.out.1.trans (g2.below _ bH.out.1.size fun k ay e=>by omega)⟩
end dd
namespace ym
open ig
open Go.Lib (decDigits nDigits trimRightB)
def sn(u:Int):Int:=if u=1 then 10 else if u=2 then 254 else 0
def so(u i d:Int):Bool:=(decide (u=1)|| decide (u=2))&&(decide (0≤i)&&decide (i≤6))&&(decide (0≤d)&&decide (d≤6))&&decide (0<i+d)
theorem Rb(u i d:Int):so u i d=true↔(u=1∨u=2)∧0≤i∧i≤6∧0≤d∧d≤6∧0<i+d:=by simp[so];omega
def h6(n u:Int):Option Int:=
 if tk n=true∧(u=1∨u=2)∧-536870912≤n *sn u∧n *sn u≤536870912 then some (n *sn u) else none
def hH(l:au)(u i d:Int)(t:Bool):Option Int:=
 if so u i d=true∧1≤(strip l).2.length∧((strip l).2.length:Int)≤i+d∧bn (strip l).2=(strip l).2.length then
  let v:Int:=(val (strip l).2 *(if t then 10 ^((i+d).toNat -(strip l).2.length) else 1) *10 ^(6-d.toNat):Nat)
  h6 (if (strip l).1 then -v else v) u
 else none
def Rc(v size:Nat)(t:Bool):List UInt8:=
 if t then (if trimRightB (pad v size) 48=[] then[48] else trimRightB (pad v size) 48) else decDigits v
theorem ag9{u:Int}(h:u=1∨u=2):sn u=10∨sn u=254:=by rcases h with rfl|rfl<;>simp[sn]
theorem IC(k:Nat)(h:k≤12):10^k≤1000000000000:=by have:=wz (n:=10) (by decide) h;simpa using this
end ym
namespace Fr
def yn(n d:Int):Int×Int×Nat:=
 if d=0 then (0,0,10) else if 1073741824<n.natAbs/Nat.gcd n.natAbs d.natAbs∨1073741824<d.natAbs/Nat.gcd n.natAbs d.natAbs then (0,0,5)
 else (if (n<0)≠(d<0) then -((n.natAbs/Nat.gcd n.natAbs d.natAbs:Nat):Int) else ((n.natAbs/Nat.gcd n.natAbs d.natAbs:Nat):Int),((d.natAbs/Nat.gcd n.natAbs d.natAbs:Nat):Int),0)
def In(n d:Int):Prop:=1≤d∧d≤1073741824∧-1073741824≤n∧n≤1073741824
instance(n d:Int):Decidable (In n d):=by unfold In;infer_instance
def MU(n d:Int):Bool:=decide (In n d)&&decide (Nat.gcd n.natAbs d.natAbs=1)
def Rd(k n d m e:Int):Int×Int×Nat:=
 if MU n d=true∧MU m e=true then
  (if k=3 then yn (n *e+m *d) (d *e) else if k=4 then yn (n *e-m *d) (d *e) else if k=5 then yn (n *m) (d *e) else if k=6 then yn (n *e) (d *m) else (0,0,5))
 else (0,0,5)
end Fr
namespace Fr
open ig
def ob(k n:Int):Bool:=
 if k=1 then decide (0≤n)&&tk n else if k=2 then decide (1≤n∧n≤99) else if 3≤k∧k≤7 then decide (n=0) else false
def yo(k:Int):Nat:=if k=1∨k=2 then 0 else if k=7 then 1 else 2
def top(st:List (Int×Int))(i:Nat):Int×Int:=st.getD (st.length-i) (0,0)
def kP(vars:List (Int×Int))(n:Int):Int×Int:=if n≤vars.length then vars.getD (n.toNat-1) (0,0) else (0,1)
def uY(vars st:List (Int×Int))(k n:Int):Int×Int×Nat:=
 if k=1 then yn n 1000000
 else if k=2 then ((kP vars n).1,(kP vars n).2,if MU (kP vars n).1 (kP vars n).2=true then 0 else 5)
 else if k=7 then (-(top st 1).1,(top st 1).2,0)
 else Rd k (top st 2).1 (top st 2).2 (top st 1).1 (top st 1).2
def Re(vars st:List (Int×Int))(k n:Int):List (Int×Int)× Nat:=
 if ob k n=false∨st.length<yo k then (st,3)
 else if (uY vars st k n).2.2=0 then (st.take (st.length-yo k)++[((uY vars st k n).1,(uY vars st k n).2.1)],0) else (st,(uY vars st k n).2.2)
def uM(st:List (Int×Int)):Int×Int×Nat:=match st with
 |[x]=>(x.1,x.2,0)
 |_=>(0,0,3)
def AY(vars:List (Int×Int)):List (Int×Int)→List (Int×Int)→Int×Int×Nat
 |[],st=>uM st
 |o::l,st=>if (Re vars st o.1 o.2).2=0 then AY vars l (Re vars st o.1 o.2).1 else (0,0,(Re vars st o.1 o.2).2)
def ID(vars l:List (Int×Int)):Int×Int×Nat:=AY vars l []
def Small(st:List (Int×Int)):Prop:=∀x∈st,-1073741824≤x.1∧x.1≤1073741824∧0≤x.2∧x.2≤1073741824
theorem Small.take{st:List (Int×Int)}(h:Small st)(k:Nat):Small (st.take k):=fun x hx=>h x (List.mem_of_mem_take hx)
theorem Small.snoc{st:List (Int×Int)}(h:Small st){n d:Int}(av:-1073741824≤n)(az:n≤1073741824)(aC:0≤d)(bt:d≤1073741824):Small (st++[(n,d)]):=by
 intro x hx;rcases List.mem_append.1 hx with hx|hx
 ·exact h x hx
 ·simp only[List.mem_singleton] at hx;subst hx;exact⟨av,az,aC,bt⟩
end Fr
