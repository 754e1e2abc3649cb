/- Lemmas. -/
import Derived.Test.YtfldplmgkeiimaaGreatDoorQ0
import Derived.Laws.Rows
import Derived.Laws.BitsLemmas
set_option linter.all false
set_option maxRecDepth 100000
set_option maxHeartbeats 12800000
namespace Go.Proofs.YtfldplmgkeiimaaGreatDoor
abbrev gi:=@heap_alloc_new
abbrev hL:=@Int.mul_nonneg
abbrev ra:=@Calls.quiet_of_same
abbrev eH:=@decide_eq_true
abbrev Co:=@Array.getElem?_modify
abbrev pd:=@List.drop_drop
abbrev l7:=@Nat.not_lt_zero
abbrev Eo:=@Nat.lt_succ_self
abbrev Sg:=@BitVec.toNat_and
abbrev Sh:=@BitVec.toNat_ofInt
abbrev Si:=@Nat.and_two_pow_sub_one_eq_mod
abbrev Sj:=@IntKind.wrap_i64
abbrev dH:=@bodyPost_ret
namespace dE
open Go.RowKit el
theorem gj{B:Nat}{a w:bTo}(h:Below B a w)(n:Nat):Below B a (w.drewN n):=⟨h.os,h.tape,h.output,h.size,h.block⟩
variable{k f q:Nat}
theorem aO{w w':bTo}{o:Obj}(h:w.heap[k]?=some o)(af:av w w w'):w'.heap[k]?=some o:=(af.block k (lt_of_heap h)).trans h
variable{p:bp}
theorem eP{w:bTo}(h:w.heap[k]?=some (dB p)):aw w k 0 (I p.1)∧aw w k 1 (I p.2):=by constructor<;>simp[World.cell?,h]
theorem cw(w:bTo)(o:Obj):(w.alloc o).heap[w.heap.size]?=some o:=gi w o
theorem xE(w:bTo)(o:Obj):(w.alloc o).heap.size=w.heap.size+1:=by simp
theorem ba(w:bTo)(o:Obj):av w w (w.alloc o):=(Below.refl _ _).alloc (bD _) _
theorem rb{w W:bTo}{dt cE ft:Obj}(h:((w.alloc dt).alloc cE).alloc ft=W):W.heap[w.heap.size]?=some dt∧W.heap[w.heap.size+1]?=some cE∧W.heap[w.heap.size+1+1]?=some ft∧av w w W∧W.heap.size=w.heap.size+3:=by subst h;have aN:=xE w dt;have aR:=xE (w.alloc dt) cE;have cA:=xE ((w.alloc dt).alloc cE) ft;have aa:=cw w dt;have ah:=cw (w.alloc dt) cE;have ax:=cw ((w.alloc dt).alloc cE) ft;rw[aN] at ah aR;rw[aR] at ax cA;have b3:=ba w dt;have bc:=ba (w.alloc dt) cE;have ev:=ba ((w.alloc dt).alloc cE) ft;exact⟨aO (aO aa bc) ev,aO ah ev,ax,(b3.trans (bc.mono (by omega))).trans (ev.mono (by omega)),cA⟩
theorem fU{a b:Int}(h:a=b):Ending.returned (I a)=bb (I b):=by rw[h]
def e4(x:Int):Prop:=-2305843009213693952≤x∧x≤2305843009213693952
theorem Yr(v lo hi:Int)(h:e4 v∧e4 lo∧e4 hi)(g:Int)(aX:J (mT v lo hi=g))(w:bTo):
  Calls Tryz.prog 304 #[I v,I lo,I hi] w fun e w'=>e=bb (I g)∧w'=w:=by
 unfold e4 at h;have aa:bT (lo-v)=lo-v:=b4 _ (by omega);have ah:bT (v-hi)=v-hi:=b4 _ (by omega);clear h;go_enter Tryz.func304,Tryz.ntmps304;go_wp2_with fail
 all_goals
  go_ret;refine⟨fU ?_,rfl⟩;have:=aX.out
  grind [mT]
def nD(x:Int):Prop:=-2147483647≤x∧x≤2147483647
theorem Cp{x:Int}(h:nD x):0≤x *x∧x *x≤4611686014132420609:=by
 obtain⟨aa,ah⟩:=h;have ax:0≤(2147483647-x) *(2147483647+x):=hL (by omega) (by omega);have bg:(2147483647-x) *(2147483647+x)=4611686014132420609-x *x:=by grind
 have b7:0≤x *x:=by
  rcases Int.le_total 0 x with h|h
  ·exact hL h h
  ·have:=hL (a:=-x) (b:=-x) (by omega) (by omega)
   rwa [Int.neg_mul_neg] at this
 omega
abbrev gJ(b:bR):Value:=.agg #[I b.ao,I b.ak,I b.ar,I b.aq]
abbrev cH(b:bR):Obj:=.cells #[I b.ao,I b.ak,I b.ar,I b.aq] 198
structure bR.In(b:bR):Prop where
 ao:e4 b.ao
 ak:e4 b.ak
 ar:e4 b.ar
 aq:e4 b.aq
theorem NT(ao ak ar aq bW bU:Int)(af:bR.In ⟨ao,ak,ar,aq⟩)(hp:e4 bW∧e4 bU)(j1 j2:Int)(hx:J (mT bW ao ar=j1))(hy:J (mT bU ak aq=j2))(Ys:nD j1)(Sk:nD j2)(d:Int)(hd:J (j1 *j1+j2 *j2=d))(w:bTo):
  Calls Tryz.prog 260 #[.agg #[I ao,I ak,I ar,I aq],.agg #[I bW,I bU]] w fun e w'=>e=bb (I d)∧av w w w':=by
 have H1:=U af;have b9:=U hp;have aa:=Cp Ys;have ah:=Cp Sk;have bE:bT (j1 *j1)=j1 *j1:=b4 _ (by omega);have cr:bT (j2 *j2)=j2 *j2:=b4 _ (by omega);have dJ:bT (j1 *j1+j2 *j2)=d:=by rw[←hd.out];exact b4 _ (by omega)
 have uy:=U (Yr bW ao ar ⟨hp.1,af.ao,af.ar⟩ j1 hx);have tq:=U (Yr bU ak aq ⟨hp.2,af.ak,af.aq⟩ j2 hy);clear aa ah Ys Sk af hp H1 b9;go_enter Tryz.func260,Tryz.ntmps260;go_upto_region 1 with fail
 go_quiet (first
  |(go_at_call 304;with_reducible exact ra (uy.out _))
  |(go_at_call 304;with_reducible exact ra (tq.out _))
  |fail)
 go_wp2_with fail;go_ret;exact⟨rfl,gj (((Below.refl _ _).alloc (bD _) _).alloc (by simp) _) _⟩
theorem NU(v q:Int):mT v q q *mT v q q=(v-q) *(v-q)∧(nD (v-q)→nD (mT v q q)):=by
 unfold mT nD;by_cases aa:v<q
 ·rw[aT aa];exact⟨by grind,by omega⟩
 ·rw[aK aa];by_cases ah:q<v
  ·rw[aT ah];exact⟨rfl,id⟩
  ·rw[aK ah];obtain rfl:v=q:=(by omega);simp
theorem Sl(p q:bp)(hp:e4 p.1∧e4 p.2)(aC:e4 q.1∧e4 q.2)(f1:nD (p.1-q.1))(f2:nD (p.2-q.2))(d:Int)(hd:J (kn p q=d))(w:bTo):
  Calls Tryz.prog 227 #[fA p,fA q] w fun e w'=>e=bb (I d)∧av w w w':=by
 obtain⟨bW,bU⟩:=p;obtain⟨cY,cZ⟩:=q;obtain⟨j1,hx⟩:=az (mT bW cY cY);obtain⟨j2,hy⟩:=az (mT bU cZ cZ);have bP:=NU bW cY;have a8:=NU bU cZ;rw[hx] at bP;rw[hy] at a8;have cI:J (j1 *j1+j2 *j2=d):=by show _=_;rw[bP.1,a8.1,←hd.out];rfl
 have G:=U (NT cY cZ cY cZ bW bU ⟨aC.1,aC.2,aC.1,aC.2⟩ hp j1 j2 hx hy (bP.2 f1) (a8.2 f2) d cI);clear bP a8 f1 f2 hp aC hx hy cI hd;go_enter Tryz.func227,Tryz.ntmps227;go_wp2_with fail;go_fit (G.out _);rintro e w' ⟨rfl,af⟩;have aH:J (av w w w'):=(((Below.refl _ _).alloc (bD _) _).alloc (by simp) _).trans (af.mono (by simp<;>omega));clear af;go_wp2_with fail;go_ret;exact⟨rfl,aH.out⟩
theorem Sm(c a e:bp)(hc:e4 c.1∧e4 c.2)(ha:e4 a.1∧e4 a.2)(he:e4 e.1∧e4 e.2)(f1:nD (a.1-c.1))(f2:nD (a.2-c.2))(f3:nD (e.1-c.1))(f4:nD (e.2-c.2))(b:Bool)(af:J (xA c a e=b))(w:bTo):
  Calls Tryz.prog 187 #[fA c,fA a,fA e] w fun r w'=>r=bb (ai b)∧av w w w':=by
 obtain⟨d1,gQ⟩:=az (kn a c);obtain⟨d2,fV⟩:=az (kn e c);have uy:=U (Sl a c ha hc f1 f2 d1 gQ);have tq:=U (Sl e c he hc f3 f4 d2 fV);have aH:J ((decide (d1≠0)&&decide (d1=d2))=b):=by show _=_;rw[←af.out];unfold xA;rw[gQ,fV]
 obtain⟨cx,aP⟩:=c;obtain⟨aA,aB⟩:=a;obtain⟨ex,bw⟩:=e;clear hc ha he f1 f2 f3 f4 af gQ fV;go_enter Tryz.func187,Tryz.ntmps187;go_upto_region 1 with fail;obtain⟨W,a6⟩:=az (((w.alloc (dB (cx,aP))).alloc (dB (aA,aB))).alloc (dB (ex,bw)));obtain⟨aa,ah,ax,sa,hh⟩:=rb a6;have bm:=U ax;have bq:=U aa;have Yt:=U sa;obtain⟨aI,c2⟩:=eP aa;obtain⟨a',a2⟩:=eP ah;simp only[dB] at a6;rw[a6];clear aa ah ax sa a6 hh;go_wp2_with fail;go_fit (uy.out _);rintro r bE ⟨rfl,e5⟩;have cm:J (av w w bE):=Yt.out.trans (e5.mono Yt.out.size);have aN:=eP (aO bm.out e5);have aR:=eP (aO bq.out e5);obtain⟨er,ee⟩:=aN;obtain⟨bN,ch⟩:=aR;clear aI c2 a' a2 e5;by_cases aQ:d1=0
 ·have aE:J (false=b):=(by show _=_;rw[←aH.out,eD (by simp[aQ])];rfl);have aiw:(d1 !=0)=false:=(by rw[aQ];rfl);go_wp2_with fail;go_ret;exact⟨ej aE.out,cm.out⟩
 ·have aiw:(d1 !=0)=true:=(by simp[aQ]);go_wp2_with fail;go_fit (tq.out _);rintro r cr ⟨rfl,eb⟩;have c1:J (av w w cr):=cm.out.trans (eb.mono cm.out.size);clear eb;go_wp2_with fail;go_ret;refine⟨ej ?_,c1.out⟩;rw[←aH.out,eH aQ,JM]
  grind
abbrev uz:TypeId:=3
def kY(b:dL)(s:bh)(f:Nat)(left:Int):Option Int:=jm (.cons true b s .nil) f left
theorem G4(a:Bool)(b:dL)(s r:bh)(f:Nat)(left:Int):jm (.cons a b s r) f left=
 if left<1∨pZ b s.len=false then none
 else if b.k=6 then (if 8≤f then none else match jm s (f+1) (left-1) with
  |none=>none
  |some m=>jm r f m)
 else if ia b=true then jm r f (left-1) else none:=by rw[jm]<;>rfl
variable{b:dL}{s:bh}{left:Int}
theorem Sn(h:left<1∨pZ b s.len=false):kY b s f left=none:=by unfold kY;rw[G4,aT h]
theorem Ep(h:¬left<1)(af:pZ b s.len=true)(ab:b.k≠6){v:Bool}(aS:ia b=v):kY b s f left=if v=true then some (left-1) else none:=by unfold kY;rw[G4,aK (by rw[af];simp[h]),aK ab,aS];rfl
theorem Yu(h:¬left<1)(af:pZ b s.len=true)(ab:b.k=6):kY b s f left=if 8≤f then none else jm s (f+1) (left-1):=by
 unfold kY;rw[G4,aK (by rw[af];simp[h]),aT ab];by_cases eO:8≤f
 ·rw[aT eO,aT eO]
 ·rw[aK eO,aK eO];cases h:jm s (f+1) (left-1)<;>rfl
theorem G5{a:Bool}{r:bh}:jm (.cons a b s r) f left=(kY b s f left).bind (fun m=>jm r f m):=by
 unfold kY;rw[G4,G4];split
 ·rfl
 ·split
  ·split
   ·rfl
   ·cases jm s (f+1) (left-1)<;>rfl
  ·split<;>rfl
variable{t:aui}
theorem en{w:bTo}{v0 v1 v2 v3 v4 v5 v6 du ds v9:ada}(h:bo w k (#[v0,v1,v2,v3,v4,v5,v6,du,ds,v9]) t):
  aw w k 0 v0∧aw w k 1 v1∧aw w k 2 v2∧aw w k 3 v3∧aw w k 4 v4∧aw w k 5 v5∧aw w k 6 v6∧aw w k 7 du∧aw w k 8 ds∧aw w k 9 v9:=by
 refine⟨?_,?_,?_,?_,?_,?_,?_,?_,?_,?_⟩<;>simp[World.cell?,h]
theorem aix{w:bTo}{n:Int}(h:bo w k (#[I n]) uz):aw w k 0 (I n)∧w.frozen? ⟨k,0,none⟩=false:=by
 constructor
 ·simp[World.cell?,h]
 ·simp[World.frozen?,h]
theorem aiy{w:bTo}{n:Int}(m:Int)(h:bo w k (#[I n]) uz):(w.setCell (ag k 0) (I m)).heap[k]?=some (.cells #[I m] uz):=by show (Array.modify _ _ _)[k]?=_;rw[Co,aT rfl,h];rfl
theorem uA(h:gI p=true):(-536870912≤p.1∧p.1≤536870912)∧-536870912≤p.2∧p.2≤536870912:=by simp only[gI,gy,gH] at h;omega
theorem NV(h:(-536870912≤p.1∧p.1≤536870912)∧-536870912≤p.2∧p.2≤536870912):e4 p.1∧e4 p.2:=by unfold e4;omega
theorem G6{q:bp}(h:(-536870912≤p.1∧p.1≤536870912)∧-536870912≤p.2∧p.2≤536870912)(g:(-536870912≤q.1∧q.1≤536870912)∧-536870912≤q.2∧q.2≤536870912):nD (p.1-q.1):=by unfold nD;omega
theorem G7{q:bp}(h:(-536870912≤p.1∧p.1≤536870912)∧-536870912≤p.2∧p.2≤536870912)(g:(-536870912≤q.1∧q.1≤536870912)∧-536870912≤q.2∧q.2≤536870912):nD (p.2-q.2):=by unfold nD;omega
theorem aiz:∀(p:bh) {f:Nat} {n k:Int},0≤n→jm p f n=some k→0≤k:=by
 intro p
 induction p with
 |nil=>intro f n k hn ab;simp only[jm,mv] at ab;omega
 |cons a b s r Se JT=>
  intro f n k hn ab;rw[G4] at ab;split at ab
  ·cases ab
  ·rename_i aQ;split at ab
   ·split at ab
    ·cases ab
    ·split at ab
     ·cases ab
     ·rename_i j cB;exact JT (Se (by omega) cB) ab
   ·split at ab
    ·exact JT (by omega) ab
    ·cases ab
theorem dS.drop{S:Jp}{w:bTo}{r:bh}:∀{p:bh} {xs:bTv},dS S w (p.append r) xs→dS S w r (xs.drop (p.len *11))
 |.nil,xs,h=>h
 |.cons a b s t,xs,h=>by
  have ah:=dS.drop (p:=t) (r:=r) (xs:=xs.drop 11) h.2;rw[pd] at ah
  rwa [show (bh.cons a b s t).len *11=11+t.len *11 by simp only[bh.len];omega]
theorem iG.part{S:Jp}{w:bTo}{p:aya}{pre:bh}{a:Bool}{r:bh}{n:Nat}(h:iG S w p (pre.append (.cons a b s r)))(hn:pre.len=n):
  ∃(k o:Nat) (pl:aya) (cl:Nat) (pp:aya) (cp:Nat),p=some ⟨k,o,none⟩∧k<w.heap.size∧S k∧dY S w pl cl pp cp ⟨b,s⟩∧
   aw w k (o+n *11) (ai a)∧aw w k (o+n *11+1) (I b.k)∧aw w k (o+n *11+2) (I b.a.1)∧aw w k (o+n *11+3) (I b.a.2)∧aw w k (o+n *11+4) (I b.b.1)∧aw w k (o+n *11+5) (I b.b.2)∧aw w k (o+n *11+6) (I b.c.1)∧aw w k (o+n *11+7) (I b.c.2)∧aw w k (o+n *11+8) (I b.r)∧aw w k (o+n *11+9) (ad pl b.l.length cl)∧aw w k (o+n *11+10) (ad pp s.len cp):=by
 subst hn;obtain⟨k,o,cs,rfl,hS,aF,hp⟩:=h.2 (by rw[bh.uu];simp only[bh.len];omega);have ah:=hp.drop;rw[pd] at ah;obtain⟨pl,cl,pp,cp,ax,hs⟩:=ah.head;obtain⟨aJ,aI,c2,c3,bF,c5,b1,b5,bS,bf,cy⟩:=Yp ax;refine⟨k,o,pl,cl,pp,cp,rfl,lt_of_heap aF,hS,hs,?_,?_,?_,?_,?_,?_,?_,?_,?_,?_,?_⟩<;>simp only[World.cell?, *]<;>rfl
def Er(q:Nat)(w:bTo)(o:Option Int)(e:Ending)(w':bTo):Prop:=e=bb (ai o.isSome)∧aL (fun k=>k≠q) w w'∧∀m,o=some m→bo w' q (#[I m]) uz
variable{o:Option Int}
theorem Er.no{w w':bTo}(h:o=none)(ab:aL (fun k=>k≠q) w w'):Er q w o (bb (ai false)) w':=by subst h;exact⟨rfl,ab,fun m hm=>by cases hm⟩
theorem Er.yes{w w':bTo}{m:Int}(h:o=some m)(ab:aL (fun k=>k≠q) w w')(aC:bo w' q (#[I m]) uz):Er q w o (bb (ai true)) w':=by subst h;exact⟨rfl,ab,fun n hn=>by cases hn;exact aC⟩
theorem Er.is{w w':bTo}{m:Int}{v:Bool}(h:o=if v=true then some m else none)(ab:aL (fun k=>k≠q) w w')(aC:bo w' q (#[I m]) uz):Er q w o (bb (ai v)) w':=by
 cases v
 ·exact .no h ab
 ·exact .yes h ab aC
theorem aiA(N:Nat):∀(s:bh),s.count<N→∀(b:dL) (f:Nat) (left:Int) (S:Jp) (pl:aya) (cl:Nat) (pp:aya) (cp:Nat) (w:bTo) (q:Nat) (o:Option Int),
  J (∀k,S k→k≠q)→f≤8→-1000000≤left→left≤1000000→J (bo w q (#[I left]) uz)→J (dY S w pl cl pp cp ⟨b,s⟩)→J (kY b s f left=o)→
  Calls Tryz.prog 212 #[j0 b (ad pl b.l.length cl) (ad pp s.len cp),I f,dv q 0] w (Er q w o):=by
 induction N with
 |zero=>intro s hs;exact absurd hs (l7 _)
 |succ N dc=>
 intro s hs b f left S pl cl pp cp w q o So hf JV mS aC eF bl;obtain⟨k,⟨aA,aB⟩,⟨aU,aZ⟩,⟨cx,aP⟩,r,l⟩:=b;have xF:=U dc;have cF:=U hs;clear dc hs;obtain⟨e8,bN⟩:=aix aC.out;have b0:=lt_of_heap aC.out;have J0:=U b0;show Calls _ _ #[.agg #[I k,I aA,I aB,I aU,I aZ,I cx,I aP,I r,ad pl l.length cl,ad pp s.len cp],I f,dv q 0] w _;by_cases hle:left<1
 ·have a1:J (o=none):=(by show _=_;rw[←bl.out];exact Sn (.inl hle));clear bl;go_enter Tryz.func212,Tryz.ntmps212;go_wp2_with fail;go_ret;exact .no a1.out (.alloc _ _ _)
 ·have Yq:1≤left:=(by omega);have zh:=U Yq;have hw:bT (left-1)=left-1:=b4 _ (by omega);go_enter Tryz.func212,Tryz.ntmps212;go_upto_region 4 with fail;obtain⟨W,a6⟩:=az ((w.setCell (ag q 0) (I (left-1))).alloc (aD (#[I k,I aA,I aB,I aU,I aZ,I cx,I aP,I r,ad pl l.length cl,ad pp s.len cp]) dh))
  have fv:J (bo W w.heap.size (#[I k,I aA,I aB,I aU,I aZ,I cx,I aP,I r,ad pl l.length cl,ad pp s.len cp]) dh):=by
   show _=_;rw[←a6];have h:=cw (w.setCell (ag q 0) (I (left-1))) (aD (#[I k,I aA,I aB,I aU,I aZ,I cx,I aP,I r,ad pl l.length cl,ad pp s.len cp]) dh)
   rwa [show (w.setCell (ag q 0) (I (left-1))).heap.size=w.heap.size by simp] at h
  have a7:J (bo W q (#[I (left-1)]) uz):=(by show _=_;rw[←a6];exact aO (aiy _ aC.out) (ba _ _));have cT:J (aL (fun k=>k≠q) w W):=(by show aL _ _ _;rw[←a6];exact (aL.set (fun h=>h rfl) _).trans (.alloc _ _ _));rw[a6];clear a6 e8 bN b0;obtain⟨g0,g1,g2,g3,g4,g5,g6,g7,g8,g9⟩:=en fv.out;go_wp2_with fail;go_fit (air k aA aB aU aZ cx aP r pl pp l.length s.len cl cp W);rintro e bE ⟨rfl,e5⟩;have NW:=U (aO fv.out e5);have uB:=U (aO a7.out e5);have iV:=U (cT.out.trans (.dM e5));obtain⟨fS,wa⟩:=az (NN k (aA,aB) (aU,aZ) (cx,aP) r l.length s.len);rw[wa];have fp:J (pZ ⟨k,(aA,aB),(aU,aZ),(cx,aP),r,l⟩ s.len=fS):=wa;clear g0 g1 g2 g3 g4 g5 g6 g7 g8 g9 fv a7 cT e5 wa;obtain⟨g0,g1,g2,g3,g4,g5,g6,g7,g8,g9⟩:=en NW.out;have NX:=lt_of_heap NW.out;cases fS with
  |false=>
   have a1:J (o=none):=(by show _=_;rw[←bl.out];exact Sn (.inr fp.out));clear bl;go_wp2_with fail;go_ret;exact .no a1.out iV.out
  |true=>
   by_cases eA:k=1
   ·subst eA;have b':J (o=if ia (⟨1,(aA,aB),(aU,aZ),(cx,aP),r,l⟩:dL)=true then some (left-1) else none):=(by show _=_;rw[←bl.out];exact Ep (Int.not_lt.2 zh.out) fp.out (show (1:Int)≠6 by decide) rfl);clear bl;go_wp2_with fail;refine (AI (aA,aB) _).mono ?_;rintro e cr ⟨rfl,rfl⟩;obtain⟨f0,nE⟩:=az (gI (aA,aB));rw[nE];have p4:=U nE;clear nE;cases f0 with
    |false=>
     have a1:J (o=none):=(by show _=_;rw[b'.out];simp[ia,p4.out]);clear b';go_wp2_with fail;go_ret;exact .no a1.out (iV.out.trans (.alloc _ _ _))
    |true=>
     go_wp2_with fail;refine (NO r _).mono ?_;rintro e dJ ⟨rfl,rfl⟩;obtain⟨f1,lI⟩:=az (tm r);rw[lI];have hM:=U lI;clear lI;have a1:J (o=if f1=true then some (left-1) else none):=(by show _=_;rw[b'.out];simp[ia,p4.out,hM.out]);clear b';go_wp2_with fail;go_ret;exact .is a1.out (iV.out.trans (.alloc _ _ _)) (aO uB.out (ba _ _))
   by_cases ga:k=2
   ·subst ga;have b':J (o=if ia (⟨2,(aA,aB),(aU,aZ),(cx,aP),r,l⟩:dL)=true then some (left-1) else none):=(by show _=_;rw[←bl.out];exact Ep (Int.not_lt.2 zh.out) fp.out (show (2:Int)≠6 by decide) rfl);clear bl;have dR:J (iF S bE pl l):=eF.out.l.keep (iV.out.mono fun k _ h=>So.out k h);go_wp2_with fail;refine (aiu S pl l l.length cl rfl bE dR (p0 l) (U rfl)).mono ?_;rintro e cr ⟨rfl,eb⟩;have hg:=U (iV.out.trans (.dM eb));have Sp:=U (aO uB.out eb);clear eb;go_wp2_with fail;go_ret;exact .is b'.out hg.out Sp.out
   by_cases p5:k=3
   ·subst p5;have b':J (o=if ia (⟨3,(aA,aB),(aU,aZ),(cx,aP),r,l⟩:dL)=true then some (left-1) else none):=(by show _=_;rw[←bl.out];exact Ep (Int.not_lt.2 zh.out) fp.out (show (3:Int)≠6 by decide) rfl);clear bl;go_wp2_with fail;refine (AI (aA,aB) _).mono ?_;rintro e cr ⟨rfl,rfl⟩;obtain⟨f0,nE⟩:=az (gI (aA,aB));rw[nE];have p4:=U nE;clear nE;cases f0 with
    |false=>
     have a1:J (o=none):=(by show _=_;rw[b'.out];simp[ia,p4.out]);clear b';go_wp2_with fail;go_ret;exact .no a1.out (iV.out.trans (.alloc _ _ _))
    |true=>
     go_wp2_with fail;refine (AI (aU,aZ) _).mono ?_;rintro e dJ ⟨rfl,rfl⟩;obtain⟨f1,lI⟩:=az (gI (aU,aZ));rw[lI];have hM:=U lI;clear lI;cases f1 with
     |false=>
      have a1:J (o=none):=(by show _=_;rw[b'.out];simp[ia,p4.out,hM.out]);clear b';go_wp2_with fail;go_ret;exact .no a1.out ((iV.out.trans (.alloc _ _ _)).trans (.alloc _ _ _))
     |true=>
      go_wp2_with fail;refine (NO r _).mono ?_;rintro e cb ⟨rfl,rfl⟩;obtain⟨f2,p6⟩:=az (tm r);rw[p6];have e9:=U p6;clear p6;have a1:J (o=if f2=true then some (left-1) else none):=(by show _=_;rw[b'.out];simp[ia,p4.out,hM.out,e9.out]);clear b';go_wp2_with fail;go_ret;exact .is a1.out ((iV.out.trans (.alloc _ _ _)).trans (.alloc _ _ _)) (aO (aO uB.out (ba _ _)) (ba _ _))
   by_cases zi:k=4
   ·subst zi;have b':J (o=if ia (⟨4,(aA,aB),(aU,aZ),(cx,aP),r,l⟩:dL)=true then some (left-1) else none):=(by show _=_;rw[←bl.out];exact Ep (Int.not_lt.2 zh.out) fp.out (show (4:Int)≠6 by decide) rfl);clear bl;go_wp2_with fail;refine (AI (aA,aB) _).mono ?_;rintro e cr ⟨rfl,rfl⟩;obtain⟨f0,nE⟩:=az (gI (aA,aB));rw[nE];have p4:=U nE;clear nE;cases f0 with
    |false=>
     have a1:J (o=none):=(by show _=_;rw[b'.out];simp[ia,p4.out]);clear b';go_wp2_with fail;go_ret;exact .no a1.out (iV.out.trans (.alloc _ _ _))
    |true=>
     go_wp2_with fail;refine (AI (aU,aZ) _).mono ?_;rintro e dJ ⟨rfl,rfl⟩;obtain⟨f1,lI⟩:=az (gI (aU,aZ));rw[lI];have hM:=U lI;clear lI;cases f1 with
     |false=>
      have a1:J (o=none):=(by show _=_;rw[b'.out];simp[ia,p4.out,hM.out]);clear b';go_wp2_with fail;go_ret;exact .no a1.out ((iV.out.trans (.alloc _ _ _)).trans (.alloc _ _ _))
     |true=>
      go_wp2_with fail;refine (NO r _).mono ?_;rintro e cb ⟨rfl,rfl⟩;obtain⟨f2,p6⟩:=az (tm r);rw[p6];have e9:=U p6;clear p6;cases f2 with
      |false=>
       have a1:J (o=none):=(by show _=_;rw[b'.out];simp[ia,p4.out,hM.out,e9.out]);clear b';go_wp2_with fail;go_ret;exact .no a1.out ((iV.out.trans (.alloc _ _ _)).trans (.alloc _ _ _))
      |true=>
       obtain⟨f3,G8⟩:∃x:Bool,decide ((aA,aB)≠(aU,aZ))=x:=⟨_,rfl⟩;have p7:=U G8;clear G8;have a1:J (o=if f3=true then some (left-1) else none):=(by show _=_;rw[b'.out,←p7.out];simp[ia,p4.out,hM.out,e9.out]);clear b';go_wp2_with fail
       all_goals
        go_ret;refine .is (by rw[a1.out,←p7.out];grind) ((iV.out.trans (.alloc _ _ _)).trans (.alloc _ _ _)) (aO (aO uB.out (ba _ _)) (ba _ _))
   by_cases Yv:k=5
   ·subst Yv;have b':J (o=if ia (⟨5,(aA,aB),(aU,aZ),(cx,aP),r,l⟩:dL)=true then some (left-1) else none):=(by show _=_;rw[←bl.out];exact Ep (Int.not_lt.2 zh.out) fp.out (show (5:Int)≠6 by decide) rfl);clear bl;go_wp2_with fail;refine (AI (aA,aB) _).mono ?_;rintro e cr ⟨rfl,rfl⟩;obtain⟨f0,nE⟩:=az (gI (aA,aB));rw[nE];have p4:=U nE;clear nE;cases f0 with
    |false=>
     have a1:J (o=none):=(by show _=_;rw[b'.out];simp[ia,p4.out]);clear b';go_wp2_with fail;go_ret;exact .no a1.out (iV.out.trans (.alloc _ _ _))
    |true=>
     go_wp2_with fail;refine (AI (aU,aZ) _).mono ?_;rintro e dJ ⟨rfl,rfl⟩;obtain⟨f1,lI⟩:=az (gI (aU,aZ));rw[lI];have hM:=U lI;clear lI;cases f1 with
     |false=>
      have a1:J (o=none):=(by show _=_;rw[b'.out];simp[ia,p4.out,hM.out]);clear b';go_wp2_with fail;go_ret;exact .no a1.out ((iV.out.trans (.alloc _ _ _)).trans (.alloc _ _ _))
     |true=>
      go_wp2_with fail;refine (AI (cx,aP) _).mono ?_;rintro e cb ⟨rfl,rfl⟩;obtain⟨f2,p6⟩:=az (gI (cx,aP));rw[p6];have re:J (aL (fun k=>k≠q) w (((bE.alloc (dB (aA,aB))).alloc (dB (aU,aZ))).alloc (dB (cx,aP)))):=(((iV.out.trans (.alloc _ _ _)).trans (.alloc _ _ _)).trans (.alloc _ _ _));have Yw:J ((((bE.alloc (dB (aA,aB))).alloc (dB (aU,aZ))).alloc (dB (cx,aP))).heap[q]?=some (.cells #[I (left-1)] uz)):=(aO (aO (aO uB.out (ba _ _)) (ba _ _)) (ba _ _));have J1:J ((((bE.alloc (dB (aA,aB))).alloc (dB (aU,aZ))).alloc (dB (cx,aP))).heap[w.heap.size]?=some (.cells #[I 5,I aA,I aB,I aU,I aZ,I cx,I aP,I r,ad pl l.length cl,ad pp s.len cp] dh)):=aO (aO (aO NW.out (ba _ _)) (ba _ _)) (ba _ _);clear g0 g1 g2 g3 g4 g5 g6 g7 g8 g9 NX NW uB iV;generalize ((bE.alloc (dB (aA,aB))).alloc (dB (aU,aZ))).alloc (dB (cx,aP))=Cq at re Yw J1⊢;obtain⟨g0,g1,g2,g3,g4,g5,g6,g7,g8,g9⟩:=en J1.out;have NX:=lt_of_heap J1.out;have e9:=U p6;clear p6;cases f2 with
      |false=>
       have a1:J (o=none):=(by show _=_;rw[b'.out];simp[ia,p4.out,hM.out,e9.out]);clear b';go_wp2_with fail;go_ret;exact .no a1.out re.out
      |true=>
       go_wp2_with fail;refine (NO r _).mono ?_;rintro e bt ⟨rfl,rfl⟩;obtain⟨f3,G8⟩:=az (tm r);rw[G8];have p7:=U G8;clear G8;cases f3 with
       |false=>
        have a1:J (o=none):=(by show _=_;rw[b'.out];simp[ia,p4.out,hM.out,e9.out,p7.out]);clear b';go_wp2_with fail;go_ret;exact .no a1.out re.out
       |true=>
        go_wp2_with fail;obtain⟨f4,Sq⟩:=az (xA (cx,aP) (aA,aB) (aU,aZ));have l8:=uA p4.out;have kI:=uA hM.out;have ic:=uA e9.out;refine (Sm (cx,aP) (aA,aB) (aU,aZ) (NV ic) (NV l8) (NV kI) (G6 l8 ic) (G7 l8 ic) (G6 kI ic) (G7 kI ic) f4 (U Sq) _).mono ?_;rintro e cX ⟨rfl,eQ⟩;have hg:=U (re.out.trans (.dM eQ));have Sp:=U (aO Yw.out eQ);clear eQ l8 kI ic;have sb:=U Sq;clear Sq;have a1:J (o=if f4=true then some (left-1) else none):=(by show _=_;rw[b'.out];simp[ia,p4.out,hM.out,e9.out,p7.out,sb.out]);clear b';go_wp2_with fail;go_ret;exact .is a1.out hg.out Sp.out
   by_cases lJ:k=6
   ·subst lJ;have b':J ((if 8≤f then none else jm s (f+1) (left-1))=o):=(by show _=_;rw[←bl.out];exact (Yu (Int.not_lt.2 zh.out) fp.out rfl).symm);clear bl;by_cases eO:8≤f
    ·have a1:J (o=none):=(by show _=_;rw[←b'.out,aT eO]);have Yx:(8:Int)≤(f:Int):=(by omega);clear b';go_wp2_with fail;go_ret;exact .no a1.out iV.out
    ·have pe:J (jm s (f+1) (left-1)=o):=(by show _=_;rw[←b'.out,aK eO]);have Yx:(f:Int)<8:=(by omega);have lI:bT ((f:Int)+1)=((f+1:Nat):Int):=(by rw[b4 _ (by omega)];omega);have hM:=U lI;have lr:=U (show s.len≤1000000000 from eF.out.p.1);have oa:=lr.out;obtain⟨n,hn⟩:=az s.len;have rf:=U hn;rw[hn] at oa g9⊢;clear b' hn lI;go_wp2_with fail
     go_loopw [111] (fun i wr=>∃(pre gl:bh) (m:Int) (j:Nat) (aG:bTo),aG=wr∧J (s=pre.append gl)∧J (pre.len=j)∧i=I j∧J (jm gl (f+1) m=o)∧0≤m∧m≤1000000∧J (bo aG q (#[I m]) uz)∧J (aL (fun k=>k≠q) w aG)) (fun i _=>n -(intOf i).toNat)
     case atStart=>exact⟨.nil,s,left-1,0,_,rfl,rfl,rfl,rfl,pe.out,by omega,by omega,uB.out,iV.out⟩
     case round=>
     obtain⟨pre,gl,m,j,aG,rfl,jC,dA,rfl,cd,sc,kZ,NY,J2⟩:=hrel;cases gl with
     |nil=>
      have oF:j=n:=(by rw[←rf.out,←dA.out,jC.out,bh.append_nil]);have a1:J (o=some m):=cd.out.symm;subst oF;go_wp2_with fail;go_ret;exact .yes a1.out J2.out NY.out
     |cons a bd sub gm=>
      have rh:j<n:=(by rw[←rf.out,←dA.out,jC.out,bh.uu];simp only[bh.len];omega);have NZ:(j:Int)<(n:Int):=(by omega);have kp:iG S aG pp (pre.append (.cons a bd sub gm)):=(by rw[←jC.out];exact eF.out.p.keep (J2.out.mono fun k _ h=>So.out k h));obtain⟨hY,lK,ql,dl,qp,cL,rfl,ri,_,qC,aJ,aI,c2,c3,bF,c5,b1,b5,bS,bf,cy⟩:=kp.part dA.out;have wb:=U qC;have lI:=hM.out;clear kp qC;go_wp2_with fail;obtain⟨dt,iI⟩:=az (kY bd sub (f+1) m);have xG:=U iI;have jR:J (dt.bind (fun cQ=>jm gm (f+1) cQ)=o):=(by show _=_;rw[←cd.out,G5,iI]);have hZ:sub.count<N:=(by have aa:=cF.out;rw[jC.out,bh.count_append] at aa;simp only[bh.count] at aa;omega);have xH:J (s=(pre.append (.cons a bd sub .nil)).append gm):=(by show _=_;rw[jC.out,bh.append_assoc];rfl);have jn:J ((pre.append (.cons a bd sub .nil)).len=j+1):=(by show _=_;rw[bh.uu,dA.out];rfl);refine (xF.out sub hZ bd (f+1) m S ql dl qp cL _ q dt So (by omega) (by omega) kZ (aO NY.out (ba _ _)) (wb.out.below (ba _ _)) xG).mono ?_;rintro e dJ ⟨rfl,p5,Yy⟩;have kq:=U ((J2.out.trans (.alloc _ _ _)).trans p5);have Cr:=U Yy;clear p5 Yy;cases dt with
      |none=>
       have a1:J (o=none):=jR.out.symm;clear jR iI;go_wp2_with fail;go_ret;exact .no a1.out kq.out
      |some cQ=>
       have pf:J (jm gm (f+1) cQ=o):=jR.out;have Cs:0≤cQ:=aiz _ sc (show jm (.cons true bd sub .nil) (f+1) m=some cQ from iI);have avD:cQ≤m:=(aiq (show jm (.cons true bd sub .nil) (f+1) m=some cQ from iI)).1;clear jR iI;go_wp2_with fail;go_round<;>first|exact⟨_,gm,cQ,j+1,_,rfl,xH.out,jn.out,by go_num,pf.out,Cs,by omega,Cr.out _ rfl,kq.out⟩|(simp[intOf]<;>omega)
   ·have a1:J (o=none):=(by show _=_;rw[←bl.out,Ep (Int.not_lt.2 zh.out) fp.out (show k≠6 from lJ) (v:=false) (by simp[ia,eA,ga,p5,zi,Yv])];rfl);clear bl;go_wp2_with fail;go_ret;exact .no a1.out iV.out
theorem J3(S:Jp)(b:dL)(s:bh)(pl:aya)(cl:Nat)(pp:aya)(cp:Nat)(w:bTo)(eF:J (dY S w pl cl pp cp ⟨b,s⟩))(v:Bool)(aS:J (okV ⟨b,s⟩=v)):
  Calls Tryz.prog 169 #[j0 b (ad pl b.l.length cl) (ad pp s.len cp)] w fun e w'=>e=bb (ai v)∧av w w w':=by
 obtain⟨k,⟨aA,aB⟩,⟨aU,aZ⟩,⟨cx,aP⟩,r,l⟩:=b;show Calls _ _ #[.agg #[I k,I aA,I aB,I aU,I aZ,I cx,I aP,I r,ad pl l.length cl,ad pp s.len cp]] w _;go_enter Tryz.func169,Tryz.ntmps169;go_wp2_with fail;obtain⟨W,a6⟩:=az ((w.alloc (aD (#[I k,I aA,I aB,I aU,I aZ,I cx,I aP,I r,ad pl l.length cl,ad pp s.len cp]) dh)).alloc (aD (#[I 1000]) uz))
 have a7:J (bo W (w.heap.size+1) (#[I 1000]) uz):=by
  show _=_;rw[←a6];have h:=cw (w.alloc (aD (#[I k,I aA,I aB,I aU,I aZ,I cx,I aP,I r,ad pl l.length cl,ad pp s.len cp]) dh)) (aD (#[I 1000]) uz)
  rwa [xE] at h
 have aH:J (av w w W):=by show Below _ _ _;rw[←a6];exact (ba _ _).trans ((ba _ _).mono (by rw[xE];omega))
 rw[a6];have dR:J (w.heap.size+1<W.heap.size):=lt_of_heap a7.out;clear a6;refine (aiA (s.count+1) s (Eo _) ⟨k,(aA,aB),(aU,aZ),(cx,aP),r,l⟩ 0 1000 (fun k=>S k∧k<w.heap.size) pl cl pp cp W (w.heap.size+1) _ (U fun k h=>by have:=h.2;omega) (by decide) (by decide) (by decide) a7 (eF.out.lt.below aH.out) (U rfl)).mono ?_;rintro e w' ⟨rfl,ab,_⟩;have cT:J (av w w w'):=aH.out.trans (ab.below _ aH.out.size fun k h=>by omega);clear ab;have p8:(kY ⟨k,(aA,aB),(aU,aZ),(cx,aP),r,l⟩ s 0 1000).isSome=v:=aS.out;rw[p8];go_wp2_with fail;go_ret;exact⟨rfl,cT.out⟩
theorem aiB(n:Int):bits .and .i64 n 3=n%4:=by
 have hm:(BitVec.ofInt 64 3).toNat=2^2-1:=by decide
 have key:(BitVec.ofInt 64 n&&&BitVec.ofInt 64 3).toNat=(n%((2^64:Nat):Int)).toNat%2^2:=by rw[Sg,Sh,hm,Si]
 show bT ((BitVec.ofInt 64 n&&&BitVec.ofInt 64 3).toNat:Nat)=n%4;rw[key,Sj];omega
abbrev p9:TypeId:=164
abbrev uC(t:hE):Value:=.agg #[ai t.bz,ai t.bK,I t.q,I t.fF.1,I t.fF.2]
theorem aiC(q k:Int)(ab:J (q%4=k))(w:bTo):
  Calls Tryz.prog 305 #[I q] w fun e w'=>e=bb (I k)∧w'=w:=by
 go_enter Tryz.func305,Tryz.ntmps305;go_wp2_with fail;go_ret;exact⟨fU ((aiB q).trans ab.out),rfl⟩
theorem c4{w:bTo}{i:Nat}{cs:agv}{t:aui}{ef:Nat×Nat}(u:ada)(h:w.heap[k]?=some (.cells cs t ef)):(w.setCell (ag k i) u).heap[k]?=some (.cells (cs.setIfInBounds i u) t ef):=by show (Array.modify _ _ _)[k]?=_;rw[Co,aT rfl,h];rfl
theorem Es{w:bTo}{a b:ada}(h:bo w k (#[a,b]) t):aw w k 0 a∧aw w k 1 b∧w.frozen? ⟨k,0,none⟩=false∧w.frozen? ⟨k,1,none⟩=false:=by refine⟨?_,?_,?_,?_⟩<;>simp[World.cell?,World.frozen?,h]
theorem uD{w:bTo}{a b c d e:ada}(h:bo w k (#[a,b,c,d,e]) t):aw w k 0 a∧aw w k 1 b∧aw w k 2 c∧aw w k 3 d∧aw w k 4 e:=by refine⟨?_,?_,?_,?_,?_⟩<;>simp[World.cell?,h]
theorem aiD{P:bTo→Prop}{w:bTo}{g:Nat}{a b u v:ada}(h:bo w g (#[a,b]) t)(k:∀fB,bo fB g (#[u,v]) t→aL (fun k=>k≠g) w fB→P fB):P ((w.setCell (ag g 0) u).setCell (ag g 1) v):=
 k _ (c4 _ (c4 _ h)) ((aL.set (a:=⟨g,0,none⟩) (fun h=>h rfl) _).trans (aL.set (a:=⟨g,1,none⟩) (fun h=>h rfl) _))
theorem AJ(t:hE)(bW bU:Int)(hx:-536870912≤bW∧bW≤536870912)(hy:-536870912≤bU∧bU≤536870912)(aa:e4 t.fF.1)(ah:e4 t.fF.2)(x y:Int)(hr:J (iU t (bW,bU)=(x,y)))(w:bTo):
  Calls Tryz.prog 261 #[.agg #[I bW,I bU],uC t] w fun e w'=>e=bb (.agg #[I x,I y])∧av w w w':=by
 obtain⟨bz,bK,q,aU,aZ⟩:=t;unfold e4 at aa ah;dsimp only at aa ah;obtain⟨k,ab⟩:=az (q%4);have cT:=U ab;have zi:k=0∨k=1∨k=2∨k=3:=by omega
 have dK:bT (-bW)= -bW:=b4 _ (by omega);have e':bT (-bU)= -bU:=b4 _ (by omega);have n3:bT bW=bW:=b4 _ (by omega);have n4:bT bU=bU:=b4 _ (by omega);have a':bT (bW+aU)=bW+aU:=b4 _ (by omega);have a2:bT (bU+aU)=bU+aU:=b4 _ (by omega);have a3:bT (-bW+aU)= -bW+aU:=b4 _ (by omega);have a4:bT (-bU+aU)= -bU+aU:=b4 _ (by omega);have a5:bT (bW+aZ)=bW+aZ:=b4 _ (by omega);have rj:bT (bU+aZ)=bU+aZ:=b4 _ (by omega);have pg:bT (-bW+aZ)= -bW+aZ:=b4 _ (by omega);have tr:bT (-bU+aZ)= -bU+aZ:=b4 _ (by omega);have aH:=U (And.intro (And.intro hx hy) (And.intro aa ah));clear hx hy aa ah ab;show Calls _ _ #[.agg #[I bW,I bU],.agg #[ai bz,ai bK,I q,I aU,I aZ]] w _;go_enter Tryz.func261,Tryz.ntmps261;go_upto_region 1 with fail
 go_quiet (fail)
 obtain⟨W,a6⟩:=az ((((w.alloc (aD (#[I bW,I bU]) eE)).alloc (aD (#[ai bz,ai bK,I q,I aU,I aZ]) p9)).alloc (aD (#[I 0,I 0]) eE)).drewN nq);have bB:J (av w w W∧bo W (w.heap.size+1) (#[ai bz,ai bK,I q,I aU,I aZ]) p9∧bo W (w.heap.size+1+1) (#[I 0,I 0]) eE):=by show _∧_;rw[←a6];obtain⟨_,ah,ax,sa,_⟩:=rb (w:=w) rfl;exact⟨gj sa nq,ah,ax⟩
 rw[a6];clear a6;obtain⟨t0,t1,t2,t3,t4⟩:=uD bB.out.2.1;obtain⟨jD,ie,f0,f1⟩:=Es bB.out.2.2;have J4:=lt_of_heap bB.out.2.2;cases bz<;>cases bK
 all_goals
  go_wp2_with fail;go_fit (aiC q k cT W);rintro e bE ⟨rfl,rfl⟩;rcases zi with rfl|rfl|rfl|rfl
  all_goals
   go_wp2_with fail;have hx:=hr.out;simp[iU,NL,el.flip,cT.out] at hx;refine aiD (P:=bodyPost _ _ _ _ _) bB.out.2.2 fun fB g1 g2=>?_;obtain⟨aJ,aI,_,_⟩:=Es g1;exact dH (v:=.agg #[I x,I y]) (by simp[results,Tryz.results261,go_sem,aJ,aI,hx]) rfl ⟨rfl,bB.out.1.trans (g2.below _ bB.out.1.size fun k ab e=>by omega)⟩
end dE
