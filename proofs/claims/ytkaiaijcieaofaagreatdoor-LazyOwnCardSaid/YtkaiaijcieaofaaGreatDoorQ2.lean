/- Lemmas. -/
import Derived.Test.YtkaiaijcieaofaaGreatDoorQ1
import Derived.Laws.BitsLemmas
import Derived.Laws.ResultCell
set_option linter.all false
set_option maxRecDepth 100000
set_option maxHeartbeats 12800000
namespace Go.Proofs.YtkaiaijcieaofaaGreatDoor
abbrev vU:=@Array.getElem?_modify
abbrev pw:=@List.drop_drop
abbrev lS:=@Nat.not_lt_zero
abbrev NJ:=@Proofs.Tryz.func184
abbrev NK:=@Proofs.Tryz.ntmps184
abbrev JB:=@Nat.lt_succ_self
abbrev Ag:=@BitVec.toNat_and
abbrev Ah:=@BitVec.toNat_ofInt
abbrev Ai:=@Nat.and_two_pow_sub_one_eq_mod
abbrev nE:=@IntKind.wrap_i64
abbrev cL:=@bodyPost_ret
abbrev vV:=@Array.getElem?_setIfInBounds_ne
abbrev Gy:=@Nat.add_zero
abbrev Gz:=@Array.getElem?_setIfInBounds_self_of_lt
abbrev xg:=@Array.size_setIfInBounds
abbrev GA:=@List.ext_getElem?
abbrev NL:=@List.getElem?_eq_none
abbrev NM:=@Array.ext_getElem?
abbrev jt:=@Nat.zero_add
abbrev Aj:=@Array.getElem?_eq_none
abbrev fS:=@congrArg
abbrev xh:=@List.take_take
abbrev yL:=@Nat.min_eq_left
abbrev D0:=@List.drop_take
abbrev JC:=@Sem.run_pure
abbrev Ak:=@Result.andThen_ok
namespace c1
open Go.RowKit ef
abbrev uD:TypeId:=3
def mv(b:dK)(s:bf)(f:Nat)(left:Int):Option Int:=ir (.cons true b s .nil) f left
theorem GB(a:Bool)(b:dK)(s r:bf)(f:Nat)(left:Int):ir (.cons a b s r) f left=
 if left<1∨uv b s.len=false then none
 else if b.k=6 then (if 8≤f then none else match ir s (f+1) (left-1) with
  |none=>none
  |some m=>ir r f m)
 else if jS b=true then ir r f (left-1) else none:=by rw[ir]<;>rfl
variable{b:dK}{s:bf}{f k q i:Nat}{left:Int}
theorem RR(h:left<1∨uv b s.len=false):mv b s f left=none:=by unfold mv;rw[GB,aW h]
theorem D1(h:¬left<1)(ay:uv b s.len=true)(aw:b.k≠6){v:Bool}(aS:jS b=v):mv b s f left=if v=true then some (left-1) else none:=by unfold mv;rw[GB,aN (by rw[ay];simp[h]),aN aw,aS];rfl
theorem Yc(h:¬left<1)(ay:uv b s.len=true)(aw:b.k=6):mv b s f left=if 8≤f then none else ir s (f+1) (left-1):=by
 unfold mv;rw[GB,aN (by rw[ay];simp[h]),aW aw];by_cases dM:8≤f
 ·rw[aW dM,aW dM]
 ·rw[aN dM,aN dM];cases h:ir s (f+1) (left-1)<;>rfl
theorem NN{a:Bool}{r:bf}:ir (.cons a b s r) f left=(mv b s f left).bind (fun m=>ir r f m):=by
 unfold mv;rw[GB,GB];split
 ·rfl
 ·split
  ·split
   ·rfl
   ·cases ir s (f+1) (left-1)<;>rfl
  ·split<;>rfl
theorem dQ{w:aeo}{v0 v1 v2 v3 v4 v5 v6 bS b0 v9:ada}{t:aai}(h:al w k (#[v0,v1,v2,v3,v4,v5,v6,bS,b0,v9]) t):
  ak w k 0 v0∧ak w k 1 v1∧ak w k 2 v2∧ak w k 3 v3∧ak w k 4 v4∧ak w k 5 v5∧ak w k 6 v6∧ak w k 7 bS∧ak w k 8 b0∧ak w k 9 v9:=by
 refine⟨?_,?_,?_,?_,?_,?_,?_,?_,?_,?_⟩<;>simp[World.cell?,h]
theorem ahJ{w:aeo}{n:Int}(h:al w k (#[I n]) uD):ak w k 0 (I n)∧w.frozen? ⟨k,0,none⟩=false:=by
 constructor
 ·simp[World.cell?,h]
 ·simp[World.frozen?,h]
theorem ahK{w:aeo}{n:Int}(m:Int)(h:al w k (#[I n]) uD):(w.setCell (aj k 0) (I m)).heap[k]?=some (.cells #[I m] uD):=by show (Array.modify _ _ _)[k]?=_;rw[vU,aW rfl,h];rfl
variable{p:b7}
theorem vW(h:gU p=true):(-536870912≤p.1∧p.1≤536870912)∧-536870912≤p.2∧p.2≤536870912:=by simp only[gU,qv,p0] at h;omega
theorem RS(h:(-536870912≤p.1∧p.1≤536870912)∧-536870912≤p.2∧p.2≤536870912):e5 p.1∧e5 p.2:=by unfold e5;omega
theorem Yd{q:b7}(h:(-536870912≤p.1∧p.1≤536870912)∧-536870912≤p.2∧p.2≤536870912)(g:(-536870912≤q.1∧q.1≤536870912)∧-536870912≤q.2∧q.2≤536870912):oQ (p.1-q.1):=by unfold oQ;omega
theorem Ye{q:b7}(h:(-536870912≤p.1∧p.1≤536870912)∧-536870912≤p.2∧p.2≤536870912)(g:(-536870912≤q.1∧q.1≤536870912)∧-536870912≤q.2∧q.2≤536870912):oQ (p.2-q.2):=by unfold oQ;omega
theorem Yf:∀(p:bf) {f:Nat} {n k:Int},0≤n→ir p f n=some k→0≤k:=by
 intro p
 induction p with
 |nil=>intro f n k hn aw;simp only[ir,r0] at aw;omega
 |cons a b s r DP yF=>
  intro f n k hn aw;rw[GB] at aw;split at aw
  ·cases aw
  ·rename_i aF;split at aw
   ·split at aw
    ·cases aw
    ·split at aw
     ·cases aw
     ·rename_i j b6;exact yF (DP (by omega) b6) aw
   ·split at aw
    ·exact yF (by omega) aw
    ·cases aw
theorem da.drop{S:afp}{w:aeo}{r:bf}:∀{p:bf} {xs:aev},da S w (p.append r) xs→da S w r (xs.drop (p.len *11))
 |.nil,xs,h=>h
 |.cons a b s t,xs,h=>by
  have ax:=da.drop (p:=t) (r:=r) (xs:=xs.drop 11) h.2;rw[pw] at ax
  rwa [show (bf.cons a b s t).len *11=11+t.len *11 by simp only[bf.len];omega]
theorem hO.part{S:afp}{w:aeo}{p:Ja}{pre:bf}{a:Bool}{r:bf}{n:Nat}(h:hO S w p (pre.append (.cons a b s r)))(hn:pre.len=n):
  ∃(k o:Nat) (pl:Ja) (cl:Nat) (pp:Ja) (cp:Nat),p=some ⟨k,o,none⟩∧k<w.heap.size∧S k∧dw S w pl cl pp cp ⟨b,s⟩∧
   ak w k (o+n *11) (U a)∧ak w k (o+n *11+1) (I b.k)∧ak w k (o+n *11+2) (I b.a.1)∧ak w k (o+n *11+3) (I b.a.2)∧ak w k (o+n *11+4) (I b.b.1)∧ak w k (o+n *11+5) (I b.b.2)∧ak w k (o+n *11+6) (I b.c.1)∧ak w k (o+n *11+7) (I b.c.2)∧ak w k (o+n *11+8) (I b.r)∧ak w k (o+n *11+9) (ad pl b.l.length cl)∧ak w k (o+n *11+10) (ad pp s.len cp):=by
 subst hn;obtain⟨k,o,cs,rfl,hS,aE,hp⟩:=h.2 (by rw[bf.uw];simp only[bf.len];omega);have ax:=hp.drop;rw[pw] at ax;obtain⟨pl,cl,pp,cp,aA,hs⟩:=ax.head;obtain⟨aV,aT,c2,c3,cD,c5,cX,c7,dj,bB,di⟩:=X0 aA;refine⟨k,o,pl,cl,pp,cp,rfl,lt_of_heap aE,hS,hs,?_,?_,?_,?_,?_,?_,?_,?_,?_,?_,?_⟩<;>simp only[World.cell?, *]<;>rfl
def D2(q:Nat)(w:aeo)(o:Option Int)(e:Ending)(w':aeo):Prop:=e=ab (U o.isSome)∧aK (fun k=>k≠q) w w'∧∀m,o=some m→al w' q (#[I m]) uD
variable{o:Option Int}
theorem D2.no{w w':aeo}(h:o=none)(aw:aK (fun k=>k≠q) w w'):D2 q w o (ab (U false)) w':=by subst h;exact⟨rfl,aw,fun m hm=>by cases hm⟩
theorem D2.yes{w w':aeo}{m:Int}(h:o=some m)(aw:aK (fun k=>k≠q) w w')(aG:al w' q (#[I m]) uD):D2 q w o (ab (U true)) w':=by subst h;exact⟨rfl,aw,fun n hn=>by cases hn;exact aG⟩
theorem D2.is{w w':aeo}{m:Int}{v:Bool}(h:o=if v=true then some m else none)(aw:aK (fun k=>k≠q) w w')(aG:al w' q (#[I m]) uD):D2 q w o (ab (U v)) w':=by
 cases v
 ·exact .no h aw
 ·exact .yes h aw aG
theorem ahL(N:Nat):∀(s:bf),s.count<N→∀(b:dK) (f:Nat) (left:Int) (S:afp) (pl:Ja) (cl:Nat) (pp:Ja) (cp:Nat) (w:aeo) (q:Nat) (o:Option Int),
  af (∀k,S k→k≠q)→f≤8→-1000000≤left→left≤1000000→af (al w q (#[I left]) uD)→af (dw S w pl cl pp cp ⟨b,s⟩)→af (mv b s f left=o)→
  Calls Tryz.prog 184 #[jc b (ad pl b.l.length cl) (ad pp s.len cp),I f,ah q 0] w (D2 q w o):=by
 induction N with
 |zero=>intro s hs;exact absurd hs (lS _)
 |succ N cU=>
 intro s hs b f left S pl cl pp cp w q o RT hf NH lq aG ff a1;obtain⟨k,⟨a7,a'⟩,⟨aX,a8⟩,⟨cx,bA⟩,r,l⟩:=b;have JD:=ao cU;have bH:=ao hs;clear cU hs;obtain⟨eB,bI⟩:=ahJ aG.out;have bm:=lt_of_heap aG.out;have th:=ao bm;show Calls _ _ #[.agg #[I k,I a7,I a',I aX,I a8,I cx,I bA,I r,ad pl l.length cl,ad pp s.len cp],I f,ah q 0] w _;by_cases hle:left<1
 ·have bd:af (o=none):=(by show _=_;rw[←a1.out];exact RR (.inl hle));clear a1;go_enter NJ,NK;go_wp2_with fail;go_ret;exact .no bd.out (.alloc _ _ _)
 ·have Yb:1≤left:=(by omega);have yM:=ao Yb;have hw:ae (left-1)=left-1:=gw _ (by omega);go_enter NJ,NK;go_upto_region 4 with fail;obtain⟨W,cP⟩:=aq ((w.setCell (aj q 0) (I (left-1))).alloc (ai (#[I k,I a7,I a',I aX,I a8,I cx,I bA,I r,ad pl l.length cl,ad pp s.len cp]) cQ))
  have fy:af (al W w.heap.size (#[I k,I a7,I a',I aX,I a8,I cx,I bA,I r,ad pl l.length cl,ad pp s.len cp]) cQ):=by
   show _=_;rw[←cP];have h:=cR (w.setCell (aj q 0) (I (left-1))) (ai (#[I k,I a7,I a',I aX,I a8,I cx,I bA,I r,ad pl l.length cl,ad pp s.len cp]) cQ)
   rwa [show (w.setCell (aj q 0) (I (left-1))).heap.size=w.heap.size by simp] at h
  have bn:af (al W q (#[I (left-1)]) uD):=(by show _=_;rw[←cP];exact ba (ahK _ aG.out) (bh _ _));have en:af (aK (fun k=>k≠q) w W):=(by show aK _ _ _;rw[←cP];exact (aK.set (fun h=>h rfl) _).trans (.alloc _ _ _));rw[cP];clear cP eB bI bm;obtain⟨g0,g1,g2,g3,g4,g5,g6,g7,g8,g9⟩:=dQ fy.out;go_wp2_with fail;with_reducible refine (aht k a7 a' aX a8 cx bA r pl pp l.length s.len cl cp W).mono ?_
  rintro e bk ⟨rfl,cj⟩;have NO:=ao (ba fy.out cj);have rm:=ao (ba bn.out cj);have iV:=ao (en.out.trans (.c4 cj));obtain⟨mu,D3⟩:=aq (Ny k (a7,a') (aX,a8) (cx,bA) r l.length s.len);rw[D3];have cE:af (uv ⟨k,(a7,a'),(aX,a8),(cx,bA),r,l⟩ s.len=mu):=D3;clear g0 g1 g2 g3 g4 g5 g6 g7 g8 g9 fy bn en cj D3;obtain⟨g0,g1,g2,g3,g4,g5,g6,g7,g8,g9⟩:=dQ NO.out;have Al:=lt_of_heap NO.out;cases mu with
  |false=>
   have bd:af (o=none):=(by show _=_;rw[←a1.out];exact RR (.inr cE.out));clear a1;go_wp2_with fail;go_ret;exact .no bd.out iV.out
  |true=>
   by_cases eM:k=1
   ·subst eM;have bE:af (o=if jS (⟨1,(a7,a'),(aX,a8),(cx,bA),r,l⟩:dK)=true then some (left-1) else none):=(by show _=_;rw[←a1.out];exact D1 (Int.not_lt.2 yM.out) cE.out (show (1:Int)≠6 by decide) rfl);clear a1;go_wp2_with fail;refine (uy (a7,a') _).mono ?_;rintro e bt ⟨rfl,rfl⟩;obtain⟨f0,px⟩:=aq (gU (a7,a'));rw[px];have m':=ao px;clear px;cases f0 with
    |false=>
     have bd:af (o=none):=(by show _=_;rw[bE.out];simp[jS,m'.out]);clear bE;go_wp2_with fail;go_ret;exact .no bd.out (iV.out.trans (.alloc _ _ _))
    |true=>
     go_wp2_with fail;refine (DQ r _).mono ?_;rintro e db ⟨rfl,rfl⟩;obtain⟨f1,oS⟩:=aq (yE r);rw[oS];have kn:=ao oS;clear oS;have bd:af (o=if f1=true then some (left-1) else none):=(by show _=_;rw[bE.out];simp[jS,m'.out,kn.out]);clear bE;go_wp2_with fail;go_ret;exact .is bd.out (iV.out.trans (.alloc _ _ _)) (ba rm.out (bh _ _))
   by_cases jE:k=2
   ·subst jE;have bE:af (o=if jS (⟨2,(a7,a'),(aX,a8),(cx,bA),r,l⟩:dK)=true then some (left-1) else none):=(by show _=_;rw[←a1.out];exact D1 (Int.not_lt.2 yM.out) cE.out (show (2:Int)≠6 by decide) rfl);clear a1;have ei:af (iS S bk pl l):=ff.out.l.keep (iV.out.mono fun k _ h=>RT.out k h);go_wp2_with fail;refine (ahH S pl l l.length cl rfl bk ei (Gl l) (ao rfl)).mono ?_;rintro e bt ⟨rfl,ck⟩;have gW:=ao (iV.out.trans (.c4 ck));have RU:=ao (ba rm.out ck);clear ck;go_wp2_with fail;go_ret;exact .is bE.out gW.out RU.out
   by_cases ih:k=3
   ·subst ih;have bE:af (o=if jS (⟨3,(a7,a'),(aX,a8),(cx,bA),r,l⟩:dK)=true then some (left-1) else none):=(by show _=_;rw[←a1.out];exact D1 (Int.not_lt.2 yM.out) cE.out (show (3:Int)≠6 by decide) rfl);clear a1;go_wp2_with fail;refine (uy (a7,a') _).mono ?_;rintro e bt ⟨rfl,rfl⟩;obtain⟨f0,px⟩:=aq (gU (a7,a'));rw[px];have m':=ao px;clear px;cases f0 with
    |false=>
     have bd:af (o=none):=(by show _=_;rw[bE.out];simp[jS,m'.out]);clear bE;go_wp2_with fail;go_ret;exact .no bd.out (iV.out.trans (.alloc _ _ _))
    |true=>
     go_wp2_with fail;refine (uy (aX,a8) _).mono ?_;rintro e db ⟨rfl,rfl⟩;obtain⟨f1,oS⟩:=aq (gU (aX,a8));rw[oS];have kn:=ao oS;clear oS;cases f1 with
     |false=>
      have bd:af (o=none):=(by show _=_;rw[bE.out];simp[jS,m'.out,kn.out]);clear bE;go_wp2_with fail;go_ret;exact .no bd.out ((iV.out.trans (.alloc _ _ _)).trans (.alloc _ _ _))
     |true=>
      go_wp2_with fail;refine (DQ r _).mono ?_;rintro e bZ ⟨rfl,rfl⟩;obtain⟨f2,rn⟩:=aq (yE r);rw[rn];have fp:=ao rn;clear rn;have bd:af (o=if f2=true then some (left-1) else none):=(by show _=_;rw[bE.out];simp[jS,m'.out,kn.out,fp.out]);clear bE;go_wp2_with fail;go_ret;exact .is bd.out ((iV.out.trans (.alloc _ _ _)).trans (.alloc _ _ _)) (ba (ba rm.out (bh _ _)) (bh _ _))
   by_cases vX:k=4
   ·subst vX;have bE:af (o=if jS (⟨4,(a7,a'),(aX,a8),(cx,bA),r,l⟩:dK)=true then some (left-1) else none):=(by show _=_;rw[←a1.out];exact D1 (Int.not_lt.2 yM.out) cE.out (show (4:Int)≠6 by decide) rfl);clear a1;go_wp2_with fail;refine (uy (a7,a') _).mono ?_;rintro e bt ⟨rfl,rfl⟩;obtain⟨f0,px⟩:=aq (gU (a7,a'));rw[px];have m':=ao px;clear px;cases f0 with
    |false=>
     have bd:af (o=none):=(by show _=_;rw[bE.out];simp[jS,m'.out]);clear bE;go_wp2_with fail;go_ret;exact .no bd.out (iV.out.trans (.alloc _ _ _))
    |true=>
     go_wp2_with fail;refine (uy (aX,a8) _).mono ?_;rintro e db ⟨rfl,rfl⟩;obtain⟨f1,oS⟩:=aq (gU (aX,a8));rw[oS];have kn:=ao oS;clear oS;cases f1 with
     |false=>
      have bd:af (o=none):=(by show _=_;rw[bE.out];simp[jS,m'.out,kn.out]);clear bE;go_wp2_with fail;go_ret;exact .no bd.out ((iV.out.trans (.alloc _ _ _)).trans (.alloc _ _ _))
     |true=>
      go_wp2_with fail;refine (DQ r _).mono ?_;rintro e bZ ⟨rfl,rfl⟩;obtain⟨f2,rn⟩:=aq (yE r);rw[rn];have fp:=ao rn;clear rn;cases f2 with
      |false=>
       have bd:af (o=none):=(by show _=_;rw[bE.out];simp[jS,m'.out,kn.out,fp.out]);clear bE;go_wp2_with fail;go_ret;exact .no bd.out ((iV.out.trans (.alloc _ _ _)).trans (.alloc _ _ _))
      |true=>
       obtain⟨f3,GC⟩:∃x:Bool,decide ((a7,a')≠(aX,a8))=x:=⟨_,rfl⟩;have r6:=ao GC;clear GC;have bd:af (o=if f3=true then some (left-1) else none):=(by show _=_;rw[bE.out,←r6.out];simp[jS,m'.out,kn.out,fp.out]);clear bE;go_wp2_with fail
       all_goals
        go_ret;refine .is (by rw[bd.out,←r6.out];grind) ((iV.out.trans (.alloc _ _ _)).trans (.alloc _ _ _)) (ba (ba rm.out (bh _ _)) (bh _ _))
   by_cases uE:k=5
   ·subst uE;have bE:af (o=if jS (⟨5,(a7,a'),(aX,a8),(cx,bA),r,l⟩:dK)=true then some (left-1) else none):=(by show _=_;rw[←a1.out];exact D1 (Int.not_lt.2 yM.out) cE.out (show (5:Int)≠6 by decide) rfl);clear a1;go_wp2_with fail;refine (uy (a7,a') _).mono ?_;rintro e bt ⟨rfl,rfl⟩;obtain⟨f0,px⟩:=aq (gU (a7,a'));rw[px];have m':=ao px;clear px;cases f0 with
    |false=>
     have bd:af (o=none):=(by show _=_;rw[bE.out];simp[jS,m'.out]);clear bE;go_wp2_with fail;go_ret;exact .no bd.out (iV.out.trans (.alloc _ _ _))
    |true=>
     go_wp2_with fail;refine (uy (aX,a8) _).mono ?_;rintro e db ⟨rfl,rfl⟩;obtain⟨f1,oS⟩:=aq (gU (aX,a8));rw[oS];have kn:=ao oS;clear oS;cases f1 with
     |false=>
      have bd:af (o=none):=(by show _=_;rw[bE.out];simp[jS,m'.out,kn.out]);clear bE;go_wp2_with fail;go_ret;exact .no bd.out ((iV.out.trans (.alloc _ _ _)).trans (.alloc _ _ _))
     |true=>
      go_wp2_with fail;refine (uy (cx,bA) _).mono ?_;rintro e bZ ⟨rfl,rfl⟩;obtain⟨f2,rn⟩:=aq (gU (cx,bA));rw[rn];have ko:af (aK (fun k=>k≠q) w (((bk.alloc (j7 (a7,a'))).alloc (j7 (aX,a8))).alloc (j7 (cx,bA)))):=(((iV.out.trans (.alloc _ _ _)).trans (.alloc _ _ _)).trans (.alloc _ _ _));have Yg:af ((((bk.alloc (j7 (a7,a'))).alloc (j7 (aX,a8))).alloc (j7 (cx,bA))).heap[q]?=some (.cells #[I (left-1)] uD)):=(ba (ba (ba rm.out (bh _ _)) (bh _ _)) (bh _ _));have RV:af ((((bk.alloc (j7 (a7,a'))).alloc (j7 (aX,a8))).alloc (j7 (cx,bA))).heap[w.heap.size]?=some (.cells #[I 5,I a7,I a',I aX,I a8,I cx,I bA,I r,ad pl l.length cl,ad pp s.len cp] cQ)):=ba (ba (ba NO.out (bh _ _)) (bh _ _)) (bh _ _);clear g0 g1 g2 g3 g4 g5 g6 g7 g8 g9 Al NO rm iV;generalize ((bk.alloc (j7 (a7,a'))).alloc (j7 (aX,a8))).alloc (j7 (cx,bA))=GD at ko Yg RV⊢;obtain⟨g0,g1,g2,g3,g4,g5,g6,g7,g8,g9⟩:=dQ RV.out;have Al:=lt_of_heap RV.out;have fp:=ao rn;clear rn;cases f2 with
      |false=>
       have bd:af (o=none):=(by show _=_;rw[bE.out];simp[jS,m'.out,kn.out,fp.out]);clear bE;go_wp2_with fail;go_ret;exact .no bd.out ko.out
      |true=>
       go_wp2_with fail;refine (DQ r _).mono ?_;rintro e br ⟨rfl,rfl⟩;obtain⟨f3,GC⟩:=aq (yE r);rw[GC];have r6:=ao GC;clear GC;cases f3 with
       |false=>
        have bd:af (o=none):=(by show _=_;rw[bE.out];simp[jS,m'.out,kn.out,fp.out,r6.out]);clear bE;go_wp2_with fail;go_ret;exact .no bd.out ko.out
       |true=>
        go_wp2_with fail;obtain⟨f4,RW⟩:=aq (Ab (cx,bA) (a7,a') (aX,a8));have jf:=vW m'.out;have h2:=vW kn.out;have h3:=vW fp.out;refine (X6 (cx,bA) (a7,a') (aX,a8) (RS h3) (RS jf) (RS h2) (Yd jf h3) (Ye jf h3) (Yd h2 h3) (Ye h2 h3) f4 (ao RW) _).mono ?_;rintro e b' ⟨rfl,dR⟩;have gW:=ao (ko.out.trans (.c4 dR));have RU:=ao (ba Yg.out dR);clear dR jf h2 h3;have r7:=ao RW;clear RW;have bd:af (o=if f4=true then some (left-1) else none):=(by show _=_;rw[bE.out];simp[jS,m'.out,kn.out,fp.out,r6.out,r7.out]);clear bE;go_wp2_with fail;go_ret;exact .is bd.out gW.out RU.out
   by_cases qy:k=6
   ·subst qy;have bE:af ((if 8≤f then none else ir s (f+1) (left-1))=o):=(by show _=_;rw[←a1.out];exact (Yc (Int.not_lt.2 yM.out) cE.out rfl).symm);clear a1;by_cases dM:8≤f
    ·have bd:af (o=none):=(by show _=_;rw[←bE.out,aW dM]);have Yh:(8:Int)≤(f:Int):=(by omega);clear bE;go_wp2_with fail;go_ret;exact .no bd.out iV.out
    ·have ju:af (ir s (f+1) (left-1)=o):=(by show _=_;rw[←bE.out,aN dM]);have Yh:(f:Int)<8:=(by omega);have oS:ae ((f:Int)+1)=((f+1:Nat):Int):=(by rw[gw _ (by omega)];omega);have kn:=ao oS;have r8:=ao (show s.len≤1000000000 from ff.out.p.1);have xi:=r8.out;obtain⟨n,hn⟩:=aq s.len;have r9:=ao hn;rw[hn] at xi g9⊢;clear bE hn oS;go_wp2_with fail
     go_loopw [111] (fun i wr=>∃(pre gp:bf) (m:Int) (j:Nat) (aL:aeo),aL=wr∧af (s=pre.append gp)∧af (pre.len=j)∧i=I j∧af (ir gp (f+1) m=o)∧0≤m∧m≤1000000∧af (al aL q (#[I m]) uD)∧af (aK (fun k=>k≠q) w aL)) (fun i _=>n -(intOf i).toNat)
     case atStart=>exact⟨.nil,s,left-1,0,_,rfl,rfl,rfl,rfl,ju.out,by omega,by omega,rm.out,iV.out⟩
     case round=>
     obtain⟨pre,gp,m,j,aL,rfl,lr,kK,rfl,cM,ti,fX,Yi,RX⟩:=hrel;cases gp with
     |nil=>
      have p4:j=n:=(by rw[←r9.out,←kK.out,lr.out,bf.append_nil]);have bd:af (o=some m):=cM.out.symm;subst p4;go_wp2_with fail;go_ret;exact .yes bd.out RX.out Yi.out
     |cons a b1 sub j'=>
      have tj:j<n:=(by rw[←r9.out,←kK.out,lr.out,bf.uw];simp only[bf.len];omega);have Yj:(j:Int)<(n:Int):=(by omega);have kN:hO S aL pp (pre.append (.cons a b1 sub j')):=(by rw[←lr.out];exact ff.out.p.keep (RX.out.mono fun k _ h=>RT.out k h));obtain⟨ea,eS,ql,dl,qp,cf,rfl,py,_,p5,aV,aT,c2,c3,cD,c5,cX,c7,dj,bB,di⟩:=kN.part kK.out;have GF:=ao p5;have oS:=kn.out;clear kN p5;go_wp2_with fail;obtain⟨ek,jv⟩:=aq (mv b1 sub (f+1) m);have xj:=ao jv;have vY:af (ek.bind (fun ey=>ir j' (f+1) ey)=o):=(by show _=_;rw[←cM.out,NN,jv]);have hH:sub.count<N:=(by have au:=bH.out;rw[lr.out,bf.count_append] at au;simp only[bf.count] at au;omega);have RY:af (s=(pre.append (.cons a b1 sub .nil)).append j'):=(by show _=_;rw[lr.out,bf.append_assoc];rfl);have uC:af ((pre.append (.cons a b1 sub .nil)).len=j+1):=(by show _=_;rw[bf.uw,kK.out];rfl);refine (JD.out sub hH b1 (f+1) m S ql dl qp cf _ q ek RT (by omega) (by omega) fX (ba Yi.out (bh _ _)) (GF.out.below (bh _ _)) xj).mono ?_;rintro e db ⟨rfl,ih,Yk⟩;have jw:=ao ((RX.out.trans (.alloc _ _ _)).trans ih);have Am:=ao Yk;clear ih Yk;cases ek with
      |none=>
       have bd:af (o=none):=vY.out.symm;clear vY jv;go_wp2_with fail;go_ret;exact .no bd.out jw.out
      |some ey=>
       have pz:af (ir j' (f+1) ey=o):=vY.out;have r':0≤ey:=Yf _ ti (show ir (.cons true b1 sub .nil) (f+1) m=some ey from jv);have aul:ey≤m:=(RD (show ir (.cons true b1 sub .nil) (f+1) m=some ey from jv)).1;clear vY jv;go_wp2_with fail;go_round<;>first|exact⟨_,j',ey,j+1,_,rfl,RY.out,uC.out,by go_num,pz.out,r',by omega,Am.out _ rfl,jw.out⟩|(simp[intOf]<;>omega)
   ·have bd:af (o=none):=(by show _=_;rw[←a1.out,D1 (Int.not_lt.2 yM.out) cE.out (show k≠6 from qy) (v:=false) (by simp[jS,eM,jE,ih,vX,uE])];rfl);clear a1;go_wp2_with fail;go_ret;exact .no bd.out iV.out
theorem JE(S:afp)(b:dK)(s:bf)(pl:Ja)(cl:Nat)(pp:Ja)(cp:Nat)(w:aeo)(ff:af (dw S w pl cl pp cp ⟨b,s⟩))(v:Bool)(aS:af (okV ⟨b,s⟩=v)):
  Calls Tryz.prog 161 #[jc b (ad pl b.l.length cl) (ad pp s.len cp)] w fun e w'=>e=ab (U v)∧an w w w':=by
 obtain⟨k,⟨a7,a'⟩,⟨aX,a8⟩,⟨cx,bA⟩,r,l⟩:=b;show Calls _ _ #[.agg #[I k,I a7,I a',I aX,I a8,I cx,I bA,I r,ad pl l.length cl,ad pp s.len cp]] w _;go_enter Tryz.func161,Tryz.ntmps161;go_wp2_with fail;obtain⟨W,cP⟩:=aq ((w.alloc (ai (#[I k,I a7,I a',I aX,I a8,I cx,I bA,I r,ad pl l.length cl,ad pp s.len cp]) cQ)).alloc (ai (#[I 1000]) uD))
 have bn:af (al W (w.heap.size+1) (#[I 1000]) uD):=by
  show _=_;rw[←cP];have h:=cR (w.alloc (ai (#[I k,I a7,I a',I aX,I a8,I cx,I bA,I r,ad pl l.length cl,ad pp s.len cp]) cQ)) (ai (#[I 1000]) uD)
  rwa [s8] at h
 have aH:af (an w w W):=by show Below _ _ _;rw[←cP];exact (bh _ _).trans ((bh _ _).mono (by rw[s8];omega))
 rw[cP];have ei:af (w.heap.size+1<W.heap.size):=lt_of_heap bn.out;clear cP;refine (ahL (s.count+1) s (JB _) ⟨k,(a7,a'),(aX,a8),(cx,bA),r,l⟩ 0 1000 (fun k=>S k∧k<w.heap.size) pl cl pp cp W (w.heap.size+1) _ (ao fun k h=>by have:=h.2;omega) (by decide) (by decide) (by decide) bn (ff.out.lt.below aH.out) (ao rfl)).mono ?_;rintro e w' ⟨rfl,aw,_⟩;have en:af (an w w w'):=aH.out.trans (aw.below _ aH.out.size fun k h=>by omega);clear aw;have xk:(mv ⟨k,(a7,a'),(aX,a8),(cx,bA),r,l⟩ s 0 1000).isSome=v:=aS.out;rw[xk];go_wp2_with fail;go_ret;exact⟨rfl,en.out⟩
theorem ahM(n:Int):bits .and .i64 n 3=n%4:=by
 have hm:(BitVec.ofInt 64 3).toNat=2^2-1:=by decide
 have key:(BitVec.ofInt 64 n&&&BitVec.ofInt 64 3).toNat=(n%((2^64:Nat):Int)).toNat%2^2:=by rw[Ag,Ah,hm,Ai]
 show ae ((BitVec.ofInt 64 n&&&BitVec.ofInt 64 3).toNat:Nat)=n%4;rw[key,nE];omega
abbrev pA:TypeId:=136
abbrev rp(t:gj):Value:=.agg #[U t.bx,U t.bO,I t.q,I t.eI.1,I t.eI.2]
abbrev JF(t:gj):Obj:=.cells #[U t.bx,U t.bO,I t.q,I t.eI.1,I t.eI.2] pA
theorem ahN(q k:Int)(aw:af (q%4=k))(w:aeo):
  Calls Tryz.prog 229 #[I q] w fun e w'=>e=ab (I k)∧w'=w:=by
 go_enter Tryz.func229,Tryz.ntmps229;go_wp2_with fail;go_ret;exact⟨Gr ((ahM q).trans aw.out),rfl⟩
variable{cs:ajv}
theorem dt{w:aeo}{t:aai}{dk:Nat×Nat}(u:ada)(h:w.heap[k]?=some (.cells cs t dk)):(w.setCell (aj k i) u).heap[k]?=some (.cells (cs.setIfInBounds i u) t dk):=by show (Array.modify _ _ _)[k]?=_;rw[vU,aW rfl,h];rfl
theorem NP{w:aeo}{a b:ada}{t:aai}(h:al w k (#[a,b]) t):ak w k 0 a∧ak w k 1 b∧w.frozen? ⟨k,0,none⟩=false∧w.frozen? ⟨k,1,none⟩=false:=by refine⟨?_,?_,?_,?_⟩<;>simp[World.cell?,World.frozen?,h]
theorem uF{w:aeo}{a b c d e:ada}{t:aai}(h:al w k (#[a,b,c,d,e]) t):ak w k 0 a∧ak w k 1 b∧ak w k 2 c∧ak w k 3 d∧ak w k 4 e:=by refine⟨?_,?_,?_,?_,?_⟩<;>simp[World.cell?,h]
theorem ahO{P:aeo→Prop}{w:aeo}{g:Nat}{a b u v:ada}{t:aai}(h:al w g (#[a,b]) t)(k:∀cZ,al cZ g (#[u,v]) t→aK (fun k=>k≠g) w cZ→P cZ):P ((w.setCell (aj g 0) u).setCell (aj g 1) v):=
 k _ (dt _ (dt _ h)) ((aK.set (a:=⟨g,0,none⟩) (fun h=>h rfl) _).trans (aK.set (a:=⟨g,1,none⟩) (fun h=>h rfl) _))
theorem rq(t:gj)(gm gn:Int)(hx:-536870912≤gm∧gm≤536870912)(hy:-536870912≤gn∧gn≤536870912)(au:e5 t.eI.1)(ax:e5 t.eI.2)(x y:Int)(hr:af (fI t (gm,gn)=(x,y)))(w:aeo):
  Calls Tryz.prog 206 #[.agg #[I gm,I gn],rp t] w fun e w'=>e=ab (.agg #[I x,I y])∧an w w w':=by
 obtain⟨bx,bO,q,aX,a8⟩:=t;unfold e5 at au ax;dsimp only at au ax;obtain⟨k,aw⟩:=aq (q%4);have en:=ao aw;have vX:k=0∨k=1∨k=2∨k=3:=by omega
 have eG:ae (-gm)= -gm:=gw _ (by omega);have fT:ae (-gn)= -gn:=gw _ (by omega);have n3:ae gm=gm:=gw _ (by omega);have n4:ae gn=gn:=gw _ (by omega);have ew:ae (gm+aX)=gm+aX:=gw _ (by omega);have a2:ae (gn+aX)=gn+aX:=gw _ (by omega);have a3:ae (-gm+aX)= -gm+aX:=gw _ (by omega);have a4:ae (-gn+aX)= -gn+aX:=gw _ (by omega);have a5:ae (gm+a8)=gm+a8:=gw _ (by omega);have rr:ae (gn+a8)=gn+a8:=gw _ (by omega);have pB:ae (-gm+a8)= -gm+a8:=gw _ (by omega);have tk:ae (-gn+a8)= -gn+a8:=gw _ (by omega);have aH:=ao (And.intro (And.intro hx hy) (And.intro au ax));clear hx hy au ax aw;show Calls _ _ #[.agg #[I gm,I gn],.agg #[U bx,U bO,I q,I aX,I a8]] w _;go_enter Tryz.func206,Tryz.ntmps206;go_upto_region 1 with fail
 go_quiet (fail)
 obtain⟨W,cP⟩:=aq ((((w.alloc (ai (#[I gm,I gn]) de)).alloc (ai (#[U bx,U bO,I q,I aX,I a8]) pA)).alloc (ai (#[I 0,I 0]) de)).drewN nq);have bN:af (an w w W∧al W (w.heap.size+1) (#[U bx,U bO,I q,I aX,I a8]) pA∧al W (w.heap.size+1+1) (#[I 0,I 0]) de):=by show _∧_;rw[←cP];obtain⟨_,ax,aA,DT,_⟩:=DS (w:=w) rfl;exact⟨iu DT nq,ax,aA⟩
 rw[cP];clear cP;obtain⟨t0,t1,t2,t3,t4⟩:=uF bN.out.2.1;obtain⟨du,dI,f0,f1⟩:=NP bN.out.2.2;have RZ:=lt_of_heap bN.out.2.2;cases bx<;>cases bO
 all_goals
  go_wp2_with fail;with_reducible refine (ahN q k en W).mono ?_
  rintro e bk ⟨rfl,rfl⟩;rcases vX with rfl|rfl|rfl|rfl
  all_goals
   go_wp2_with fail;have hx:=hr.out;simp[fI,Nv,ef.flip,en.out] at hx;refine ahO (P:=bodyPost _ _ _ _ _) bN.out.2.2 fun cZ g1 g2=>?_;obtain⟨aV,aT,_,_⟩:=NP g1;exact cL (v:=.agg #[I x,I y]) (by simp[results,Tryz.results206,go_sem,aV,aT,hx]) rfl ⟨rfl,bN.out.1.trans (g2.below _ bN.out.1.size fun k aw e=>by omega)⟩
theorem lT{w:aeo}{j:Nat}{u:ada}(h:k≠j):(w.setCell (aj j i) u).heap[k]?=w.heap[k]?:=hC _ _ _ _ h
theorem R0(w:aeo)(a:Addr)(u:ada):(w.setCell a u).heap.size=w.heap.size:=by simp[World.setCell]
theorem cell_of{w:aeo}{t:aai}{v:ada}(h:al w k cs t)(aS:cs[i]?=some v):ak w k i v:=by simp[World.cell?,h,aS]
def ij(w:aeo)(b:Nat):Nat→aev→World
 |_,[]=>w
 |m,v::vs=>ij (w.setCell (aj b m) v) b (m+1) vs
def sa(cs:ajv):Nat→aev→Array Value
 |_,[]=>cs
 |m,v::vs=>sa (cs.setIfInBounds m v) (m+1) vs
theorem GG{b:Nat}{t:aai}:∀(vs:aev) {w:aeo} {cs:ajv} {m:Nat},al w b cs t→(ij w b m vs).heap[b]?=some (.cells (sa cs m vs) t)
 |[],_,_,_,h=>h
 |v::vs,_,_,_,h=>GG vs (dt v h)
theorem JG{b k:Nat}(aw:k≠b):∀(vs:aev) {w:aeo} {m:Nat},(ij w b m vs).heap[k]?=w.heap[k]?
 |[],_,_=>rfl
 |v::vs,_,_=>(JG aw vs).trans (lT aw)
theorem BQ{S:afp}{b:Nat}(ay:¬S b):∀(vs:aev) {w:aeo} {m:Nat},aK S w (ij w b m vs)
 |[],_,_=>.refl _ _
 |v::vs,w,m=>(aK.set (a:=⟨b,m,none⟩) ay v).trans (BQ ay vs)
theorem R2{B:Nat}{b:Nat}(ay:B≤b):∀(vs:aev) {w0 w:aeo} {m:Nat},Below B w0 w→Below B w0 (ij w b m vs)
 |[],_,_,_,h=>h
 |v::vs,_,_,m,h=>R2 ay vs (h.setCell (p:=⟨b,m,none⟩) ay v)
theorem R3(b:Nat):∀(vs:aev) (w:aeo) (m:Nat),(ij w b m vs).heap.size=w.heap.size
 |[],_,_=>rfl
 |v::vs,w,m=>(R3 b vs _ _).trans (R0 _ _ _)
theorem JH:∀(vs:aev) (cs:ajv) (m:Nat),(sa cs m vs).size=cs.size
 |[],_,_=>rfl
 |v::vs,cs,m=>(JH vs _ _).trans (by simp)
theorem R4:∀(vs:aev) (cs:ajv) (m i:Nat),i<m→(sa cs m vs)[i]?=cs[i]?
 |[],_,_,_,_=>rfl
 |v::vs,cs,m,i,h=>(R4 vs _ _ _ (by omega)).trans (vV (by omega))
theorem R5:∀(vs:aev) (cs:ajv) (m i:Nat),i<vs.length→m+vs.length≤cs.size→(sa cs m vs)[m+i]?=vs[i]?
 |[],_,_,_,h,_=>absurd h (lS _)
 |v::vs,cs,m,0,h,hs=>(R4 vs _ _ _ (by omega)).trans (by rw[Gy,Gz (by simp only[eT] at hs;omega)];rfl)
 |v::vs,cs,m,i+1,h,hs=>by have:=R5 vs (cs.setIfInBounds m v) (m+1) i (by simpa using h) (by simp only[eT,xg] at hs⊢;omega);rw[show m+(i+1)=m+1+i by omega];exact this
variable{vs:aev}
theorem Yl{m n:Nat}(h:n≤m):(sa cs m vs).toList.take n=cs.toList.take n:=by
 apply GA;intro i;rw[ra,ra];split
 ·have au:=R4 vs cs m i (by omega);simpa using au
 ·rfl
theorem Ym{m:Nat}(h:m+vs.length≤cs.size):((sa cs m vs).toList.drop m).take vs.length=vs:=by
 apply GA;intro i;rw[ra];split
 ·rename_i hi;have au:=R5 vs cs m i hi h;rw[z'];simpa using au
 ·rename_i hi;rw[NL (by omega)]
theorem ahP(h:vs.length=cs.size):sa cs 0 vs=vs.toArray:=by
 apply NM;intro i;by_cases hi:i<vs.length
 ·have:=R5 vs cs 0 i hi (by omega);rw[jt] at this;rw[this];simp
 ·rw[Aj (by rw[JH];omega),Aj (by simp;omega)]
theorem Yn{b:Nat}{t:aai}(vs:aev){w:aeo}(h:al w b cs t)(az:vs.length=cs.size):(ij w b 0 vs).heap[b]?=some (.cells vs.toArray t):=by rw[GG vs h,ahP az]
theorem da.congr{S:afp}{w:aeo}:∀{s:bf} {xs ys:aev},da S w s xs→xs.take (s.len *11)=ys.take (s.len *11)→da S w s ys
 |.nil,_,_,_,_=>trivial
 |.cons a b s r,xs,ys,h,e=>by obtain⟨⟨pl,cl,pp,cp,au,ax⟩,b8⟩:=h;have aY:xs.take 11=ys.take 11:=(by have:=fS (List.take 11) e;rw[xh,xh,yL (by simp only[bf.len];omega)] at this;exact this);have a6:(xs.drop 11).take (r.len *11)=(ys.drop 11).take (r.len *11):=(by have:=fS (List.drop 11) e;rw[D0,D0,show (bf.cons a b s r).len *11-11=r.len *11 by simp only[bf.len];omega] at this;exact this);exact⟨⟨pl,cl,pp,cp,by rw[←aY];exact au,ax⟩,da.congr b8 a6⟩
theorem da.join{S:afp}{w:aeo}:∀{s t:bf} {xs:aev},da S w s xs→da S w t (xs.drop (s.len *11))→da S w (s.append t) xs
 |.nil,_,xs,_,h=>by simpa[bf.append,bf.len] using h
 |.cons a b s r,t,xs,h,g=>by
  refine⟨h.1,da.join h.2 ?_⟩;rw[pw]
  rwa [show 11+r.len *11=(bf.cons a b s r).len *11 by simp only[bf.len];omega]
theorem bD{v Z:aeo}(ay:an v v Z){x:ada}(h:ak v k i x):ak Z k i x:=by
 have aw:k<v.heap.size:=by
  by_cases aw:k<v.heap.size
  ·exact aw
  ·have:v.heap[k]?=none:=Aj (by omega);simp[World.cell?,this] at h
 have:=ay.block k aw;simpa[World.cell?,this] using h
theorem mw{P:Program}{fn:Func}{p u:Tmp}{ty:aai}(h:fn.results= #[.cell p ty,.tmp u])(tmps:ajv)(w:aeo)(g:Nat)(t:aai)(cs:ajv)(fr:Nat×Nat)(d:TypeDesc)
  (hp:tmps.getD p undef=.pointer (some (aj g 0))) (aI:w.heap[g]?=some (.cells cs t fr))
  (hu:P.underlying ty=some d) (hd:(match d with|.struct _|.array _ _=>true|_=>false)=true) (hi:(P.info? ty).map (·.size)=some cs.size):
  (results fn tmps).run P w=.ok (.tuple #[.agg cs,tmps.getD u undef]) w:=by
 rw[results_cell_tmp h,hp];simp only[asAddr,JC,Ak,run_loadVar_row w g t ty cs fr d aI hu hd hi]
theorem D4(w:aeo)(o:Obj):an w w (w.alloc o):=bh w o
theorem D5(w:aeo)(o p:Obj):an w w ((w.alloc o).alloc p):=(bh w o).alloc (by simp) _
theorem dc{w:aeo}{t:aai}(h:al w k cs t)(i:Nat):w.frozen? ⟨k,i,none⟩=false:=by simp[World.frozen?,h]
theorem R6(w:aeo)(o p:Obj):((w.alloc o).alloc p).heap[w.heap.size+1]?=some p:=by rw[←s8 w o];exact cR _ _
end c1
