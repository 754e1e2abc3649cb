/- Lemmas. -/
import Derived.Test.YtfldplmgkeiimaaGreatDoorQ4
set_option linter.all false
set_option maxRecDepth 100000
set_option maxHeartbeats 12800000
namespace Go.Proofs.YtfldplmgkeiimaaGreatDoor
abbrev xA:=@List.drop_drop
abbrev nB:=@Nat.not_lt_zero
abbrev G4:=@Nat.lt_succ_self
abbrev dC:=@bodyPost_ret
namespace c4
open Go.RowKit dH
abbrev uB:TypeId:=3
def kN(b:cJ)(s:bc)(f:Nat)(left:Int):Option Int:=hI (.cons true b s .nil) f left
theorem G5(a:Bool)(b:cJ)(s r:bc)(f:Nat)(left:Int):hI (.cons a b s r) f left=
 if left<1∨k0 b s.len=false then none
 else if b.k=6 then (if 8≤f then none else match hI s (f+1) (left-1) with
  |none=>none
  |some m=>hI r f m)
 else if ho b=true then hI r f (left-1) else none:=by rw[hI]<;>rfl
variable{b:cJ}{s:bc}{f k q:Nat}{left:Int}
theorem Si(h:left<1∨k0 b s.len=false):kN b s f left=none:=by unfold kN;rw[G5,a8 h]
theorem Eb(h:¬left<1)(ay:k0 b s.len=true)(ax:b.k≠6){v:Bool}(aS:ho b=v):kN b s f left=if v=true then some (left-1) else none:=by unfold kN;rw[G5,aR (by rw[ay];simp[h]),aR ax,aS];rfl
theorem Zl(h:¬left<1)(ay:k0 b s.len=true)(ax:b.k=6):kN b s f left=if 8≤f then none else hI s (f+1) (left-1):=by
 unfold kN;rw[G5,aR (by rw[ay];simp[h]),a8 ax];by_cases ff:8≤f
 ·rw[a8 ff,a8 ff]
 ·rw[aR ff,aR ff];cases h:hI s (f+1) (left-1)<;>rfl
theorem G6{a:Bool}{r:bc}:hI (.cons a b s r) f left=(kN b s f left).bind (fun m=>hI r f m):=by
 unfold kN;rw[G5,G5];split
 ·rfl
 ·split
  ·split
   ·rfl
   ·cases hI s (f+1) (left-1)<;>rfl
  ·split<;>rfl
variable{t:aai}
theorem dZ{w:aeo}{v0 v1 v2 v3 v4 v5 v6 db c8 v9:ada}(h:an w k (#[v0,v1,v2,v3,v4,v5,v6,db,c8,v9]) t):
  ak w k 0 v0∧ak w k 1 v1∧ak w k 2 v2∧ak w k 3 v3∧ak w k 4 v4∧ak w k 5 v5∧ak w k 6 v6∧ak w k 7 db∧ak w k 8 c8∧ak w k 9 v9:=by
 refine⟨?_,?_,?_,?_,?_,?_,?_,?_,?_,?_⟩<;>simp[World.cell?,h]
theorem akA{w:aeo}{n:Int}(h:an w k (#[I n]) uB):ak w k 0 (I n)∧w.frozen? ⟨k,0,none⟩=false:=by
 constructor
 ·simp[World.cell?,h]
 ·simp[World.frozen?,h]
theorem akB{w:aeo}{n:Int}(m:Int)(h:an w k (#[I n]) uB):(w.setCell (aj k 0) (I m)).heap[k]?=some (.cells #[I m] uB):=by show (Array.modify _ _ _)[k]?=_;rw[Ao,a8 rfl,h];rfl
variable{p:bK}
theorem uC(h:fZ p=true):(-536870912≤p.1∧p.1≤536870912)∧-536870912≤p.2∧p.2≤536870912:=by simp only[fZ,ix,iO] at h;omega
theorem Sj(h:(-536870912≤p.1∧p.1≤536870912)∧-536870912≤p.2∧p.2≤536870912):eY p.1∧eY p.2:=by unfold eY;omega
theorem Zm{q:bK}(h:(-536870912≤p.1∧p.1≤536870912)∧-536870912≤p.2∧p.2≤536870912)(g:(-536870912≤q.1∧q.1≤536870912)∧-536870912≤q.2∧q.2≤536870912):p3 (p.1-q.1):=by unfold p3;omega
theorem Zn{q:bK}(h:(-536870912≤p.1∧p.1≤536870912)∧-536870912≤p.2∧p.2≤536870912)(g:(-536870912≤q.1∧q.1≤536870912)∧-536870912≤q.2∧q.2≤536870912):p3 (p.2-q.2):=by unfold p3;omega
theorem akC:∀(p:bc) {f:Nat} {n k:Int},0≤n→hI p f n=some k→0≤k:=by
 intro p
 induction p with
 |nil=>intro f n k hn ax;simp only[hI,mi] at ax;omega
 |cons a b s r Ru JE=>
  intro f n k hn ax;rw[G5] at ax;split at ax
  ·cases ax
  ·rename_i aT;split at ax
   ·split at ax
    ·cases ax
    ·split at ax
     ·cases ax
     ·rename_i j cr;exact JE (Ru (by omega) cr) ax
   ·split at ax
    ·exact JE (by omega) ax
    ·cases ax
theorem ds.drop{S:afp}{w:aeo}{r:bc}:∀{p:bc} {xs:aev},ds S w (p.append r) xs→ds S w r (xs.drop (p.len *11))
 |.nil,xs,h=>h
 |.cons a b s t,xs,h=>by
  have az:=ds.drop (p:=t) (r:=r) (xs:=xs.drop 11) h.2;rw[xA] at az
  rwa [show (bc.cons a b s t).len *11=11+t.len *11 by simp only[bc.len];omega]
theorem hM.part{S:afp}{w:aeo}{p:Ja}{pre:bc}{a:Bool}{r:bc}{n:Nat}(h:hM S w p (pre.append (.cons a b s r)))(hn:pre.len=n):
  ∃(k o:Nat) (pl:Ja) (cl:Nat) (pp:Ja) (cp:Nat),p=some ⟨k,o,none⟩∧k<w.heap.size∧S k∧dv S w pl cl pp cp ⟨b,s⟩∧
   ak w k (o+n *11) (U a)∧ak w k (o+n *11+1) (I b.k)∧ak w k (o+n *11+2) (I b.a.1)∧ak w k (o+n *11+3) (I b.a.2)∧ak w k (o+n *11+4) (I b.b.1)∧ak w k (o+n *11+5) (I b.b.2)∧ak w k (o+n *11+6) (I b.c.1)∧ak w k (o+n *11+7) (I b.c.2)∧ak w k (o+n *11+8) (I b.r)∧ak w k (o+n *11+9) (ad pl b.l.length cl)∧ak w k (o+n *11+10) (ad pp s.len cp):=by
 subst hn;obtain⟨k,o,cs,rfl,hS,aJ,hp⟩:=h.2 (by rw[bc.ue];simp only[bc.len];omega);have az:=hp.drop;rw[xA] at az;obtain⟨pl,cl,pp,cp,aF,hs⟩:=az.head;obtain⟨aN,aL,aI,c3,bJ,c5,b2,b',bX,bj,cu⟩:=Zd aF;refine⟨k,o,pl,cl,pp,cp,rfl,lt_of_heap aJ,hS,hs,?_,?_,?_,?_,?_,?_,?_,?_,?_,?_,?_⟩<;>simp only[World.cell?, *]<;>rfl
def Ec(q:Nat)(w:aeo)(o:Option Int)(e:Ending)(w':aeo):Prop:=e=ab (U o.isSome)∧aQ (fun k=>k≠q) w w'∧∀m,o=some m→an w' q (#[I m]) uB
variable{o:Option Int}
theorem Ec.no{w w':aeo}(h:o=none)(ax:aQ (fun k=>k≠q) w w'):Ec q w o (ab (U false)) w':=by subst h;exact⟨rfl,ax,fun m hm=>by cases hm⟩
theorem Ec.yes{w w':aeo}{m:Int}(h:o=some m)(ax:aQ (fun k=>k≠q) w w')(aH:an w' q (#[I m]) uB):Ec q w o (ab (U true)) w':=by subst h;exact⟨rfl,ax,fun n hn=>by cases hn;exact aH⟩
theorem Ec.is{w w':aeo}{m:Int}{v:Bool}(h:o=if v=true then some m else none)(ax:aQ (fun k=>k≠q) w w')(aH:an w' q (#[I m]) uB):Ec q w o (ab (U v)) w':=by
 cases v
 ·exact .no h ax
 ·exact .yes h ax aH
theorem akD(N:Nat):∀(s:bc),s.count<N→∀(b:cJ) (f:Nat) (left:Int) (S:afp) (pl:Ja) (cl:Nat) (pp:Ja) (cp:Nat) (w:aeo) (q:Nat) (o:Option Int),
  af (∀k,S k→k≠q)→f≤8→-1000000≤left→left≤1000000→af (an w q (#[I left]) uB)→af (dv S w pl cl pp cp ⟨b,s⟩)→af (kN b s f left=o)→
  Calls Tryz.prog 212 #[iD b (ad pl b.l.length cl) (ad pp s.len cp),I f,ah q 0] w (Ec q w o):=by
 induction N with
 |zero=>intro s hs;exact absurd hs (nB _)
 |succ N cT=>
 intro s hs b f left S pl cl pp cp w q o Sk hf JY q7 aH ek bl;obtain⟨k,⟨aW,aY⟩,⟨bb,bh⟩,⟨cx,bw⟩,r,l⟩:=b;have xB:=aq cT;have b7:=aq hs;clear cT hs;obtain⟨fm,bW⟩:=akA aH.out;have b1:=lt_of_heap aH.out;have GW:=aq b1;show Calls _ _ #[.agg #[I k,I aW,I aY,I bb,I bh,I cx,I bw,I r,ad pl l.length cl,ad pp s.len cp],I f,ah q 0] w _;by_cases hle:left<1
 ·have bf:af (o=none):=(by show _=_;rw[←bl.out];exact Si (.inl hle));clear bl;go_enter Tryz.func212,Tryz.ntmps212;go_wp2_with fail;go_ret;exact .no bf.out (.alloc _ _ _)
 ·have Ze:1≤left:=(by omega);have zd:=aq Ze;have hw:ae (left-1)=left-1:=cX _ (by omega);go_enter Tryz.func212,Tryz.ntmps212;go_upto_region 4 with fail;obtain⟨W,br⟩:=ar ((w.setCell (aj q 0) (I (left-1))).alloc (ai (#[I k,I aW,I aY,I bb,I bh,I cx,I bw,I r,ad pl l.length cl,ad pp s.len cp]) dz))
  have e0:af (an W w.heap.size (#[I k,I aW,I aY,I bb,I bh,I cx,I bw,I r,ad pl l.length cl,ad pp s.len cp]) dz):=by
   show _=_;rw[←br];have h:=cd (w.setCell (aj q 0) (I (left-1))) (ai (#[I k,I aW,I aY,I bb,I bh,I cx,I bw,I r,ad pl l.length cl,ad pp s.len cp]) dz)
   rwa [show (w.setCell (aj q 0) (I (left-1))).heap.size=w.heap.size by simp] at h
  have bd:af (an W q (#[I (left-1)]) uB):=(by show _=_;rw[←br];exact aU (akB _ aH.out) (a' _ _));have dn:af (aQ (fun k=>k≠q) w W):=(by show aQ _ _ _;rw[←br];exact (aQ.set (fun h=>h rfl) _).trans (.alloc _ _ _));rw[br];clear br fm bW b1;obtain⟨g0,g1,g2,g3,g4,g5,g6,g7,g8,g9⟩:=dZ e0.out;go_wp2_with fail;go_fit (aku k aW aY bb bh cx bw r pl pp l.length s.len cl cp W);rintro e bV ⟨rfl,er⟩;have NX:=aq (aU e0.out er);have xC:=aq (aU bd.out er);have kx:=aq (dn.out.trans (.dI er));obtain⟨fC,s7⟩:=ar (NU k (aW,aY) (bb,bh) (cx,bw) r l.length s.len);rw[s7];have fa:af (k0 ⟨k,(aW,aY),(bb,bh),(cx,bw),r,l⟩ s.len=fC):=s7;clear g0 g1 g2 g3 g4 g5 g6 g7 g8 g9 e0 bd dn er s7;obtain⟨g0,g1,g2,g3,g4,g5,g6,g7,g8,g9⟩:=dZ NX.out;have J1:=lt_of_heap NX.out;cases fC with
  |false=>
   have bf:af (o=none):=(by show _=_;rw[←bl.out];exact Si (.inr fa.out));clear bl;go_wp2_with fail;go_ret;exact .no bf.out kx.out
  |true=>
   by_cases eI:k=1
   ·subst eI;have b5:af (o=if ho (⟨1,(aW,aY),(bb,bh),(cx,bw),r,l⟩:cJ)=true then some (left-1) else none):=(by show _=_;rw[←bl.out];exact Eb (Int.not_lt.2 zd.out) fa.out (show (1:Int)≠6 by decide) rfl);clear bl;go_wp2_with fail;refine (Ax (aW,aY) _).mono ?_;rintro e bY ⟨rfl,rfl⟩;obtain⟨f0,nC⟩:=ar (fZ (aW,aY));rw[nC];have mX:=aq nC;clear nC;cases f0 with
    |false=>
     have bf:af (o=none):=(by show _=_;rw[b5.out];simp[ho,mX.out]);clear b5;go_wp2_with fail;go_ret;exact .no bf.out (kx.out.trans (.alloc _ _ _))
    |true=>
     go_wp2_with fail;refine (NV r _).mono ?_;rintro e dp ⟨rfl,rfl⟩;obtain⟨f1,oa⟩:=ar (vJ r);rw[oa];have mr:=aq oa;clear oa;have bf:af (o=if f1=true then some (left-1) else none):=(by show _=_;rw[b5.out];simp[ho,mX.out,mr.out]);clear b5;go_wp2_with fail;go_ret;exact .is bf.out (kx.out.trans (.alloc _ _ _)) (aU xC.out (a' _ _))
   by_cases fT:k=2
   ·subst fT;have b5:af (o=if ho (⟨2,(aW,aY),(bb,bh),(cx,bw),r,l⟩:cJ)=true then some (left-1) else none):=(by show _=_;rw[←bl.out];exact Eb (Int.not_lt.2 zd.out) fa.out (show (2:Int)≠6 by decide) rfl);clear bl;have dT:af (iC S bV pl l):=ek.out.l.keep (kx.out.mono fun k _ h=>Sk.out k h);go_wp2_with fail;refine (akx S pl l l.length cl rfl bV dT (vK l) (aq rfl)).mono ?_;rintro e bY ⟨rfl,dA⟩;have iQ:=aq (kx.out.trans (.dI dA));have Sl:=aq (aU xC.out dA);clear dA;go_wp2_with fail;go_ret;exact .is b5.out iQ.out Sl.out
   by_cases ob:k=3
   ·subst ob;have b5:af (o=if ho (⟨3,(aW,aY),(bb,bh),(cx,bw),r,l⟩:cJ)=true then some (left-1) else none):=(by show _=_;rw[←bl.out];exact Eb (Int.not_lt.2 zd.out) fa.out (show (3:Int)≠6 by decide) rfl);clear bl;go_wp2_with fail;refine (Ax (aW,aY) _).mono ?_;rintro e bY ⟨rfl,rfl⟩;obtain⟨f0,nC⟩:=ar (fZ (aW,aY));rw[nC];have mX:=aq nC;clear nC;cases f0 with
    |false=>
     have bf:af (o=none):=(by show _=_;rw[b5.out];simp[ho,mX.out]);clear b5;go_wp2_with fail;go_ret;exact .no bf.out (kx.out.trans (.alloc _ _ _))
    |true=>
     go_wp2_with fail;refine (Ax (bb,bh) _).mono ?_;rintro e dp ⟨rfl,rfl⟩;obtain⟨f1,oa⟩:=ar (fZ (bb,bh));rw[oa];have mr:=aq oa;clear oa;cases f1 with
     |false=>
      have bf:af (o=none):=(by show _=_;rw[b5.out];simp[ho,mX.out,mr.out]);clear b5;go_wp2_with fail;go_ret;exact .no bf.out ((kx.out.trans (.alloc _ _ _)).trans (.alloc _ _ _))
     |true=>
      go_wp2_with fail;refine (NV r _).mono ?_;rintro e cA ⟨rfl,rfl⟩;obtain⟨f2,uD⟩:=ar (vJ r);rw[uD];have eV:=aq uD;clear uD;have bf:af (o=if f2=true then some (left-1) else none):=(by show _=_;rw[b5.out];simp[ho,mX.out,mr.out,eV.out]);clear b5;go_wp2_with fail;go_ret;exact .is bf.out ((kx.out.trans (.alloc _ _ _)).trans (.alloc _ _ _)) (aU (aU xC.out (a' _ _)) (a' _ _))
   by_cases s8:k=4
   ·subst s8;have b5:af (o=if ho (⟨4,(aW,aY),(bb,bh),(cx,bw),r,l⟩:cJ)=true then some (left-1) else none):=(by show _=_;rw[←bl.out];exact Eb (Int.not_lt.2 zd.out) fa.out (show (4:Int)≠6 by decide) rfl);clear bl;go_wp2_with fail;refine (Ax (aW,aY) _).mono ?_;rintro e bY ⟨rfl,rfl⟩;obtain⟨f0,nC⟩:=ar (fZ (aW,aY));rw[nC];have mX:=aq nC;clear nC;cases f0 with
    |false=>
     have bf:af (o=none):=(by show _=_;rw[b5.out];simp[ho,mX.out]);clear b5;go_wp2_with fail;go_ret;exact .no bf.out (kx.out.trans (.alloc _ _ _))
    |true=>
     go_wp2_with fail;refine (Ax (bb,bh) _).mono ?_;rintro e dp ⟨rfl,rfl⟩;obtain⟨f1,oa⟩:=ar (fZ (bb,bh));rw[oa];have mr:=aq oa;clear oa;cases f1 with
     |false=>
      have bf:af (o=none):=(by show _=_;rw[b5.out];simp[ho,mX.out,mr.out]);clear b5;go_wp2_with fail;go_ret;exact .no bf.out ((kx.out.trans (.alloc _ _ _)).trans (.alloc _ _ _))
     |true=>
      go_wp2_with fail;refine (NV r _).mono ?_;rintro e cA ⟨rfl,rfl⟩;obtain⟨f2,uD⟩:=ar (vJ r);rw[uD];have eV:=aq uD;clear uD;cases f2 with
      |false=>
       have bf:af (o=none):=(by show _=_;rw[b5.out];simp[ho,mX.out,mr.out,eV.out]);clear b5;go_wp2_with fail;go_ret;exact .no bf.out ((kx.out.trans (.alloc _ _ _)).trans (.alloc _ _ _))
      |true=>
       obtain⟨f3,G7⟩:∃x:Bool,decide ((aW,aY)≠(bb,bh))=x:=⟨_,rfl⟩;have uE:=aq G7;clear G7;have bf:af (o=if f3=true then some (left-1) else none):=(by show _=_;rw[b5.out,←uE.out];simp[ho,mX.out,mr.out,eV.out]);clear b5;go_wp2_with fail
       all_goals
        go_ret;refine .is (by rw[bf.out,←uE.out];grind) ((kx.out.trans (.alloc _ _ _)).trans (.alloc _ _ _)) (aU (aU xC.out (a' _ _)) (a' _ _))
   by_cases Zo:k=5
   ·subst Zo;have b5:af (o=if ho (⟨5,(aW,aY),(bb,bh),(cx,bw),r,l⟩:cJ)=true then some (left-1) else none):=(by show _=_;rw[←bl.out];exact Eb (Int.not_lt.2 zd.out) fa.out (show (5:Int)≠6 by decide) rfl);clear bl;go_wp2_with fail;refine (Ax (aW,aY) _).mono ?_;rintro e bY ⟨rfl,rfl⟩;obtain⟨f0,nC⟩:=ar (fZ (aW,aY));rw[nC];have mX:=aq nC;clear nC;cases f0 with
    |false=>
     have bf:af (o=none):=(by show _=_;rw[b5.out];simp[ho,mX.out]);clear b5;go_wp2_with fail;go_ret;exact .no bf.out (kx.out.trans (.alloc _ _ _))
    |true=>
     go_wp2_with fail;refine (Ax (bb,bh) _).mono ?_;rintro e dp ⟨rfl,rfl⟩;obtain⟨f1,oa⟩:=ar (fZ (bb,bh));rw[oa];have mr:=aq oa;clear oa;cases f1 with
     |false=>
      have bf:af (o=none):=(by show _=_;rw[b5.out];simp[ho,mX.out,mr.out]);clear b5;go_wp2_with fail;go_ret;exact .no bf.out ((kx.out.trans (.alloc _ _ _)).trans (.alloc _ _ _))
     |true=>
      go_wp2_with fail;refine (Ax (cx,bw) _).mono ?_;rintro e cA ⟨rfl,rfl⟩;obtain⟨f2,uD⟩:=ar (fZ (cx,bw));rw[uD];have kf:af (aQ (fun k=>k≠q) w (((bV.alloc (eZ (aW,aY))).alloc (eZ (bb,bh))).alloc (eZ (cx,bw)))):=(((kx.out.trans (.alloc _ _ _)).trans (.alloc _ _ _)).trans (.alloc _ _ _));have Zp:af ((((bV.alloc (eZ (aW,aY))).alloc (eZ (bb,bh))).alloc (eZ (cx,bw))).heap[q]?=some (.cells #[I (left-1)] uB)):=(aU (aU (aU xC.out (a' _ _)) (a' _ _)) (a' _ _));have J2:af ((((bV.alloc (eZ (aW,aY))).alloc (eZ (bb,bh))).alloc (eZ (cx,bw))).heap[w.heap.size]?=some (.cells #[I 5,I aW,I aY,I bb,I bh,I cx,I bw,I r,ad pl l.length cl,ad pp s.len cp] dz)):=aU (aU (aU NX.out (a' _ _)) (a' _ _)) (a' _ _);clear g0 g1 g2 g3 g4 g5 g6 g7 g8 g9 J1 NX xC kx;generalize ((bV.alloc (eZ (aW,aY))).alloc (eZ (bb,bh))).alloc (eZ (cx,bw))=Cg at kf Zp J2⊢;obtain⟨g0,g1,g2,g3,g4,g5,g6,g7,g8,g9⟩:=dZ J2.out;have J1:=lt_of_heap J2.out;have eV:=aq uD;clear uD;cases f2 with
      |false=>
       have bf:af (o=none):=(by show _=_;rw[b5.out];simp[ho,mX.out,mr.out,eV.out]);clear b5;go_wp2_with fail;go_ret;exact .no bf.out kf.out
      |true=>
       go_wp2_with fail;refine (NV r _).mono ?_;rintro e bt ⟨rfl,rfl⟩;obtain⟨f3,G7⟩:=ar (vJ r);rw[G7];have uE:=aq G7;clear G7;cases f3 with
       |false=>
        have bf:af (o=none):=(by show _=_;rw[b5.out];simp[ho,mX.out,mr.out,eV.out,uE.out]);clear b5;go_wp2_with fail;go_ret;exact .no bf.out kf.out
       |true=>
        go_wp2_with fail;obtain⟨f4,Sm⟩:=ar (JD (cx,bw) (aW,aY) (bb,bh));have l4:=uC mX.out;have kg:=uC mr.out;have gS:=uC eV.out;refine (aky (cx,bw) (aW,aY) (bb,bh) (Sj gS) (Sj l4) (Sj kg) (Zm l4 gS) (Zn l4 gS) (Zm kg gS) (Zn kg gS) f4 (aq Sm) _).mono ?_;rintro e cZ ⟨rfl,ev⟩;have iQ:=aq (kf.out.trans (.dI ev));have Sl:=aq (aU Zp.out ev);clear ev l4 kg gS;have xD:=aq Sm;clear Sm;have bf:af (o=if f4=true then some (left-1) else none):=(by show _=_;rw[b5.out];simp[ho,mX.out,mr.out,eV.out,uE.out,xD.out]);clear b5;go_wp2_with fail;go_ret;exact .is bf.out iQ.out Sl.out
   by_cases kK:k=6
   ·subst kK;have b5:af ((if 8≤f then none else hI s (f+1) (left-1))=o):=(by show _=_;rw[←bl.out];exact (Zl (Int.not_lt.2 zd.out) fa.out rfl).symm);clear bl;by_cases ff:8≤f
    ·have bf:af (o=none):=(by show _=_;rw[←b5.out,a8 ff]);have Zq:(8:Int)≤(f:Int):=(by omega);clear b5;go_wp2_with fail;go_ret;exact .no bf.out kx.out
    ·have pB:af (hI s (f+1) (left-1)=o):=(by show _=_;rw[←b5.out,aR ff]);have Zq:(f:Int)<8:=(by omega);have oa:ae ((f:Int)+1)=((f+1:Nat):Int):=(by rw[cX _ (by omega)];omega);have mr:=aq oa;have k9:=aq (show s.len≤1000000000 from ek.out.p.1);have oc:=k9.out;obtain⟨n,hn⟩:=ar s.len;have q8:=aq hn;rw[hn] at oc g9⊢;clear b5 hn oa;go_wp2_with fail
     go_loopw [111] (fun i wr=>∃(pre fU:bc) (m:Int) (j:Nat) (aK:aeo),aK=wr∧af (s=pre.append fU)∧af (pre.len=j)∧i=I j∧af (hI fU (f+1) m=o)∧0≤m∧m≤1000000∧af (an aK q (#[I m]) uB)∧af (aQ (fun k=>k≠q) w aK)) (fun i _=>n -(intOf i).toNat)
     case atStart=>exact⟨.nil,s,left-1,0,_,rfl,rfl,rfl,rfl,pB.out,by omega,by omega,xC.out,kx.out⟩
     case round=>
     obtain⟨pre,fU,m,j,aK,rfl,iS,df,rfl,b0,s9,oe,NY,J3⟩:=hrel;cases fU with
     |nil=>
      have nD:j=n:=(by rw[←q8.out,←df.out,iS.out,bc.append_nil]);have bf:af (o=some m):=b0.out.symm;subst nD;go_wp2_with fail;go_ret;exact .yes bf.out J3.out NY.out
     |cons a bg sub fP=>
      have q9:j<n:=(by rw[←q8.out,←df.out,iS.out,bc.ue];simp only[bc.len];omega);have NZ:(j:Int)<(n:Int):=(by omega);have iF:hM S aK pp (pre.append (.cons a bg sub fP)):=(by rw[←iS.out];exact ek.out.p.keep (J3.out.mono fun k _ h=>Sk.out k h));obtain⟨hz,lv,ql,dl,qp,cK,rfl,q',_,qA,aN,aL,aI,c3,bJ,c5,b2,b',bX,bj,cu⟩:=iF.part df.out;have v7:=aq qA;have oa:=mr.out;clear iF qA;go_wp2_with fail;obtain⟨dY,jm⟩:=ar (kN bg sub (f+1) m);have jb:=aq jm;have lx:af (dY.bind (fun cS=>hI fP (f+1) cS)=o):=(by show _=_;rw[←b0.out,G6,jm]);have fV:sub.count<N:=(by have av:=b7.out;rw[iS.out,bc.count_append] at av;simp only[bc.count] at av;omega);have xE:af (s=(pre.append (.cons a bg sub .nil)).append fP):=(by show _=_;rw[iS.out,bc.append_assoc];rfl);have ja:af ((pre.append (.cons a bg sub .nil)).len=j+1):=(by show _=_;rw[bc.ue,df.out];rfl);refine (xB.out sub fV bg (f+1) m S ql dl qp cK _ q dY Sk (by omega) (by omega) oe (aU NY.out (a' _ _)) (v7.out.below (a' _ _)) jb).mono ?_;rintro e dp ⟨rfl,ob,Zr⟩;have ly:=aq ((J3.out.trans (.alloc _ _ _)).trans ob);have xF:=aq Zr;clear ob Zr;cases dY with
      |none=>
       have bf:af (o=none):=lx.out.symm;clear lx jm;go_wp2_with fail;go_ret;exact .no bf.out ly.out
      |some cS=>
       have nE:af (hI fP (f+1) cS=o):=lx.out;have Cd:0≤cS:=akC _ s9 (show hI (.cons true bg sub .nil) (f+1) m=some cS from jm);have awJ:cS≤m:=(aiD (show hI (.cons true bg sub .nil) (f+1) m=some cS from jm)).1;clear lx jm;go_wp2_with fail;go_round<;>first|exact⟨_,fP,cS,j+1,_,rfl,xE.out,ja.out,by go_num,nE.out,Cd,by omega,xF.out _ rfl,ly.out⟩|(simp[intOf]<;>omega)
   ·have bf:af (o=none):=(by show _=_;rw[←bl.out,Eb (Int.not_lt.2 zd.out) fa.out (show k≠6 from kK) (v:=false) (by simp[ho,eI,fT,ob,s8,Zo])];rfl);clear bl;go_wp2_with fail;go_ret;exact .no bf.out kx.out
theorem J4(S:afp)(b:cJ)(s:bc)(pl:Ja)(cl:Nat)(pp:Ja)(cp:Nat)(w:aeo)(ek:af (dv S w pl cl pp cp ⟨b,s⟩))(v:Bool)(aS:af (okV ⟨b,s⟩=v)):
  Calls Tryz.prog 169 #[iD b (ad pl b.l.length cl) (ad pp s.len cp)] w fun e w'=>e=ab (U v)∧ao w w w':=by
 obtain⟨k,⟨aW,aY⟩,⟨bb,bh⟩,⟨cx,bw⟩,r,l⟩:=b;show Calls _ _ #[.agg #[I k,I aW,I aY,I bb,I bh,I cx,I bw,I r,ad pl l.length cl,ad pp s.len cp]] w _;go_enter Tryz.func169,Tryz.ntmps169;go_wp2_with fail;obtain⟨W,br⟩:=ar ((w.alloc (ai (#[I k,I aW,I aY,I bb,I bh,I cx,I bw,I r,ad pl l.length cl,ad pp s.len cp]) dz)).alloc (ai (#[I 1000]) uB))
 have bd:af (an W (w.heap.size+1) (#[I 1000]) uB):=by
  show _=_;rw[←br];have h:=cd (w.alloc (ai (#[I k,I aW,I aY,I bb,I bh,I cx,I bw,I r,ad pl l.length cl,ad pp s.len cp]) dz)) (ai (#[I 1000]) uB)
  rwa [pz] at h
 have aO:af (ao w w W):=by show Below _ _ _;rw[←br];exact (a' _ _).trans ((a' _ _).mono (by rw[pz];omega))
 rw[br];have dT:af (w.heap.size+1<W.heap.size):=lt_of_heap bd.out;clear br;refine (akD (s.count+1) s (G4 _) ⟨k,(aW,aY),(bb,bh),(cx,bw),r,l⟩ 0 1000 (fun k=>S k∧k<w.heap.size) pl cl pp cp W (w.heap.size+1) _ (aq fun k h=>by have:=h.2;omega) (by decide) (by decide) (by decide) bd (ek.out.lt.below aO.out) (aq rfl)).mono ?_;rintro e w' ⟨rfl,ax,_⟩;have dn:af (ao w w w'):=aO.out.trans (ax.below _ aO.out.size fun k h=>by omega);clear ax;have p4:(kN ⟨k,(aW,aY),(bb,bh),(cx,bw),r,l⟩ s 0 1000).isSome=v:=aS.out;rw[p4];go_wp2_with fail;go_ret;exact⟨rfl,dn.out⟩
theorem akE(n:Int):bits .and .i64 n 3=n%4:=by
 have hm:(BitVec.ofInt 64 3).toNat=2^2-1:=by decide
 have key:(BitVec.ofInt 64 n&&&BitVec.ofInt 64 3).toNat=(n%((2^64:Nat):Int)).toNat%2^2:=by rw[GQ,GR,hm,GS]
 show ae ((BitVec.ofInt 64 n&&&BitVec.ofInt 64 3).toNat:Nat)=n%4;rw[key,GU];omega
abbrev pC:TypeId:=164
abbrev rY(t:fR):Value:=.agg #[U t.bD,U t.bR,I t.q,I t.eL.1,I t.eL.2]
abbrev Zs(t:fR):Obj:=.cells #[U t.bD,U t.bR,I t.q,I t.eL.1,I t.eL.2] pC
theorem akF(q k:Int)(ax:af (q%4=k))(w:aeo):
  Calls Tryz.prog 305 #[I q] w fun e w'=>e=ab (I k)∧w'=w:=by
 go_enter Tryz.func305,Tryz.ntmps305;go_wp2_with fail;go_ret;exact⟨pA ((akE q).trans ax.out),rfl⟩
theorem dL{w:aeo}{i:Nat}{cs:ajv}{t:aai}{ei:Nat×Nat}(u:ada)(h:w.heap[k]?=some (.cells cs t ei)):(w.setCell (aj k i) u).heap[k]?=some (.cells (cs.setIfInBounds i u) t ei):=by show (Array.modify _ _ _)[k]?=_;rw[Ao,a8 rfl,h];rfl
theorem N0{w:aeo}{a b:ada}(h:an w k (#[a,b]) t):ak w k 0 a∧ak w k 1 b∧w.frozen? ⟨k,0,none⟩=false∧w.frozen? ⟨k,1,none⟩=false:=by refine⟨?_,?_,?_,?_⟩<;>simp[World.cell?,World.frozen?,h]
theorem uF{w:aeo}{a b c d e:ada}(h:an w k (#[a,b,c,d,e]) t):ak w k 0 a∧ak w k 1 b∧ak w k 2 c∧ak w k 3 d∧ak w k 4 e:=by refine⟨?_,?_,?_,?_,?_⟩<;>simp[World.cell?,h]
theorem akG{P:aeo→Prop}{w:aeo}{g:Nat}{a b u v:ada}(h:an w g (#[a,b]) t)(k:∀et,an et g (#[u,v]) t→aQ (fun k=>k≠g) w et→P et):P ((w.setCell (aj g 0) u).setCell (aj g 1) v):=
 k _ (dL _ (dL _ h)) ((aQ.set (a:=⟨g,0,none⟩) (fun h=>h rfl) _).trans (aQ.set (a:=⟨g,1,none⟩) (fun h=>h rfl) _))
theorem Ay(t:fR)(cw ct:Int)(hx:-536870912≤cw∧cw≤536870912)(hy:-536870912≤ct∧ct≤536870912)(av:eY t.eL.1)(az:eY t.eL.2)(x y:Int)(hr:af (h2 t (cw,ct)=(x,y)))(w:aeo):
  Calls Tryz.prog 261 #[.agg #[I cw,I ct],rY t] w fun e w'=>e=ab (.agg #[I x,I y])∧ao w w w':=by
 obtain⟨bD,bR,q,bb,bh⟩:=t;unfold eY at av az;dsimp only at av az;obtain⟨k,ax⟩:=ar (q%4);have dn:=aq ax;have s8:k=0∨k=1∨k=2∨k=3:=by omega
 have dy:ae (-cw)= -cw:=cX _ (by omega);have eU:ae (-ct)= -ct:=cX _ (by omega);have n3:ae cw=cw:=cX _ (by omega);have n4:ae ct=ct:=cX _ (by omega);have bE:ae (cw+bb)=cw+bb:=cX _ (by omega);have a2:ae (ct+bb)=ct+bb:=cX _ (by omega);have a3:ae (-cw+bb)= -cw+bb:=cX _ (by omega);have a4:ae (-ct+bb)= -ct+bb:=cX _ (by omega);have a5:ae (cw+bh)=cw+bh:=cX _ (by omega);have rZ:ae (ct+bh)=ct+bh:=cX _ (by omega);have qB:ae (-cw+bh)= -cw+bh:=cX _ (by omega);have ta:ae (-ct+bh)= -ct+bh:=cX _ (by omega);have aO:=aq (And.intro (And.intro hx hy) (And.intro av az));clear hx hy av az ax;show Calls _ _ #[.agg #[I cw,I ct],.agg #[U bD,U bR,I q,I bb,I bh]] w _;go_enter Tryz.func261,Tryz.ntmps261;go_upto_region 1 with fail
 go_quiet (fail)
 obtain⟨W,br⟩:=ar ((((w.alloc (ai (#[I cw,I ct]) i7)).alloc (ai (#[U bD,U bR,I q,I bb,I bh]) pC)).alloc (ai (#[I 0,I 0]) i7)).drewN nq);have bM:af (ao w w W∧an W (w.heap.size+1) (#[U bD,U bR,I q,I bb,I bh]) pC∧an W (w.heap.size+1+1) (#[I 0,I 0]) i7):=by show _∧_;rw[←br];obtain⟨_,az,aF,Ea,_⟩:=zc (w:=w) rfl;exact⟨jQ Ea nq,az,aF⟩
 rw[br];clear br;obtain⟨t0,t1,t2,t3,t4⟩:=uF bM.out.2.1;obtain⟨gZ,fM,f0,f1⟩:=N0 bM.out.2.2;have N1:=lt_of_heap bM.out.2.2;cases bD<;>cases bR
 all_goals
  go_wp2_with fail;go_fit (akF q k dn W);rintro e bV ⟨rfl,rfl⟩;rcases s8 with rfl|rfl|rfl|rfl
  all_goals
   go_wp2_with fail;have hx:=hr.out;simp[h2,Gu,dH.flip,dn.out] at hx;refine akG (P:=bodyPost _ _ _ _ _) bM.out.2.2 fun et g1 g2=>?_;obtain⟨aN,aL,_,_⟩:=N0 g1;exact dC (v:=.agg #[I x,I y]) (by simp[results,Tryz.results261,go_sem,aN,aL,hx]) rfl ⟨rfl,bM.out.1.trans (g2.below _ bM.out.1.size fun k ax e=>by omega)⟩
end c4
