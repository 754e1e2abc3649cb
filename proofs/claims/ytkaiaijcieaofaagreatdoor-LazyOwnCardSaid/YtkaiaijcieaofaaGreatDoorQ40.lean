/- Lemmas. -/
import Derived.Test.YtkaiaijcieaofaaGreatDoorQ39
import Derived.Test.YtkaiaijcieaofaaGreatDoorCards
import Derived.Test.YtkaiaijcieaofaaGreatDoorTie
import Derived.OpenShut
import Derived.LaidMore
import Derived.Lay
import Derived.LaidOnce
import Derived.Stop.Joined
import Derived.SevenTiedAt
import Derived.Lib.LaidTab
import Derived.Lib.LaidU8
import Derived.Shelf.Vars
set_option linter.all false
set_option maxRecDepth 100000
set_option maxHeartbeats 25600000
namespace Go.Proofs.YtkaiaijcieaofaaGreatDoor
namespace yA
open Go.RowKit gI
theorem Rh(v:Int)(w:aeo):Calls Tryz.prog 32 #[I v] w (zf 10 w):=by
 obtain⟨a,ha,agj,Xb⟩:∃k,bits .and .i64 (v/16) 31=k∧0≤k∧k≤31:=⟨_,rfl,by rw[iL.Hk];omega,by rw[iL.Hk];omega⟩;obtain⟨b,ay,AN,cj⟩:∃k,bits .and .i64 (v/512) 7=k∧0≤k∧k≤7:=⟨_,rfl,by rw[iL.Hj];omega,by rw[iL.Hj];omega⟩;obtain⟨c,aB,CU,oW⟩:∃k,bits .and .i64 (v/16) 32767=k∧0≤k∧k≤32767:=⟨_,rfl,by rw[iL.ZL];omega,by rw[iL.ZL];omega⟩;obtain⟨q,aG,LU⟩:∃k:Nat,bits .and .i64 (v/2) 1=(k:Int)∧k<2:=⟨(v/2%2).toNat,by rw[iL.ZI];omega,by omega⟩;have aed:(q:Int)<2:=by omega
 obtain⟨X,b2,q4⟩:=pZ [⟨#[45]⟩,⟨#[43]⟩] q 1 LU (by decide);have hx:=b2 w;simp only[nx,nF] at hx;have hf:=fits;have atM:af (∀w,Calls Tryz.prog 28 #[I a,I 1] w (pg 2 w)):=fun w=>w1 2 1 _ (by omega) (by omega) (show a/10/10=0 by omega) (by decide) (by decide) w;have atN:af (∀w,Calls Tryz.prog 28 #[I b,I 1] w (pg 1 w)):=fun w=>w1 1 1 _ (by omega) (by omega) (show b/10=0 by omega) (by decide) (by decide) w;have atO:af (∀w,Calls Tryz.prog 28 #[I c,I 1] w (pg 5 w)):=fun w=>w1 5 1 _ (by omega) (by omega) (show c/10/10/10/10/10=0 by omega) (by decide) (by decide) w;clear agj Xb AN cj CU oW b2 LU;cases au:(bits .and .i64 v 1==1)
 all_goals
  cases ax:(bits .and .i64 v 12==12)
  all_goals
   go_enter Tryz.func32,Tryz.ntmps32
   go_wp2_with (first
    |(go_at_call 28;(with_reducible refine (atM.out _).mono ?_);intro e w' h;obtain⟨S,rfl,hS,rfl⟩:=h.get)
    |(go_at_call 28;(with_reducible refine (atN.out _).mono ?_);intro e w' h;obtain⟨T,rfl,dm,rfl⟩:=h.get)
    |(go_at_call 28;(with_reducible refine (atO.out _).mono ?_);intro e w' h;obtain⟨TS,rfl,KQ,rfl⟩:=h.get)
    |fail)
   go_ret
   first
    |exact⟨⟨_,rfl,⟨fZ.to (by decide)⟩⟩,Below.refl _ _⟩
    |exact⟨⟨_,rfl,⟨fZ.to (by decide)⟩⟩,(Below.refl _ _).alloc (aP _) _⟩
theorem Xu(x y:Int)(w:aeo):Calls Tryz.prog 31 #[I x,I y] w (zf 22 w):=by
 have hf:=fits;have cK:=ao (Rh x);have fq:=ao (Rh y);obtain⟨r,hr⟩:=aq (bits .and .i64 (x/1048576) 7);obtain⟨s,hs⟩:=aq (bits .and .i64 (y/1048576) 7);by_cases au:0<r
 all_goals
  by_cases ax:0<s
  all_goals
   go_enter Tryz.func31,Tryz.ntmps31
   go_wp2_with (first
    |(go_at_call 32;(with_reducible refine (cK.out _).mono ?_);intro e bk h;obtain⟨S,rfl,hS,cj⟩:=h.get)
    |(go_at_call 32;(with_reducible refine (fq.out _).mono ?_);intro e bt h;obtain⟨T,rfl,dm,ck⟩:=h.get)
    |fail)
   go_ret
   first
    |exact⟨⟨_,rfl,⟨fZ.to (by decide)⟩⟩,cj.trans (ck.mono cj.size)⟩
    |exact⟨⟨_,rfl,⟨fZ.to (by decide)⟩⟩,cj⟩
    |exact⟨⟨_,rfl,⟨fZ.to (by decide)⟩⟩,ck⟩
    |exact⟨⟨_,rfl,⟨fZ.to (by decide)⟩⟩,Below.refl _ _⟩
theorem atP(n a b c d:Int)(w:aeo):Calls Tryz.prog 14 #[I n,I a,I b,I c,I d] w (zf 60 w):=by
 have hf:=fits;obtain⟨m,hm,jH⟩:∃m:Nat,bits .and .i64 n 255=(m:Int)∧m≤255:=⟨(n%256).toNat,by rw[iL.Ch];omega,by omega⟩;obtain⟨k,aw,jE⟩:∃k:Nat,(m:Int)%20=(k:Int)∧k≤19:=⟨m%20,by omega,by omega⟩;obtain⟨y3,Xk,DE⟩:∃k:Nat,bits .and .i64 a 3=(k:Int)∧k<4:=⟨(a%4).toNat,by rw[iL.EA];omega,by omega⟩;obtain⟨h6,Xl,Ji⟩:∃k:Nat,bits .and .i64 a 7=(k:Int)∧k<8:=⟨(a%8).toNat,by rw[iL.Hj];omega,by omega⟩;have Xm:(y3:Int)<4:=by omega
 have Xn:(h6:Int)<8:=by omega
 have wI:af (∀w,Calls Tryz.prog 28 #[I ((y3:Int)+1),I 1] w (pg 1 w)):=fun w=>w1 1 1 _ (by omega) (by omega) (show ((y3:Int)+1)/ 10=0 by omega) (by decide) (by decide) w;have Re:af (∀w,Calls Tryz.prog 28 #[I (h6:Int),I 1] w (pg 1 w)):=fun w=>w1 1 1 _ (by omega) (by omega) (show (h6:Int)/ 10=0 by omega) (by decide) (by decide) w;obtain⟨axF,atQ,axG⟩:=pZ [⟨#[77,49,53]⟩,⟨#[77,49,54]⟩,⟨#[71,48,53]⟩,⟨#[71,57,48]⟩] y3 20 DE (by decide);obtain⟨axH,atS,axI⟩:=pZ [⟨#[77,52,56]⟩,⟨#[37]⟩,⟨#[77,51,48]⟩,⟨#[84,48]⟩,⟨#[77,69,84,82,73,67]⟩,⟨#[73,78,67,72,44,84,90]⟩,⟨#[73,78,67,72,44,76,90]⟩,⟨#[84,48,49]⟩] h6 20 Ji (by decide);obtain⟨axJ,atT,axK⟩:=pZ [⟨#[77,49,53]⟩,⟨#[84,49]⟩,⟨#[88,49,48,48,48,89,49,48,48,48]⟩,⟨#[71,48,53]⟩] y3 20 DE (by decide);simp only[nx,nF] at atQ atS atT;clear jH DE Ji;have M7:k=0∨k=1∨k=2∨k=3∨k=4∨k=5∨k=6∨k=7∨k=8∨k=9∨k=10∨k=11∨k=12∨k=13∨k=14∨k=15∨k=16∨k=17∨k=18∨k=19:=by omega
 clear jE;rcases M7 with rfl|rfl|rfl|rfl|rfl|rfl|rfl|rfl|rfl|rfl|rfl|rfl|rfl|rfl|rfl|rfl|rfl|rfl|rfl|rfl
 all_goals
  go_enter Tryz.func14,Tryz.ntmps14
  go_wp2_with (first
   |(go_at_call 28;(with_reducible refine (wI.out _).mono ?_);intro e w' h;obtain⟨S,rfl,hS,rfl⟩:=h.get)
   |(go_at_call 28;(with_reducible refine (Re.out _).mono ?_);intro e w' h;obtain⟨S,rfl,hS,rfl⟩:=h.get)
   |(go_at_call 31;(with_reducible refine (Xu a b _).mono ?_);intro e bk h;obtain⟨T,rfl,dm,cj⟩:=h.get)
   |(go_at_call 31;(with_reducible refine (Xu c d _).mono ?_);intro e bt h;obtain⟨TS,rfl,KQ,ck⟩:=h.get)
   |(go_at_call 31;(with_reducible refine (Xu b c _).mono ?_);intro e bk h;obtain⟨T,rfl,dm,cj⟩:=h.get)
   |(go_at_call 32;(with_reducible refine (Rh a _).mono ?_);intro e bk h;obtain⟨T,rfl,dm,cj⟩:=h.get)
   |(go_at_call 32;(with_reducible refine (Rh b _).mono ?_);intro e bk h;obtain⟨T,rfl,dm,cj⟩:=h.get)
   |fail)
  go_ret
  first
   |exact⟨⟨_,rfl,⟨fZ.to (by decide)⟩⟩,cj.trans (ck.mono cj.size)⟩
   |exact⟨⟨_,rfl,⟨fZ.to (by decide)⟩⟩,cj⟩
   |exact⟨⟨_,rfl,⟨fZ.to (by decide)⟩⟩,Below.refl _ _⟩
   |exact⟨⟨_,rfl,⟨fZ.to (by decide)⟩⟩,(Below.refl _ _).alloc (aP _) _⟩
abbrev Ri(w:aeo)(b i0 i1 i2 i3 i4:Nat)(z0 z1 z2 z3 z4:Int)(x:aeo):Prop:=x.cell? ⟨b,i0,none⟩=some (I z0)∧ak x b i1 (I z1)∧ak x b i2 (I z2)∧ak x b i3 (I z3)∧ak x b i4 (I z4)∧b<w.heap.size∧an w w x
theorem agH{w x y:aeo}{b i0 i1 i2 i3 i4:Nat}{z0 z1 z2 z3 z4:Int}(h:Ri w b i0 i1 i2 i3 i4 z0 z1 z2 z3 z4 x)(ay:an x x y):Ri w b i0 i1 i2 i3 i4 z0 z1 z2 z3 z4 y:=by obtain⟨aF,au,ax,aA,bb,bj,b8⟩:=h;have key:∀i u,ak x b i u→ak y b i u:=fun i u hu=>(ay.cell (p:=⟨b,i,none⟩) (hN bj b8.size)).trans hu;exact⟨key _ _ aF,key _ _ au,key _ _ ax,key _ _ aA,key _ _ bb,bj,b8.trans (ay.mono b8.size)⟩
theorem atU(p:Ja)(n c:Nat)(az:n≤c)(aB:c≤maxLen)(w:aeo)(H:af (w2 w p n)):
  Calls Tryz.prog 7 #[ad p n c,U true] w fun e w'=>(∃S:Ua,e=ab (aa S)∧S.size≤6000)∧an w w w':=by
 unfold maxLen at aB;have hc:n≤9223372036854775807:=by omega
 clear az aB;have hf:=fits;obtain⟨i,hi,oq⟩:∃i:Nat,bits .and .i64 (n:Int) 3=(i:Int)∧i<4:=⟨((n:Int)%4).toNat,by rw[iL.EA];omega,by omega⟩;have atV:(i:Int)<4:=by omega
 obtain⟨X,b2,q4⟩:=pZ [⟨#[77,69,84,82,73,67,10]⟩,⟨#[73,78,67,72,44,84,90,10]⟩,⟨#[77,69,84,82,73,67,44,84,90,10]⟩,⟨#[73,78,67,72,44,76,90,10]⟩] i 20 oq (by decide);have hx:=b2 w;simp only[nx,nF] at hx;clear b2 oq;go_enter Tryz.func7,Tryz.ntmps7;go_upto_region 4 with fail;have aH:af (an w w (w.alloc (ai (#[aa ⟨#[77,69,84,82,73,67,10]⟩,aa ⟨#[73,78,67,72,44,84,90,10]⟩,aa ⟨#[77,69,84,82,73,67,44,84,90,10]⟩,aa ⟨#[73,78,67,72,44,76,90,10]⟩]) 9))):=(Below.refl _ _).alloc (aP _) _;clear hx hi atV;go_wp2_with fail
 go_loopw [5,6] (fun s i wr=>∃(S:Ua) (eV:Nat),s=aa S∧af (S.size≤100+13 *eV)∧eV≤204∧i=I eV∧af (an w w wr)) (fun _ i _=>204 -(intOf i).toNat)
 case atStart=>exact⟨_,0,rfl,fZ.to (by decide),by omega,rfl,aH.out⟩
 case round=>
 obtain⟨S,eV,rfl,bH,xM,rfl,aH⟩:=hrel;rename_i wr
 haveI O':fZ S.size 2752:=⟨by have:=bH.out;omega⟩
 obtain⟨DF,axL⟩:∃DF:Nat,(eV:Int)+1=DF:=⟨eV+1,by omega⟩;obtain⟨DG,axM⟩:∃DG:Nat,(eV:Int)+2=DG:=⟨eV+2,by omega⟩;obtain⟨DH,axN⟩:∃DH:Nat,(eV:Int)+3=DH:=⟨eV+3,by omega⟩;obtain⟨BB,axO⟩:∃BB:Nat,(eV:Int)+4=BB:=⟨eV+4,by omega⟩;obtain⟨Xv,axP⟩:∃Xv:Nat,(eV:Int)+5=Xv:=⟨eV+5,by omega⟩;have ry:ae (DF:Int)=(DF:Int):=by rw[nE];omega
 have x4:ae (DG:Int)=(DG:Int):=by rw[nE];omega
 have ago:ae (DH:Int)=(DH:Int):=by rw[nE];omega
 have arx:ae (BB:Int)=(BB:Int):=by rw[nE];omega
 by_cases qj:(BB:Int)<(n:Int)∧(eV:Int)<200
 ·obtain⟨bb,atW⟩:=qj;have aF:(eV:Int)<(n:Int):=(by omega);have au:(DF:Int)<(n:Int):=(by omega);have ax:(DG:Int)<(n:Int):=(by omega);have aA:(DH:Int)<(n:Int):=(by omega);obtain⟨b,o,rfl,ay,lR⟩:=(H.out.below aH.out) (by omega);obtain⟨z0,aV⟩:=lR eV (by omega);obtain⟨z1,aT⟩:=lR DF (by omega);obtain⟨z2,c2⟩:=lR DG (by omega);obtain⟨z3,c3⟩:=lR DH (by omega);obtain⟨z4,cD⟩:=lR BB (by omega);have bw:af (Ri wr b (o+eV) (o+DF) (o+DG) (o+DH) (o+BB) z0 z1 z2 z3 z4 wr):=⟨aV,aT,c2,c3,cD,ay,Below.refl _ _⟩;have atX:=ao (agH bw.out (Below.refl _ _).drew);have AN:=ay;clear lR aV aT c2 c3 cD ay;go_upto_region 7 with fail
  go_region_held3 (fun Z=>Ri wr b (o+eV) (o+DF) (o+DG) (o+DH) (o+BB) z0 z1 z2 z3 z4 Z) (first|exact bw.out|exact atX.out|exact agH (by assumption) (by assumption)) (first|(go_at_call 14;(with_reducible refine (atP z0 z1 z2 z3 z4 _).mono ?_);intro e w' h;obtain⟨T,rfl,dm,eL⟩:=h.get))
  all_goals
   have gf:=ao (aH.out.trans (((Below.refl wr.heap.size wr).drew.trans eL).mono aH.out.size));clear eL;go_wp2_with fail;go_round<;>first|exact⟨_,Xv,rfl,(by show _≤_;have au:=bH.out;have ax:=dm.le;simp only[z7];show S.size+T.size+1≤_;omega),by omega,by go_num,gf.out⟩|(simp[intOf]<;>omega)
 ·have cc:af ((S++(⟨#[77,51,48,10]⟩:Ua)).size≤6000):=fZ.to (by decide);by_cases bb:(BB:Int)<(n:Int)
  ·have atW:¬(eV:Int)<200:=(by omega);clear qj;go_wp2_with fail;go_ret;exact⟨⟨_,rfl,cc.out⟩,aH.out⟩
  ·clear qj;go_wp2_with fail;go_ret;exact⟨⟨_,rfl,cc.out⟩,aH.out⟩
end yA
namespace yA
open Go.ChangeShapes Go.WideShapes Go.ChangeAt Go.RowKit gI
theorem atY{w:aeo}{a:Addr}{u:ada}(h:w.cell? a=some u):a.block<w.heap.size:=by
 rcases S3 a.block w.heap.size with eQ|eQ
 ·exact eQ
 ·simp[World.cell?,Aj eQ] at h
theorem atZ{H:Type}{enc:TypeId×Value→H}{P:Program}{r:Reach}{cH:Nat}{t e:aai}(bc:P.underlying t=some (.slice e))(he:P.underlying e=some (.int .i64))(aB:P.cellsOf e=1){W:aeo}{v:ada}{d:DataW H}{p:List MemPlace}
  (aS:Value.okWide P W r cH t v) (h:DataW.Trod enc P W 0 (fun _=>true) true t v d p):∃(a:Ja) (cap n:Nat),v=ad a n cap∧n≤cap∧cap≤maxLen∧w2 W a n:=by
 obtain⟨a,len,cap,rfl⟩:=okWide_slice bc aS;obtain⟨fuel,hf⟩:=h;have gX:(Value.slice a len cap).cells.toList=[ad a len cap]:=by simp[Value.cells]
 rw[gX] at hf;rcases open_ints bc he aB hf with ⟨eD,_⟩|⟨k1,agI,k7,axQ,eD,_,az,hm,bP,_,lR,YR⟩
 ·simp only[JI,JK] at eD;exact⟨none,0,0,eD,aP _,cO _,fun h=>absurd h (mi _)⟩
 ·simp only[JI,JK] at eD;simp only[D6] at bP;refine⟨some k1,k7,agI,eD,by omega,hm,fun aF=>?_⟩;have rH:∀i,i<agI→∃v,W.cell? (k1.add i)=some (I v):=fun i h=>⟨_,lR i (by omega)⟩;obtain⟨b,o,q⟩:=k1;cases q with
  |none=>
   refine⟨b,o,rfl,?_,fun i h=>?_⟩
   ·obtain⟨v,aS⟩:=rH 0 aF;have:=atY aS;simpa[Addr.add] using this
   ·obtain⟨v,aS⟩:=rH i h;by_cases aF:i=0
    ·subst aF;exact⟨v,by simpa[Addr.add] using aS⟩
    ·exact⟨v,by simpa[Addr.add,aF] using aS⟩
  |some q=>
   exfalso;obtain⟨v,this⟩:=rH 0 aF;simp only[World.cell?,Addr.add,D6] at this;split at this<;>simp at this
end yA
namespace LazyOwn
open Go.ChangeShapes Go.WideShapes Go.ChangeAt Go.WideMaps Go.WideElems Go.RowKit
open ef Gb c1
open mI (mN)
abbrev jh:List Value:=[I 0,I 0,I 0,I 0,I 0,I 0,I 0,I 0,J 0,J 0]
abbrev uV:List Value:=U false::jh
theorem walk(ho:Ja)(aV n0:Nat)(g0:n0≤aV)(gP:aV≤maxLen)(w:aeo)(Xw:yA.w2 w ho n0)(hg:mN w):
    Calls Tryz.prog 3 #[ad ho n0 aV] w fun e w'=>e=ab (U true)∧an w w w':=by
  have pG:=ao hg;have kn:af (Calls Tryz.prog 5 #[ad ho n0 aV,U true] w fun e w'=>(∃S,e=ab (aa S)∧S.size≤200000)∧an w w w'):=yA.atK ho n0 aV g0 gP w (ao Xw);have fp:af (∀Z,an w w Z→Calls Tryz.prog 7 #[ad ho n0 aV,U true] Z fun e w'=>(∃S:Ua,e=ab (aa S)∧S.size≤6000)∧an Z Z w'):=fun Z cN=>yA.atU ho n0 aV g0 gP Z (ao (Xw.below cN));clear Xw hg g0 gP;go_enter Tryz.func3,Tryz.ntmps3
  go_upto_region 4 with (first
    |(go_at_call 5;(with_reducible refine kn.out.mono ?_);rintro e bk ⟨⟨S,rfl,hS⟩,cj⟩)
    |(go_at_call 4;(with_reducible refine (afU _ _ _).mono ?_);rintro e w' ⟨rfl,rfl⟩)
    |(go_at_call 7;(with_reducible refine (fp.out _ (cj.trans ((bh _ _).mono cj.size))).mono ?_);rintro e db ⟨⟨T,rfl,dm⟩,eF⟩)
    |(go_at_call 6;(with_reducible refine (afW _ _ _).mono ?_);rintro e w' ⟨rfl,rfl⟩)
    |fail)
  have agJ:S.size≤200000:=hS;have Rj:(db.alloc (ai (mh T 1000 0 0 0 (J 0) 0 0) lk)).heap[bk.heap.size]?=some (.cells (mV S 1000 0 0 0 0 (J 0) 0 0) kY):=ba (ba (cR _ _) eF) (bh _ _);have M9:(db.alloc (ai (mh T 1000 0 0 0 (J 0) 0 0) lk)).heap[db.heap.size]?=some (.cells (mh T 1000 0 0 0 (J 0) 0 0) lk):=cR _ _;have k':(bk.alloc (ai (mV S 1000 0 0 0 0 (J 0) 0 0) kY)).heap.size=bk.heap.size+1:=l' _;have jy:w.heap.size≤bk.heap.size∧bk.heap.size<db.heap.size:=⟨cj.size,by have:=eF.size;omega⟩;have Xx:an w w (db.alloc (ai (mh T 1000 0 0 0 (J 0) 0 0) lk)):=(cj.trans ((bh _ _).mono cj.size)).trans ((eF.trans ((bh _ _).mono eF.size)).mono (by omega));have Rk:db.heap.size<(db.alloc (ai (mh T 1000 0 0 0 (J 0) 0 0) lk)).heap.size:=lt_of_heap M9;clear hS cj eF k' kn fp;generalize db.alloc (.cells (mh T 1000 0 0 0 (J 0) 0 0) lk)=bZ at Rj M9 Xx Rk⊢;generalize bk.heap.size=X at Rj jy⊢;generalize db.heap.size=Y at M9 jy Rk⊢;have tt:=ao Rj;have agK:=ao M9;have so:=ao (And.intro jy Rk);have iJ:=ao Xx;have oZ:=ao agJ;have LR:af (T.size≤900000):=(by show _≤_;omega);clear Rj M9 jy Xx Rk agJ dm;have B4:=afP X S 1000 oZ.out bZ tt.out;go_upto_region 5 with (first|(go_at_call 8;(with_reducible refine B4.mono ?_);rintro e br ⟨aD,i,f,ep,dU,eP,d,s1,rfl,x9,ib,nX,pV,tV,x6,_⟩)|fail);obtain⟨n,hn⟩:∃n,aD.length=n:=⟨_,rfl⟩;have bd:=ao hn;have ru:af (∀o∈aD,Plain o.2):=fun o a1=>afO (x6.out.1 o a1);have bT:af (an w w br):=iJ.out.trans (tV.out.below w.heap.size iJ.out.size (fun k aw=>by have:=so.out;omega));have wx:af (br.heap[Y]?=some (.cells (mh T 1000 0 0 0 (J 0) 0 0) lk)):=tV.out.get (S:=fun k=>k≠X) (by have:=so.out;omega) agK.out;have agL:=afY Y T LR.out 1000 (by decide) br (pG.out.below bT.out) wx.out;rw[hn];clear B4 hn;go_upto_region 6 with (first|(go_at_call 9;(with_reducible refine agL.mono ?_);rintro e b' ⟨sH,bq,i2,f2,wY,wZ,R,bJ,d2,rfl,B',sf,np,fE,n1⟩)|fail);obtain⟨m,hm⟩:∃n,bq.length=n:=⟨_,rfl⟩;have yY:=ao hm;have Rl:af (an w w b'):=(by have au:=bT.out.trans (np.out.below w.heap.size bT.out.size (fun k aw=>by have:=so.out;omega));exact au.trans (fE.out.mono au.size));have Rm:af (aK (fun k=>k≠Y) br b'):=np.out.trans (.c4 fE.out);have Fs:af (b'.heap[X]?=some (.cells (mV S 1000 1 0 0 1 (ad ep aD.length dU) i f) kY)):=Rm.out.get (S:=fun k=>k≠Y) (by have:=so.out;omega) x9.out;have kW:af (gz (fun k=>bZ.heap.size≤k∧k<s1) b' ep aD):=ib.out.keep (Rm.out.mono fun k aw au=>by have:=so.out;omega);have CT:af (gz (fun k=>s1≤k∧k<br.heap.size) b' eP aD):=nX.out.lt.keep (Rm.out.mono fun k aw au=>by have:=so.out;have:=pV.out;omega);have agM:=afR X S 1000 aD ru.out i f _ ep dU b' Fs.out kW;rw[hm];clear agL hm;go_upto_region 7 with (first|(go_at_call 8;(with_reducible refine agM.mono ?_);rintro e hV ⟨dT,d3,rfl,agN,mS⟩)|fail);have M':af (z6 T 1000 Y bq i2 f2 wY wZ (fun k=>br.heap.size≤k∧k<sH.heap.size) hV):=(by have au:=B'.out;have ax:z6 T 1000 Y bq i2 f2 wY wZ (fun k=>br.heap.size≤k∧k<sH.heap.size) sH:=⟨au.1,au.2.1.lt.mono fun k _ aA=>⟨sf.out.1 k aA.1,aA.2⟩,au.2.2⟩;exact (ax.below fE.out).below mS.out);have agO:=afZ Y T 1000 bq i2 f2 wY wZ _ hV M'.out;rw[bd.out];clear agM;go_upto_region 8 with (first|(go_at_call 9;(with_reducible refine agO.mono ?_);rintro e o' ⟨hz,d4,rfl,yB,agP⟩)|fail);rw[yY.out];clear agO;have Rn:af (bZ.heap.size≤s1∧s1≤br.heap.size∧br.heap.size≤sH.heap.size∧sH.heap.size≤b'.heap.size∧b'.heap.size≤hV.heap.size):=⟨pV.out.1,pV.out.2,np.out.size,fE.out.size,mS.out.size⟩;obtain⟨A,hA⟩:∃A,A=atb s1 br.heap.size sH.heap.size b'.heap.size:=⟨_,rfl⟩;have axR:=ao hA;have DI:∀k,(k<s1∨br.heap.size≤k∧k<sH.heap.size∨b'.heap.size≤k)→¬A k:=fun k aw h=>by rw[hA] at h;have ax:=Rn.out;rcases h with h|h<;>omega
  have mL:af (Gd A X Y S T aD bq i f i2 f2 ep dT dU wY hz wZ o'):=by
    have dM:=mS.out.trans (yB.out.mono mS.out.size);have ax:=Rn.out;have aA:=so.out
    exact ⟨ba Fs.out dM,DI _ (.inl (by omega)),(kW.out.below dM).mono fun k _ h=>DI k (.inl h.2),(agN.out.below yB.out).mono fun k _ h=>DI k (.inr (.inr h)),DI _ (.inl (by omega)),
      ⟨((M'.out.below yB.out).1),(M'.out.below yB.out).2.1.mono (fun k _ h=>DI k (.inr (.inl h))),(M'.out.below yB.out).2.2⟩,agP.out.mono fun k _ h=>DI k (.inr (.inr (cd ax.2.2.2.2 h)))⟩
  have Bn:af (gz A o' eP aD):=(((CT.out.below mS.out).below yB.out).mono fun k _ h=>by rw[hA];exact .inl h);have My:af (iA A o' bJ bq):=((((n1.out.lt.below mS.out).below yB.out)).mono fun k _ h=>by rw[hA];exact .inr h);have gH:af (an w w o'):=(Rl.out.trans (mS.out.mono Rl.out.size)).trans (yB.out.mono (cd Rl.out.size mS.out.size));have at0:af (∀k,k<w.heap.size→¬A k):=fun k aw=>DI k (.inl (by have:=so.out;have:=Rn.out;omega));have oW:Calls Tryz.prog 10 #[ad eP n d,ad dT n d3] o' fun e w'=>e=ab (U true)∧an o' o' w':=af8 A _ aD n bd.out.symm eP dT d d3 o' Bn (ao mL.out.Bl);have tK:∀Z,an o' o' Z→Calls Tryz.prog 11 #[ad bJ m d2,ad hz m d4] Z fun e w'=>e=ab (U true)∧an Z Z w':=fun Z cN=>aga A _ bq m yY.out.symm bJ hz d2 d4 Z (ao (My.out.below cN)) (ao (mL.out.W'.below cN));have iX:n≤1000000:=(by rw[←bd.out];exact x6.out.2);have mC:m≤100000:=(by rw[←yY.out];exact mL.out.dl.2.2.2);clear hA DI tt agK iJ oZ LR x9 ib nX pV tV x6 bT wx B' sf np fE n1 Rl Rm Fs kW CT agN mS M' yB agP Rn so
  go_upto_region 10 with (first
    |(go_at_call 10;(with_reducible refine oW.mono ?_);rintro e GD ⟨rfl,jP⟩)
    |(go_at_call 11;(with_reducible refine (tK _ jP).mono ?_);rintro e ue ⟨rfl,agQ⟩)
    |fail)
  have Na:=jP.trans (agQ.mono jP.size);have en:=ao (mL.out.below Na);have cJ:=ao (Bn.out.below Na);have bH:=ao (My.out.below Na);have aH:=ao (gH.out.trans (Na.mono gH.out.size));clear oW tK jP agQ Na mL Bn My gH
  obtain⟨g,o,cs,fy⟩:∃(g o:Nat) (cs:ajv),af (0<n→eP=some ⟨g,o,none⟩∧A g∧ue.heap[g]?=some (.cells cs fA)∧o+n *11≤cs.size):=by
    by_cases aF:0<n
    · obtain⟨g,o,cs,au,ax,aA,bb⟩:=cJ.out.jn (by rw[bd.out];exact aF)
      rw[bd.out] at bb;exact⟨g,o,cs,fun _=>⟨au,ax,aA,bb⟩⟩
    · exact⟨0,0, #[],fun h=>absurd h aF⟩
  go_wp2_with fail
  go_loopw [76] (fun i wr=>∃(k:Nat) (aL:aeo),aL=wr∧k≤n∧i=I k∧af (jR A ue aL)∧af (0<n→vG g o (k *11) fA cs aL)) (fun i _=>n -(intOf i).toNat)
  case atStart=>exact⟨0,_,rfl,cO _,rfl,.refl _ _,fun h=>⟨cs,(fy.out h).2.2.1,rfl,fun _ _=>rfl⟩⟩
  case round=>
  obtain⟨k,aL,rfl,aw,rfl,bN,aQ⟩:=hrel;by_cases bm:k<n
  · have fD:(k:Int)<(n:Int):=by omega
    have jY:(0:Int)≤(k:Int):=(by omega);have gD:k<aD.length:=(by rw[bd.out];exact bm);obtain⟨rfl,at1,aI,Al⟩:=fy.out (by omega);have dp:=aQ.out (by omega);obtain⟨⟨Q8,⟨mu,os⟩⟩,aG⟩:∃e,aD[k]=e:=⟨_,rfl⟩;obtain⟨ea,eS,pl,cl,pp,cp,aY,_,_,ff,cH,cw,bl,ll,AL,U2,agR,agS,agU,A6,tZ⟩:=cJ.out.at gD aG;cases aY;obtain⟨nl,eU⟩:∃n,mu.l.length=n:=⟨_,rfl⟩;obtain⟨eA,oF⟩:∃n,os.len=n:=⟨_,rfl⟩;have axS:nl≤1000000000:=(by rw[←eU];exact ff.l.1);have axT:eA≤1000000000:=(by rw[←oF];exact ff.p.1);rw[eU] at A6;rw[oF] at tZ;have r9:=ao eU;have HY:=ao oF;have qM:=ao ff;have Ro:=ao aI;have bG:af (aL.cell? ⟨g,o+k *11,none⟩=some (U Q8)∧aL.cell? ⟨g,o+k *11+1,none⟩=some (I mu.k)∧aL.cell? ⟨g,o+k *11+2,none⟩=some (I mu.a.1)∧aL.cell? ⟨g,o+k *11+3,none⟩=some (I mu.a.2)∧aL.cell? ⟨g,o+k *11+4,none⟩=some (I mu.b.1)∧aL.cell? ⟨g,o+k *11+5,none⟩=some (I mu.b.2)∧aL.cell? ⟨g,o+k *11+6,none⟩=some (I mu.c.1)∧aL.cell? ⟨g,o+k *11+7,none⟩=some (I mu.c.2)∧aL.cell? ⟨g,o+k *11+8,none⟩=some (I mu.r)):=⟨dp.cell aI (by omega) cH,dp.cell aI (by omega) cw,dp.cell aI (by omega) bl,dp.cell aI (by omega) ll,dp.cell aI (by omega) AL,dp.cell aI (by omega) U2,dp.cell aI (by omega) agR,dp.cell aI (by omega) agS,dp.cell aI (by omega) agU⟩;have Rp:=ao (dp.cell aI (by omega) A6);have Nb:=ao (dp.cell aI (by omega) tZ);have GV:=ao dp;have bB:=Rp.out;clear cH cw bl ll AL U2 agR agS agU A6 tZ ff eU oF dp aI aG Al;go_wp2_with fail
    go_loopw [86] (fun i wr=>∃(j:Nat) (d':aeo),d'=wr∧j≤nl∧i=I j∧af (jR A ue d')∧af (d'.heap[g]?=aL.heap[g]?)) (fun i _=>nl -(intOf i).toNat)
    case atStart=>exact⟨0,_,rfl,cO _,rfl,bN.out,rfl⟩
    case round=>
    obtain⟨j,d',rfl,b6,rfl,Xy,Rq⟩:=hrel;clear bB;have d9:=q' Rq.out Rp.out;by_cases uY:j<nl
    · have at2:(j:Int)<(nl:Int):=by omega
      have qG:(0:Int)≤(j:Int):=(by omega);have agV:j<mu.l.length:=(by rw[r9.out];exact uY);obtain⟨g1,ek,NV,rfl,hA1,Ao,eD⟩:=qM.out.l.2 (Nat.lt_of_le_of_lt (cO _) agV);obtain⟨bI,aT,lB,_,qA⟩:=eD j agV;obtain⟨Jj,Rr⟩:∃n,mu.l[j].length=n:=⟨_,rfl⟩;have axU:Jj≤1000000000:=(by rw[←Rr];exact qA.1);rw[Rr] at lB;have at3:=ao Ao;have rm:=ao lB;have qI:=ao qA;have mB:=ao Rr;have d1:=cell_of (Xy.out.nC _ _ Ao) lB;clear eD Ao lB qA Rr;go_wp2_with fail
      go_loopw [99] (fun i wr=>∃(r:Nat) (nI:aeo),nI=wr∧r≤Jj∧i=I r∧af (jR A ue nI)∧af (nI.heap[g]?=aL.heap[g]?)) (fun i _=>Jj -(intOf i).toNat)
      case atStart=>exact⟨0,_,rfl,cO _,rfl,Xy.out,Rq.out⟩
      case round=>
      obtain⟨r,nI,rfl,hr,rfl,gB,mW⟩:=hrel;clear d9 d1;by_cases agW:r<Jj
      · have Nc:(r:Int)<(Jj:Int):=by omega
        have tz:(0:Int)≤(r:Int):=(by omega);have d9:=q' mW.out Rp.out;have d1:=cell_of (gB.out.nC _ _ at3.out) rm.out;obtain⟨g2,bV,p6,rfl,hA2,ed,k'⟩:=qI.out.jn (by rw[mB.out];omega);rw[mB.out] at k';obtain⟨u0,e9⟩:=gB.out.ex ed (i:=bV+r *2) (by omega);obtain⟨u1,aY⟩:=gB.out.ex ed (i:=bV+r *2+1) (by omega);have f0:=gB.out.fr ed (bV+r *2);have f1:=gB.out.fr ed (bV+r *2+1);obtain⟨cv,kC,_⟩:=gB.out.row _ _ _ ed;have jb:af (g≠g2):=W9 Ro.out ed (by decide);have vg:af (jR A ue (ur nI g2 (bV+r *2) [I 1,I 0])):=gB.out.trans (.put hA2 (by decide) _ _ _ _ kC);have Nd:af ((ur nI g2 (bV+r *2) [I 1,I 0]).heap[g]?=aL.heap[g]?):=(Q' jb.out _ _ _).trans mW.out;clear ed k' kC;go_wp2_with fail;go_round<;>first|exact⟨r+1,_,rfl,by omega,by go_num,vg.out,Nd.out⟩|(simp[intOf]<;>omega)
      · have Nc:¬(r:Int)<(Jj:Int):=by omega
        go_wp2_with fail;go_round<;>first|exact⟨j+1,_,rfl,by omega,by go_num,gB.out,mW.out⟩|(simp[intOf]<;>omega)
    · have at2:¬(j:Int)<(nl:Int):=by omega
      clear d9;go_upto_region 22 with fail;go_region
      all_goals
        have Jk:=fun v=>ao (Xy.out.trans (jR.below (A:=A) ((Below.refl d'.heap.size d').alloc (aP _) (ai (#[U v]) 4)).drew));have DJ:=fun v=>ao (((((Below.refl d'.heap.size d').alloc (aP _) (ai (#[U v]) 4)).drew).block g (lt_of_heap (Rq.out.trans GV.out.choose_spec.1))).trans Rq.out);have d10:=q' (DJ false).out Nb.out;have d11:=q' (DJ true).out Nb.out;go_upto_if 117 with fail;go_cut [] (fun cq=>af (jR A ue cq)∧af (cq.heap[g]?=aL.heap[g]?))
        case first=>
          cases cW:((eA:Int) !=0)
          all_goals
            go_wp2_with fail
            first
              |(go_meet;exact⟨(Jk true).out,(DJ true).out⟩)
              | (go_loopw [138] (fun i wr=>∃(r:Nat) (nI:aeo),nI=wr∧r≤eA∧i=I r∧af (jR A ue nI)∧af (nI.heap[g]?=aL.heap[g]?)) (fun i _=>eA -(intOf i).toNat)
                 case atStart=>exact⟨0,_,rfl,cO _,rfl,by first|exact (Jk false).out|exact (Jk true).out,by first|exact (DJ false).out|exact (DJ true).out⟩
                 case round=>
                 obtain⟨r,nI,rfl,hr,rfl,gB,mW⟩:=hrel;clear d10 d11 cW;by_cases agW:r<eA
                 · have Nc:(r:Int)<(eA:Int):=by omega
                   have tz:(0:Int)≤(r:Int):=(by omega);have d10:=q' mW.out Nb.out;obtain⟨g2,bV,p6,rfl,hA2,ed,k'⟩:=qM.out.p.jn (by show 0<os.len;rw[HY.out];omega);have uO:bV+os.len *11≤p6.size:=k';rw[HY.out] at uO;obtain⟨dH,e9⟩:=gB.out.ex ed (i:=bV+r *11) (by omega);obtain⟨c0,aY⟩:=gB.out.ex ed (i:=bV+r *11+1) (by omega);obtain⟨ee,a6⟩:=gB.out.ex ed (i:=bV+r *11+2) (by omega);obtain⟨y3,cV⟩:=gB.out.ex ed (i:=bV+r *11+3) (by omega);obtain⟨y4,iI⟩:=gB.out.ex ed (i:=bV+r *11+4) (by omega);obtain⟨j1,lu⟩:=gB.out.ex ed (i:=bV+r *11+5) (by omega);obtain⟨y6,kO⟩:=gB.out.ex ed (i:=bV+r *11+6) (by omega);obtain⟨h6,tm⟩:=gB.out.ex ed (i:=bV+r *11+7) (by omega);obtain⟨j2,xp⟩:=gB.out.ex ed (i:=bV+r *11+8) (by omega);obtain⟨k9,hb⟩:=gB.out.ex ed (i:=bV+r *11+9) (by omega);obtain⟨Hc,xq⟩:=gB.out.ex ed (i:=bV+r *11+10) (by omega);have dk:=gB.out.fr ed;obtain⟨cv,kC,_⟩:=gB.out.row _ _ _ ed;have jb:af (g≠g2):=W9 Ro.out ed (by decide);have vg:af (jR A ue (ur nI g2 (bV+r *11) uV)):=gB.out.trans (.put hA2 (by decide) _ _ _ _ kC);have Nd:af ((ur nI g2 (bV+r *11) uV).heap[g]?=aL.heap[g]?):=(Q' jb.out _ _ _).trans mW.out;clear ed k' uO kC;go_wp2_with fail;go_round<;>first|exact⟨r+1,_,rfl,by omega,by go_num,vg.out,Nd.out⟩|(simp[intOf]<;>omega)
                 · have Nc:¬(r:Int)<(eA:Int):=by omega
                   go_wp2_with fail;go_meet;exact⟨gB.out,mW.out⟩)
              | (go_loopw [126] (fun i wr=>∃(r:Nat) (nI:aeo),nI=wr∧r≤eA∧i=I r∧af (jR A ue nI)∧af (nI.heap[g]?=aL.heap[g]?)) (fun i _=>eA -(intOf i).toNat)
                 case atStart=>exact⟨0,_,rfl,cO _,rfl,by first|exact (Jk false).out|exact (Jk true).out,by first|exact (DJ false).out|exact (DJ true).out⟩
                 case round=>
                 obtain⟨r,nI,rfl,hr,rfl,gB,mW⟩:=hrel;clear d10 d11 cW;by_cases agW:r<eA
                 · have Nc:(r:Int)<(eA:Int):=by omega
                   have tz:(0:Int)≤(r:Int):=(by omega);have d10:=q' mW.out Nb.out;obtain⟨g2,bV,p6,rfl,hA2,ed,k'⟩:=qM.out.p.jn (by show 0<os.len;rw[HY.out];omega);have uO:bV+os.len *11≤p6.size:=k';rw[HY.out] at uO;obtain⟨dH,e9⟩:=gB.out.ex ed (i:=bV+r *11) (by omega);obtain⟨c0,aY⟩:=gB.out.ex ed (i:=bV+r *11+1) (by omega);obtain⟨ee,a6⟩:=gB.out.ex ed (i:=bV+r *11+2) (by omega);obtain⟨y3,cV⟩:=gB.out.ex ed (i:=bV+r *11+3) (by omega);obtain⟨y4,iI⟩:=gB.out.ex ed (i:=bV+r *11+4) (by omega);obtain⟨j1,lu⟩:=gB.out.ex ed (i:=bV+r *11+5) (by omega);obtain⟨y6,kO⟩:=gB.out.ex ed (i:=bV+r *11+6) (by omega);obtain⟨h6,tm⟩:=gB.out.ex ed (i:=bV+r *11+7) (by omega);obtain⟨j2,xp⟩:=gB.out.ex ed (i:=bV+r *11+8) (by omega);obtain⟨k9,hb⟩:=gB.out.ex ed (i:=bV+r *11+9) (by omega);obtain⟨Hc,xq⟩:=gB.out.ex ed (i:=bV+r *11+10) (by omega);have dk:=gB.out.fr ed;obtain⟨cv,kC,_⟩:=gB.out.row _ _ _ ed;have jb:af (g≠g2):=W9 Ro.out ed (by decide);have vg:af (jR A ue (ur nI g2 (bV+r *11) uV)):=gB.out.trans (.put hA2 (by decide) _ _ _ _ kC);have Nd:af ((ur nI g2 (bV+r *11) uV).heap[g]?=aL.heap[g]?):=(Q' jb.out _ _ _).trans mW.out;clear ed k' uO kC;go_wp2_with fail;go_round<;>first|exact⟨r+1,_,rfl,by omega,by go_num,vg.out,Nd.out⟩|(simp[intOf]<;>omega)
                 · have Nc:¬(r:Int)<(eA:Int):=by omega
                   go_wp2_with fail;go_meet;exact⟨gB.out,mW.out⟩)
        case rest=>
        obtain⟨gB,mW⟩:=hcut;clear Jk DJ d10 d11;have aI:=Ro.out;have hb:=q' mW.out Rp.out;have xq:=q' mW.out Nb.out;have e9:=q' mW.out bG.out.1;have aY:=q' mW.out bG.out.2.1;have a6:=q' mW.out bG.out.2.2.1;have cV:=q' mW.out bG.out.2.2.2.1;have iI:=q' mW.out bG.out.2.2.2.2.1;have lu:=q' mW.out bG.out.2.2.2.2.2.1;have kO:=q' mW.out bG.out.2.2.2.2.2.2.1;have tm:=q' mW.out bG.out.2.2.2.2.2.2.2.1;have xp:=q' mW.out bG.out.2.2.2.2.2.2.2.2;have AV:=GV.out.Ip mW.out;have dk:=AV.fr;obtain⟨cv,kC,_⟩:=gB.out.row _ _ _ aI;have vg:af (jR A ue (ur wc g (o+k *11) uV)):=gB.out.trans (.put at1 (by decide) _ _ _ _ kC);have at4:af (vG g o ((k+1) *11) fA cs (ur wc g (o+k *11) uV)):=vG.put (g:=g) (o:=o) (m:=k *11) (n:=(k+1) *11) (i:=o+k *11) (t:=fA) (cs:=cs) (w:=wc) AV uV (by show o+k *11+11≤_;omega) (by omega);clear aI AV kC;go_wp2_with fail;go_round<;>first|exact⟨k+1,_,rfl,by omega,by go_num,vg.out,fun _=>at4.out⟩|(simp[intOf]<;>omega)
  · have fD:¬(k:Int)<(n:Int):=by omega
    have nQ:=bN;clear aQ bN;go_wp2_with fail
    go_loopw [158] (fun i wr=>∃(k:Nat) (aL:aeo),aL=wr∧k≤m∧i=I k∧af (jR A ue aL)) (fun i _=>m -(intOf i).toNat)
    case atStart=>exact⟨0,_,rfl,cO _,rfl,nQ.out⟩
    case round=>
    obtain⟨k,aL,rfl,aw,rfl,bN⟩:=hrel;by_cases bm:k<m
    · have fD:(k:Int)<(m:Int):=by omega
      have jY:(0:Int)≤(k:Int):=(by omega);obtain⟨g2,bV,p6,rfl,hA2,ed,k'⟩:=bH.out.jn (by rw[yY.out];omega);rw[yY.out] at k';obtain⟨dH,e9⟩:=bN.out.ex ed (i:=bV+k *10) (by omega);obtain⟨c0,aY⟩:=bN.out.ex ed (i:=bV+k *10+1) (by omega);obtain⟨ee,a6⟩:=bN.out.ex ed (i:=bV+k *10+2) (by omega);obtain⟨y3,cV⟩:=bN.out.ex ed (i:=bV+k *10+3) (by omega);obtain⟨y4,iI⟩:=bN.out.ex ed (i:=bV+k *10+4) (by omega);obtain⟨j1,lu⟩:=bN.out.ex ed (i:=bV+k *10+5) (by omega);obtain⟨y6,kO⟩:=bN.out.ex ed (i:=bV+k *10+6) (by omega);obtain⟨h6,tm⟩:=bN.out.ex ed (i:=bV+k *10+7) (by omega);obtain⟨j2,xp⟩:=bN.out.ex ed (i:=bV+k *10+8) (by omega);obtain⟨k9,hb⟩:=bN.out.ex ed (i:=bV+k *10+9) (by omega);have dk:=bN.out.fr ed;obtain⟨cv,kC,_⟩:=bN.out.row _ _ _ ed;have vg:af (jR A ue (ur aL g2 (bV+k *10) jh)):=bN.out.trans (.put hA2 (by decide) _ _ _ _ kC);clear ed k' kC;go_wp2_with fail;go_round<;>first|exact⟨k+1,_,rfl,by omega,by go_num,vg.out⟩|(simp[intOf]<;>omega)
    · have fD:¬(k:Int)<(m:Int):=by omega
      have gW:=ao (en.out.mut bN.out);have il:af (an w w aL):=aH.out.trans (bN.out.keep.below w.heap.size aH.out.size at0.out);have agX:=afR X S 1000 aD ru.out i f _ ep dU aL gW.out.hx (ao gW.out.os);clear bN en fy cJ bH;go_upto_region 42 with (first|(go_at_call 8;(with_reducible refine agX.mono ?_);rintro e agY ⟨mP,d5,rfl,agZ,Xz⟩)|fail);rw[bd.out];have jw:=ao (gW.out.below Xz.out);have Dr:af (an w w agY):=il.out.trans (Xz.out.mono il.out.size);have ag0:=afZ Y T 1000 bq i2 f2 wY wZ _ agY jw.out.dl;clear agX gW il Xz;go_upto_region 43 with (first|(go_at_call 9;(with_reducible refine ag0.mono ?_);rintro e Gf ⟨fh,d6,rfl,Rs,ag1⟩)|fail);rw[yY.out];have ko:=ao (jw.out.below Rs.out);have at5:=ao (agZ.out.below Rs.out);have ag2:af (an w w Gf):=Dr.out.trans (Rs.out.mono Dr.out.size);have oW:Calls Tryz.prog 10 #[ad mP n d5,ad dT n d3] Gf fun e w'=>e=ab (U true)∧an Gf Gf w':=af8 _ _ aD n bd.out.symm mP dT d5 d3 Gf at5 (ao ko.out.Bl);have tK:∀Z,an Gf Gf Z→Calls Tryz.prog 11 #[ad fh m d6,ad hz m d4] Z fun e w'=>e=ab (U true)∧an Z Z w':=fun Z cN=>aga _ _ bq m yY.out.symm fh hz d6 d4 Z (ao (ag1.out.below cN)) (ao (ko.out.W'.below cN));have at6:∀Z,an w w Z→Calls Tryz.prog 12 #[] Z fun e w'=>e=ab (U true)∧an Z Z w':=fun Z cN=>atg Z (pG.out.below cN);clear ag0 jw agZ Dr Rs ag1
      go_wp2_with (first
        |(go_at_call 10;(with_reducible refine oW.mono ?_);rintro e axV ⟨rfl,XA⟩)
        |(go_at_call 11;(with_reducible refine (tK _ XA).mono ?_);rintro e axW ⟨rfl,at7⟩;have C9:=ag2.out.trans ((XA.trans (at7.mono XA.size)).mono ag2.out.size))
        |(go_at_call 12;(with_reducible refine (at6 _ C9).mono ?_);rintro e axX ⟨rfl,aua⟩)
        |fail)
      go_ret;exact⟨rfl,C9.trans (aua.mono C9.size)⟩
end LazyOwn
namespace Rt
open Go.ChangeShapes Go.WideShapes Go.ChangeAt Go.RowKit gI
theorem own:ownKnob Tryz.prog.godebug=none:=by kernel_rfl
theorem laidOut:laidOutB Tryz.prog=true:=by kernel_rfl
theorem ag3{H:Type}{enc:TypeId×Value→H}{P:Program}(az:laidOutB P=true){W jN:aeo}(ay:an W W jN):
  ∀{ts:List TypeId} {vs:aev} {dU:List (DataW H)} {ps:List MemPlace},(ts.all fun t=>P.readableRec t&&decide (t<P.types.size))=true→
   DataW.TrodAll enc P W 0 (fun _=>true) true ts vs dU ps→(∀x∈ps,x.block<W.heap.size)→DataW.TrodAll enc P jN 0 (fun b=>decide (b<W.heap.size)) true ts vs dU ps
 |[],[],[],_,_,h,_=>h
 |[],[],_::_,_,_,h,_=>h.elim
 |[],_::_,[],_,_,h,_=>h.elim
 |[],_::_,_::_,_,_,h,_=>h.elim
 |_::_,[],_,_,_,h,_=>h.elim
 |_::_,_::_,[],_,_,h,_=>h.elim
 |t::ts,v::vs,d::dU,ps,hr,h,bm=>by obtain⟨p,q,au,ax,rfl⟩:=h;simp only[List.all_cons,qv,p0] at hr;exact⟨p,q,Below.trod az hr.1.1 hr.1.2 au ay (fun x hx=>bm x (by simp[hx])),ag3 az ay hr.2 ax (fun x hx=>bm x (by simp[hx])),rfl⟩
end Rt
namespace LazyOwn
open Go.ChangeShapes Go.WideShapes Go.ChangeAt Go.RowKit
theorem closed:joinedFacts Tryz.pinned.checked.prog 3 Tryz.f3 Rows.lazyOwnSpec Rows.lazyOwnRow=true:=by
 unfold joinedFacts;simp only[qv]
 repeat' (apply And.intro)
 all_goals (as_aux_lemma=>kernel_rfl)
end LazyOwn
namespace Rt
open Go.ChangeShapes Go.WideShapes Go.ChangeAt Go.RowKit gI mI
theorem aub{w:aeo}(h:w.ShapedOpen Tryz.prog):mN w:=
 cell_of_shapedOpen_int (P:=Tryz.prog) (g:=0) (t:=3) (zero:= #[I 0]) h (of_decide_eq_true (by kernel_rfl)) (by kernel_rfl) rfl (by kernel_rfl) (by kernel_rfl) qz
theorem auc{os:Os}(started:os.Started){f:FuncId}{fn:Func}{s:ChangeSpec}{laid:List (String×DataW Unit)}{H:Type}{enc:TypeId×Value→H}
  (aud:Tryz.prog.inits.idxOf? f=none) (XB:Tryz.prog.funcs[f]?=some fn) (XC:s.vars=[]) (c6:fn.resultTypes= #[4])
  (aue:(fn.params.toList.all fun t=>Tryz.prog.readableRec t&&decide (t<Tryz.prog.types.size))=true)
  (XD:∀dU:List (DataW H),dU.length=fn.params.size→s.fn H (dU++[])={results:=[.lit (.bool true)],args:=dU,vars:=[]})
  (witness:∃(w:aeo) (tape:Tape) (i:Input),w.os=os∧(w.forCall tape i).Shaped Tryz.prog∧i.vars=[]∧Input.okWide Tryz.prog (w.forCall tape i) .any w.heap.size f i∧
   ((s.pre enc Tryz.prog fn [] false (w.forCall tape i).memory i.args∧laidMetH Tryz.prog laid (w.forCall tape i).memory)∧sizedMet enc Tryz.prog fn (OpenSpec.ofChange s) false (w.forCall tape i).memory i.args)∧({}:Assume).holds Tryz.prog (lone (Frame.enter Tryz.prog f i.args .normal) [] (w.forCall tape i)))
  (walk:∀(W:aeo) (base:Nat) (args:ajv) (dU:List (DataW H)) (p:List MemPlace),
   (∀(j:Nat) t v,fn.params[j]?=some t→args[j]?=some v→Value.okWide Tryz.prog W .any base t v)→
   DataW.TrodAll enc Tryz.prog W 0 (fun _=>true) true fn.params.toList args.toList dU p→
   (DataW.weightsEach Tryz.prog fn.params.toList dU).all (· ≤reachBytes)=true→
   W.noneFrozen p→laidMetH Tryz.prog laid W→mN W→Calls Tryz.prog f args W fun e jN=>e=ab (U true)∧an W W jN):
  ReturnsInHanded {} Tryz.checked os f .any (fun w args=>(s.pre enc Tryz.prog fn [] false w args∧laidMetH Tryz.prog laid w)∧sizedMet enc Tryz.prog fn (OpenSpec.ofChange s) false w args) (s.post enc Tryz.prog fn false true false false):=by
 refine returnsInHanded_of_calls own started aud witness ?_;intro w0 tape i _ ff _ fL YL _;obtain⟨_,_,_,auf,aug,_,_,_,_,Nf⟩:=fL;obtain rfl:fn=auf:=wi (XB.symm.trans aug);obtain⟨⟨⟨dU,gs,before,ag4,_⟩,hx⟩,bP⟩:=YL;have cP:=DataW.Whole.of_heap (w':=w0.forCall tape i) (by rfl) ag4;have fw:=bP.weights ag4;have C6:laidMetH Tryz.prog laid (w0.forCall tape i):=hx.of_heap (by rfl);have hg:=aub ff;generalize w0.forCall tape i=W at Nf cP C6 hg⊢
 suffices key:Calls Tryz.prog f i.args W fun e jN=>∃v,e=ab v∧s.post enc Tryz.prog fn false true false false W i.args v jN by refine key.mono fun e jN ⟨v,he,hp⟩=>?_;subst he;exact ChangeSpec.post_blind hp
 have ag5:=cP;obtain⟨p,q,hA0,jK,rfl,nd,axY⟩:=cP;have hA:DataW.TrodAll enc Tryz.prog W 0 (fun _=>true) true fn.params.toList i.args.toList dU p:=hA0
 have zb:gs=[]∧q=[]:=by
  rw[XC] at jK;cases gs with
  |nil=>exact⟨rfl,jK⟩
  |cons _ _=>exact jK.elim
 obtain⟨rfl,rfl⟩:=zb;have auh:(DataW.weightsEach Tryz.prog fn.params.toList dU).all (· ≤reachBytes)=true:=by have aY:s.plain.varTypes Tryz.prog=[]:=(by show s.vars.filterMap _=[];rw[XC];rfl);have h:=fw;have a6:DataSpec.varTypes Tryz.prog (OpenSpec.ofChange s).bare.plain=[]:=aY;rw[a6,List.append_nil,List.append_nil] at h;exact h
 have bm:∀x∈p,x.block<W.heap.size:=fun x hx=>ag5.lt x (by simp[hx]);have aui:W.noneFrozen p:=by simpa using nd
 have hlen:dU.length=fn.params.size:=by
  have:∀{ts:List TypeId} {vs:aev} {dU:List (DataW H)} {ps:List MemPlace},DataW.TrodAll enc Tryz.prog W 0 (fun _=>true) true ts vs dU ps→dU.length=ts.length:=by
   intro ts
   induction ts with
   |nil=>intro vs dU ps h;cases vs<;>cases dU<;>first|rfl|exact h.elim
   |cons t ts cU=>
    intro vs dU ps h;cases vs with
    |nil=>exact h.elim
    |cons v vs=>
     cases dU with
     |nil=>exact h.elim
     |cons d dU=>
      obtain⟨p,q,_,ax,_⟩:=h;simp[cU ax]
  simpa using this hA
 refine (walk W _ _ dU p Nf hA auh aui C6 hg).mono fun e jN ⟨he,ay⟩=>?_;subst he;refine⟨_,rfl,dU,[],p++[],[],p,[],ag5,?_,?_,?_,ay.frame _,fun h=>by cases h⟩
 ·rw[XD dU hlen,c6];exact trodAll_mk1 (shut_bool Tryz.underlying4 _)
 ·rw[XD dU hlen];exact ag3 laidOut ay aue hA bm
 ·rw[XD dU hlen,XC];rfl
end Rt
