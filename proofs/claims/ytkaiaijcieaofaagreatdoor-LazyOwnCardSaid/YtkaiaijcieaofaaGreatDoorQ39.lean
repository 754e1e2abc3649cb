/- Lemmas. -/
import Derived.Test.YtkaiaijcieaofaaGreatDoorQ38
import Derived.ProofKit
set_option linter.all false
set_option maxRecDepth 100000
set_option maxHeartbeats 25600000
namespace Go.Proofs.YtkaiaijcieaofaaGreatDoor
namespace yA
open Go.RowKit gI
def zf(n:Nat)(w:aeo)(e:Ending)(w':aeo):Prop:=(∃S,e=ab (aa S)∧fZ S.size n)∧an w w w'
variable{n b o k:Nat}
theorem zf.get{w w':aeo}{e:Ending}(h:zf n w e w'):∃S,e=ab (aa S)∧fZ S.size n∧an w w w':=by obtain⟨⟨S,au,ax⟩,aA⟩:=h;exact⟨S,au,ax,aA⟩
theorem pZ(l:List ByteArray)(k n:Nat)(aw:k<l.length)(hp:∀X∈l,X.size≤n):∃X,(∀w:aeo,(w.alloc (ai ((l.map fun s=>Value.string s).toArray) 9)).cell? ⟨w.heap.size,k,none⟩=some (aa X))∧fZ X.size n:=by refine⟨l[k],fun w=>?_,⟨hp _ (k3 aw)⟩⟩;have h:=dL w (ai ((l.map fun s=>Value.string s).toArray) 9);simp only[World.cell?,h];simp[aw]
def z8(w:aeo)(b n:Nat)(W:aeo):Prop:=∃S,al W b (#[aa S]) 9∧S.size≤n∧an w w W
theorem agi{w0 w:aeo}{S xn:Ua}(h:al w b (#[aa S]) 9)(aA:an w0 w0 w)(ay:w0.heap.size≤b)(bc:xn.size≤n):z8 w0 b n ((w.setCell (aj b 0) (aa xn)).drew):=by refine⟨xn,?_,bc,(aA.setCell ay _).drew⟩;show (Array.modify _ _ _)[b]?=_;rw[vU,aW rfl,h];rfl
theorem z8.mono{w W:aeo}{m:Nat}(h:z8 w b n W)(hm:n≤m):z8 w b m W:=by obtain⟨S,au,ax,aA⟩:=h;exact⟨S,au,cd ax hm,aA⟩
theorem Rb(x:UInt8)(v:Int)(b n:Nat)(hn:n≤60)(w0 w:aeo)(ay:w0.heap.size≤b)(h:af (z8 w0 b n w)):
  Calls Tryz.prog 46 #[aa ⟨#[x]⟩,I v,ah b 0] w fun e w'=>e=ab (.tuple #[])∧z8 w0 b (n+7) w':=by
 obtain⟨S,au,ax,aA⟩:=h.out;obtain⟨k,aw,gP,dP⟩:∃k,bits .and .i64 v 16383=k∧0≤k∧k≤16383:=⟨_,rfl,by rw[iL.ZK];omega,by rw[iL.ZK];omega⟩;have aV:ak w b 0 (aa S):=by simp[World.cell?,au]
 have f0:w.frozen? ⟨b,0,none⟩=false:=by simp[World.frozen?,au]
 have H1:=ao au;have bW:=ao aA
 haveI hS:fZ S.size 60:=⟨cd ax hn⟩
 have bp:=ao ax;have hf:=fits;obtain⟨a,ha,agj,Xb⟩:∃a:Int,(k-4096=a∧¬a<0∨k=4096-a∧-a<0)∧0≤a∧a<100000:=⟨(k-4096).natAbs,by omega,by omega,by omega⟩;have PJ:=ao (fun w=>w1 5 1 a (by omega) (by omega) (show a/10/10/10/10/10=0 by omega) (by decide) (by decide) w);have wo:af (∀w,Calls Tryz.prog 28 #[I a,I 1] w (pg 5 w)):=PJ.out;clear h au ax aA PJ;rcases ha with ⟨jE,bm⟩|⟨jE,bm⟩
 ·go_enter Tryz.func46,Tryz.ntmps46;go_upto_region 3 with fail
  go_region_with (go_at_call 28;(with_reducible refine (wo.out _).mono ?_);intro e w' h;obtain⟨T,rfl,dm,rfl⟩:=h.get)
  all_goals
   go_wp2_with fail;go_end0;exact⟨rfl,agi H1.out bW.out ay (by have au:=dm.le;have ax:=bp.out;simp only[z7];show S.size+1+T.size≤_;omega)⟩
 ·have aY:k-4096= -a:=(by omega);have hw:ae a=a:=gw _ (by omega);clear jE;go_enter Tryz.func46,Tryz.ntmps46;go_upto_region 2 with fail
  go_region_with (go_at_call 28;(with_reducible refine (wo.out _).mono ?_);intro e w' h;obtain⟨T,rfl,dm,rfl⟩:=h.get)
  all_goals
   go_wp2_with fail;go_end0;exact⟨rfl,agi H1.out bW.out ay (by have au:=dm.le;have ax:=bp.out;simp only[z7];show S.size+1+1+T.size≤_;omega)⟩
theorem agk(n x y i j:Int)(w:aeo):Calls Tryz.prog 29 #[I n,I x,I y,I i,I j] w (zf 40 w):=by
 have bE:af (z8 w w.heap.size 0 (w.alloc (ai (#[aa ⟨#[]⟩]) 9))):=⟨⟨#[]⟩,dL w _,aP _,(Below.refl _ _).alloc (aP _) _⟩;obtain⟨q,aG,lB⟩:∃q:Nat,bits .and .i64 (n/256) 3=(q:Int)∧q<4:=⟨(n/256%4).toNat,by rw[iL.EA];omega,by omega⟩;go_enter Tryz.func29,Tryz.ntmps29;go_upto_region 3 with fail;generalize w.alloc (.cells #[aa ⟨#[]⟩] 9)=W at bE⊢;go_cut [21] (fun c cq=>∃uH:Bool,c=U uH∧W=cq)
 case first=>
  go_wp2_with fail
  all_goals
   go_meet;exact⟨_,rfl,rfl⟩
 case rest=>
 obtain⟨uH,rfl,rfl⟩:=hcut;go_upto_if 21 with fail;go_cut [] (fun cq=>af (z8 w w.heap.size 7 cq))
 case first=>
  cases uH with
  |true=>
   go_wp2_with fail;refine (Rb 88 x _ 0 (by decide) w _ (aP _) bE).mono ?_;rintro e bt ⟨rfl,ax⟩;clear bE;have bE:=ao ax;clear ax;go_wp2_with fail;go_meet;exact bE.out
  |false=>
   go_wp2_with fail;go_meet;exact bE.out.mono (by decide)
 case rest=>
 have ju:=ao hcut.out;clear hcut bE;have bE:=ju;clear ju;rename_i wc;go_upto_region 5 with fail;go_cut [32] (fun c cq=>∃uH:Bool,c=U uH∧wc=cq)
 case first=>
  go_wp2_with fail
  all_goals
   go_meet;exact⟨_,rfl,rfl⟩
 case rest=>
 obtain⟨uH,rfl,rfl⟩:=hcut;go_upto_if 32 with fail;go_cut [] (fun cq=>af (z8 w w.heap.size 14 cq))
 case first=>
  cases uH with
  |true=>
   go_wp2_with fail;refine (Rb 89 y _ 7 (by decide) w _ (aP _) bE).mono ?_;rintro e bt ⟨rfl,ax⟩;clear bE;have bE:=ao ax;clear ax;go_wp2_with fail;go_meet;exact bE.out
  |false=>
   go_wp2_with fail;go_meet;exact bE.out.mono (by decide)
 case rest=>
 have ju:=ao hcut.out;clear hcut bE;have bE:=ju;clear ju;rename_i wc;go_upto_if 38 with fail;obtain⟨uH,agl⟩:∃uH:Bool,(bits .and .i64 n 12==12)=uH:=⟨_,rfl⟩;rw[agl];go_cut [] (fun cq=>af (z8 w w.heap.size 28 cq))
 case first=>
  cases uH with
  |true=>
   go_wp2_with fail;refine (Rb 73 i _ 14 (by decide) w _ (aP _) bE).mono ?_;rintro e bt ⟨rfl,ax⟩;clear bE;have bE:=ao ax;clear ax;go_wp2_with fail;refine (Rb 74 j _ 21 (by decide) w _ (aP _) bE).mono ?_;rintro e bt ⟨rfl,ax⟩;clear bE;have bE:=ao ax;clear ax;go_wp2_with fail;go_meet;exact bE.out
  |false=>
   go_wp2_with fail;go_meet;exact bE.out.mono (by decide)
 case rest=>
 have ju:=ao hcut.out;clear hcut bE;have bE:=ju;clear ju;rename_i wc;obtain⟨S,au,ax,aA⟩:=bE.out;have aed:(q:Int)<4:=by omega
 have hf:=fits
 haveI hS:fZ S.size 28:=⟨ax⟩
 obtain⟨X,b2,q4⟩:=pZ [⟨#[49]⟩,⟨#[50]⟩,⟨#[51]⟩,⟨#[49]⟩] q 1 lB (by decide);have bz:an wc wc (wc.alloc (ai (#[aa ⟨#[49]⟩,aa ⟨#[50]⟩,aa ⟨#[51]⟩,aa ⟨#[49]⟩]) 9)):=(Below.refl _ _).alloc (aP _) _;have aV:ak wc w.heap.size 0 (aa S):=by simp[World.cell?,au]
 have aT:(wc.alloc (ai (#[aa ⟨#[49]⟩,aa ⟨#[50]⟩,aa ⟨#[51]⟩,aa ⟨#[49]⟩]) 9)).cell? ⟨w.heap.size,0,none⟩=some (aa S):=(bz.cell (p:=⟨w.heap.size,0,none⟩) (Array.getElem?_eq_some_iff.1 au).1).trans aV;have c2:(wc.alloc (ai (#[aa ⟨#[49]⟩,aa ⟨#[50]⟩,aa ⟨#[51]⟩,aa ⟨#[49]⟩]) 9)).cell? ⟨wc.heap.size,q,none⟩=some (aa X):=b2 wc;have d1:=aT;have d2:=c2;have bW:=ao (aA.alloc aA.size (ai (#[aa ⟨#[49]⟩,aa ⟨#[50]⟩,aa ⟨#[51]⟩,aa ⟨#[49]⟩]) 9)).drew;clear au ax aA agl b2 bE bz d1 d2;go_wp2_with fail;go_region
 all_goals
  go_wp2_with fail;go_ret;exact⟨⟨_,rfl,⟨fZ.to (by decide)⟩⟩,bW.out⟩
theorem atm(n a b c:Int)(w:aeo):Calls Tryz.prog 47 #[I n,I a,I b,I c] w (zf 200 w):=by
 obtain⟨m1,fX,Xc⟩:∃m:Nat,bits .and .i64 (n/256) 255=(m:Int)∧m≤255:=⟨(n/256%256).toNat,by rw[iL.Ch];omega,by omega⟩;obtain⟨dP,eM,Jg⟩:∃k:Nat,(m1:Int)%6=(k:Int)∧k<6:=⟨m1%6,by omega,by omega⟩;obtain⟨m2,jH,atn⟩:∃m:Nat,bits .and .i64 (n/65536) 255=(m:Int)∧m≤255:=⟨(n/65536%256).toNat,by rw[iL.Ch];omega,by omega⟩;obtain⟨bM,jE,ato⟩:∃k:Nat,(m2:Int)%6=(k:Int)∧k<6:=⟨m2%6,by omega,by omega⟩;obtain⟨m3,G8,atp⟩:∃m:Nat,bits .and .i64 (n/16777216) 255=(m:Int)∧m≤255:=⟨(n/16777216%256).toNat,by rw[iL.Ch];omega,by omega⟩;obtain⟨fk,ih,atq⟩:∃k:Nat,(m3:Int)%7=(k:Int)∧k<7:=⟨m3%7,by omega,by omega⟩;obtain⟨m,hm,Xd⟩:∃m:Nat,bits .and .i64 n 255=(m:Int)∧m≤255:=⟨(n%256).toNat,by rw[iL.Ch];omega,by omega⟩;obtain⟨k,aw,M7⟩:∃k:Nat,(m:Int)%12=(k:Int)∧k≤11:=⟨m%12,by omega,by omega⟩;obtain⟨r,hr,tz,gY⟩:∃r,bits .and .i64 a 3=r∧0≤r∧r≤3:=⟨_,rfl,by rw[iL.EA];omega,by rw[iL.EA];omega⟩;have hf:=fits;have wo:af (∀w,Calls Tryz.prog 28 #[I (r+1),I 1] w (pg 1 w)):=fun w=>w1 1 1 _ (by omega) (by omega) (show (r+1)/ 10=0 by omega) (by decide) (by decide) w;clear Xc atn atp Xd;go_enter Tryz.func47,Tryz.ntmps47;go_upto_region 3 with fail;go_cut [11] (fun v cq=>∃X,v=aa X∧fZ X.size 10∧af (an w w cq))
 case first=>
  have pN:(dP:Int)<6:=(by omega);go_wp2_with fail;refine (agh _ _).mono ?_;intro e w' h;obtain⟨D,rfl,b4,rfl⟩:=h.get;obtain⟨X,b2,q4⟩:=pZ [⟨#[36,49]⟩,⟨#[36,50]⟩,⟨#[36,49,120,50]⟩,⟨#[40,36,50,43,49,41]⟩,⟨#[36,49,47,52]⟩,D] dP 10 Jg (by simp only[List.forall_mem_cons];exact⟨by decide,by decide,by decide,by decide,by decide,b4.le,by simp⟩);have hx:=b2 w;simp only[nx,nF] at hx;clear b2;go_wp2_with fail;go_meet;exact⟨_,rfl,q4,(Below.refl _ _).alloc (aP _) _⟩
 case rest=>
 obtain⟨X,rfl,b2,aH⟩:=hcut;go_upto_region 4 with fail;go_cut [12] (fun v cq=>∃X,v=aa X∧fZ X.size 10∧af (an w w cq))
 case first=>
  have pN:(bM:Int)<6:=(by omega);obtain⟨Y,e7,Xe⟩:=pZ [⟨#[48]⟩,⟨#[57,48]⟩,⟨#[49,56,48]⟩,⟨#[45,57,48]⟩,⟨#[50,55,48]⟩,⟨#[52,53]⟩] bM 10 ato (by decide);have hx:=e7 wc;simp only[nx,nF] at hx;clear e7;go_wp2_with fail;go_meet;exact⟨_,rfl,Xe,aH.out.alloc aH.out.size _⟩
 case rest=>
 clear aH;obtain⟨Q,rfl,mQ,aH⟩:=hcut;rename_i wc;go_upto_region 5 with fail;go_cut [13] (fun v cq=>∃X,v=aa X∧fZ X.size 10∧af (an w w cq))
 case first=>
  have pN:(fk:Int)<7:=(by omega);obtain⟨Y,e7,Xe⟩:=pZ [⟨#[49]⟩,⟨#[49]⟩,⟨#[49]⟩,⟨#[48]⟩,⟨#[49]⟩,⟨#[50]⟩,⟨#[36,51]⟩] fk 10 atq (by decide);have hx:=e7 wc;simp only[nx,nF] at hx;clear e7;go_wp2_with fail;go_meet;exact⟨_,rfl,Xe,aH.out.alloc aH.out.size _⟩
 case rest=>
 clear aH;obtain⟨E,rfl,ft,aH⟩:=hcut;rename_i wc;have Jg:k=0∨k=1∨k=2∨k=3∨k=4∨k=5∨k=6∨k=7∨k=8∨k=9∨k=10∨k=11:=by omega
 clear M7;rcases Jg with rfl|rfl|rfl|rfl|rfl|rfl|rfl|rfl|rfl|rfl|rfl|rfl
 all_goals
  go_wp2_with (first
   |(go_at_call 65;refine (agh _ _).mono ?_;intro e w' h;obtain⟨S,rfl,hS,rfl⟩:=h.get)
   |(go_at_call 66;refine (atl _ _).mono ?_;intro e w' h;obtain⟨S,rfl,hS,rfl⟩:=h.get)
   |(go_at_call 28;(with_reducible refine (wo.out _).mono ?_);intro e w' h;obtain⟨S,rfl,hS,rfl⟩:=h.get)
   |fail)
  go_ret;exact⟨⟨_,rfl,⟨fZ.to (by decide)⟩⟩,aH.out⟩
def w2(w:aeo)(p:Ja)(n:Nat):Prop:=0<n→∃b o,p=some ⟨b,o,none⟩∧b<w.heap.size∧∀i,i<n→∃v,ak w b (o+i) (I v)
theorem w2.below{w w':aeo}{p:Ja}(h:w2 w p n)(ay:an w w w'):w2 w' p n:=by intro az;obtain⟨b,o,rfl,bm,aB⟩:=h az;refine⟨b,o,rfl,hN bm ay.size,fun i hi=>?_⟩;obtain⟨v,aS⟩:=aB i hi;exact⟨v,(ay.cell (p:=⟨b,o+i,none⟩) bm).trans aS⟩
abbrev mg(ls:List ByteArray):List Value:=ls.map Value.string
def Rc(w:aeo)(e:Ending)(w':aeo):Prop:=Below w.heap.size w w'∧∃p c n,e=ab (ad p n c)∧n≤12∧∀k,k<n→∃b o T,p=some ⟨b,o,none⟩∧ak w' b (o+k) (aa T)∧T.size≤200
theorem Rc.get{w w':aeo}{e:Ending}(h:Rc w e w'):an w w w'∧∃p c n,e=ab (ad p n c)∧n≤12∧∀k,k<n→∃b o T,p=some ⟨b,o,none⟩∧ak w' b (o+k) (aa T)∧T.size≤200:=h
variable{v:ada}
theorem iw{w:aeo}{B:Nat}{t:aai}{m:Nat}{xs:aev}(h:w.ownsRow B t m v n xs):∃p c,v=ad p n c:=by
 rcases h.2 with ⟨rfl,rfl⟩|⟨k,cap,cur,rfl,_⟩
 ·exact⟨none,0,rfl⟩
 ·exact⟨_,_,rfl⟩
theorem fY{w w':aeo}{B:Nat}{e:aai}{aR:Nat}{xs:aev}(h:w.ownsRow B e aR v n xs)(ay:an w w w'):w'.ownsRow B e aR v n xs:=
 h.kept (row:=none) ⟨ay.os,ay.tape,ay.output,ay.size,fun k aw _=>ay.block k aw⟩ (by cases v.ownBlock<;>simp)
theorem agm{w0 w:aeo}{ls:List ByteArray}(h:w.ownsRow w0.heap.size 9 1 v ls.length (mg ls))(ay:an w0 w0 w)(hs:∀T∈ls,T.size≤200)(hn:ls.length≤12):Rc w0 (ab v) w:=by
 refine⟨ay,?_⟩;rcases h.2 with ⟨rfl,aF⟩|⟨g,cap,cur,rfl,_,aI,_,_,_,bc⟩
 ·exact⟨none,0,0,rfl,by decide,fun k aw=>absurd aw (lS _)⟩
 ·refine⟨_,_,_,rfl,hn,fun k aw=>⟨g,0,ls[k],rfl,?_,hs _ (k3 aw)⟩⟩;have au:(mg ls)[k]?=some (aa ls[k]):=(by simp[mg,aw]);rw[←bc,Nat.mul_one,FU aw] at au;rw[jt];simp only[World.cell?,aI];simpa using au
theorem V7:(Tryz.prog.info? 9).map (fun i=>(i.zero,i.size,i.bytes))=some (some (aa ⟨#[]⟩),1,16):=by kernel_rfl
theorem info_parts{P:Program}{t:aai}{z:Option Value}(h:(P.info? t).map (fun i=>(i.zero,i.size,i.bytes))=some (z,n,b)):∃i,P.info? t=some i∧i.zero=z∧i.size=n∧i.bytes=b:=by
 cases hi:P.info? t with
 |none=>rw[hi] at h;cases h
 |some i=>
  rw[hi] at h;simp only[An,r0,fg] at h;exact⟨i,rfl,h⟩
theorem atr{w wr br bZ:aeo}{gg n gG:Nat}{ls:List ByteArray}{R:Ua}{o:Obj}(hx:wr.ownsRow w.heap.size 9 1 v ls.length (mg ls))(bz:an w w wr)(bj:an wr wr.drew br)(aI:(br.alloc o).grownBy bZ v.ownBlock)
  (a1:bZ.ownsRow w.heap.size 9 1 (ag gg 0 n gG) (ls.length+1) (mg ls++[aa R])):bZ.ownsRow w.heap.size 9 1 (ag gg 0 n gG) (ls++[R]).length (mg (ls++[R]))∧an w w bZ:=by
 refine⟨?_,?_⟩
 ·rw[show (ls++[R]).length=ls.length+1 by simp,show mg (ls++[R])=mg ls++[aa R] by simp[mg]];exact a1
 ·have b8:an w w (br.alloc o):=(bz.drew.trans (bj.mono bz.size)).alloc (cd bz.size bj.size) _;exact b8.grown aI b8.size (fun k aw=>(hx.lt _ aw).1)
def Ge(w:aeo)(b o k:Nat)(v0 v1 v2 v3:Int)(x:aeo):Prop:=(ak x b (o+k) (I v0)∧ak x b (o+(k+1)) (I v1)∧ak x b (o+(k+2)) (I v2)∧ak x b (o+(k+3)) (I v3))∧b<w.heap.size∧an w w x
variable{v0 v1 v2 v3:Int}
theorem Ge.at{w x y:aeo}(h:Ge w b o k v0 v1 v2 v3 x)(ay:an w w y):Ge w b o k v0 v1 v2 v3 y:=by
 have key:∀i u,ak x b i u→ak y b i u:=fun i u hu=>by rw[ay.cell (p:=⟨b,i,none⟩) h.2.1,←h.2.2.cell (p:=⟨b,i,none⟩) h.2.1];exact hu
 exact⟨⟨key _ _ h.1.1,key _ _ h.1.2.1,key _ _ h.1.2.2.1,key _ _ h.1.2.2.2⟩,h.2.1,ay⟩
abbrev Jh(w:aeo)(b o k:Nat)(v0 v1 v2 v3:Int)(x:aeo):Prop:=x.cell? ⟨b,o+k,none⟩=some (I v0)∧ak x b (o+(k+1)) (I v1)∧ak x b (o+(k+2)) (I v2)∧ak x b (o+(k+3)) (I v3)∧Ge w b o k v0 v1 v2 v3 x
theorem Ge.s{w x:aeo}(h:Ge w b o k v0 v1 v2 v3 x):Jh w b o k v0 v1 v2 v3 x:=⟨h.1.1,h.1.2.1,h.1.2.2.1,h.1.2.2.2,h⟩
theorem agn{w x y:aeo}(h:Jh w b o k v0 v1 v2 v3 x)(ay:an x x y):Jh w b o k v0 v1 v2 v3 y:=(h.2.2.2.2.at (h.2.2.2.2.2.2.trans (ay.mono h.2.2.2.2.2.2.size))).s
theorem ats{w x:aeo}(h:Jh w b o k v0 v1 v2 v3 x)(z:Obj):Jh w b o k v0 v1 v2 v3 (x.alloc z):=agn h ((Below.refl _ _).alloc (aP _) _)
theorem att(p:Ja)(n c:Nat)(az:n≤100)(w:aeo)(bP:af (w2 w p n)):Calls Tryz.prog 30 #[ad p n c] w (Rc w):=by
 go_enter Tryz.func30,Tryz.ntmps30;go_wp2_with fail
 go_loopw [3,4] (fun u x wr=>∃(k:Nat) (ls:List ByteArray),k≤44∧ls.length *4≤k∧x=I (k:Int)∧af (wr.ownsRow w.heap.size 9 1 u ls.length (mg ls))∧af (an w w wr)∧af (∀s∈ls,s.size≤200)) (fun _ x _=>44 -(intOf x).toNat)
 case atStart=>exact⟨0,[],by decide,by decide,rfl,TJ _ _ _ _,Below.refl _ _,fun s hs=>absurd hs (by simp)⟩
 case round=>
 obtain⟨k,ls,aw,jZ,rfl,cK,aH,bH⟩:=hrel;obtain⟨eH,cv,rfl⟩:=iw cK.out;by_cases bm:k+3<n
 ·have fD:(k:Int)+3<(n:Int):=(by omega);by_cases axm:k<40
  ·have atu:(k:Int)<40:=(by omega);obtain⟨b,o,rfl,ay,aB⟩:=bP.out (by omega);obtain⟨v0,eC⟩:=aB k (by omega);obtain⟨v1,eu⟩:=aB (k+1) (by omega);obtain⟨v2,eO⟩:=aB (k+2) (by omega);obtain⟨v3,jm⟩:=aB (k+3) bm;have ht:af (Ge w b o k v0 v1 v2 v3 w):=⟨⟨eC,eu,eO,jm⟩,ay,.refl _ _⟩;have im:=ao (ht.out.at aH.out).s;have gy:=ao (ht.out.at aH.out.drew).s;have axn:(k:Int)+1<(n:Int):=(by omega);have axo:(k:Int)+2<(n:Int):=(by omega);have axp:(k:Int)<(n:Int):=(by omega);have ry:ae ((k:Int)+1)=((k+1:Nat):Int):=(by rw[nE];omega);have x4:ae ((k:Int)+2)=((k+2:Nat):Int):=(by rw[nE];omega);have ago:ae ((k:Int)+3)=((k+3:Nat):Int):=(by rw[nE];omega);have axq:((k:Int)+1).toNat=k+1:=(by omega);have qA:0≤(k:Int)+1:=(by omega);have Lj:((k:Int)+2).toNat=k+2:=(by omega);have oc:0≤(k:Int)+2:=(by omega);have agp:((k:Int)+3).toNat=k+3:=(by omega);have wm:0≤(k:Int)+3:=(by omega);have h2:k+1<n:=(by omega);have h3:k+2<n:=(by omega);clear aB eC eu eO jm ay;obtain⟨i0,kf,cW,dv,dx⟩:=info_parts V7;have bL:=ao (And.intro kf (And.intro cW (And.intro dv dx)));clear kf cW dv dx;go_upto_region 5 with fail
   go_region_held3 (fun x=>Jh w b o k v0 v1 v2 v3 x) ((first|exact im.out|exact gy.out|exact (ht.out.at bd.out.2).s|exact agn (by assumption) (by assumption)|exact ats (by assumption) _)) (first|(go_at_call 47;(with_reducible refine (atm _ _ _ _ _).mono ?_);intro e br h;obtain⟨R,rfl,hR,dX⟩:=h.get)|(refine sr _ (by rfl) _ _ _ (by rfl) w.heap.size 9 i0 (aa ⟨#[]⟩) 1 16 Tryz.underlying66 bL.out.1 bL.out.2.1 bL.out.2.2.1 bL.out.2.2.2 rfl (by omega) (ad eH ls.length cv) ls.length (mg ls) (by rfl) ((fY (w:=wr.drew) cK.out (by assumption)).alloc _) (aj _ 0) 1 1 [aa R] (by rfl) (by rfl) (jx (cs:= #[aa R]) (t:=9) (fr:=(0,0)) (dL _ _)) (by simp[Value.oneCell']) (by omega) (by unfold maxLen;omega) (by omega) (by have au:=aH.out.size;have ax:wr.heap.size≤br.heap.size:=dX.size;simp;omega) _ rfl ?_;intro gg gG bZ ct dn dF h5;have bd:=ao (atr cK.out aH.out (by assumption) dn ct);clear ct dn dF h5))
   all_goals
    go_wp2_with fail
    go_roundw
    case rel=>
     refine⟨k+4,ls++[R],by omega,(by rw[fH];simp only[Bm];omega),by go_num,bd.out.1,bd.out.2,fun s hs=>?_⟩;rcases List.mem_append.1 hs with hs|hs
     ·exact bH.out s hs
     ·rw[List.mem_singleton.1 hs];exact hR.le
    case measure=>simp[intOf]<;>omega
  ·have atu:¬(k:Int)<40:=(by omega);have cc:=ao (agm cK.out aH.out bH.out (by omega));go_wp2_with fail;go_ret;exact cc.out
 ·have fD:¬(k:Int)+3<(n:Int):=(by omega);have cc:=ao (agm cK.out aH.out bH.out (by omega));go_wp2_with fail;go_ret;exact cc.out
abbrev vH:TypeId:=22
theorem Rd(x:Int)(aF:0≤x)(au:x≤1000)(w:aeo)(p:Ja)(n c:Nat)(bP:w2 w p n):
  ∃v:Int,∀Z,Below (w.alloc (ai (#[ad p n c]) vH)).heap.size (w.alloc (ai (#[ad p n c]) vH)) Z→Calls Tryz.prog 25 #[I x,ah w.heap.size 0] Z fun e w'=>e=ab (I v)∧Z=w':=by
 obtain⟨k,rfl⟩:∃k:Nat,x=(k:Int):=⟨x.toNat,by omega⟩;have aB:∀Z,Below (w.alloc (ai (#[ad p n c]) vH)).heap.size (w.alloc (ai (#[ad p n c]) vH)) Z→ak Z w.heap.size 0 (ad p n c):=fun Z cN=>by have h:=cN.cell (p:=⟨w.heap.size,0,none⟩) (show w.heap.size<(w.alloc _).heap.size by rw[show (w.alloc (ai (#[ad p n c]) vH)).heap.size=w.heap.size+1 from l' _];omega);rw[h];have ax:=dL w (ai (#[ad p n c]) vH);simp only[World.cell?,ax];rfl
 by_cases bm:k<n
 ·obtain⟨bl,o,rfl,ck,oe⟩:=bP (by omega);obtain⟨v,aS⟩:=oe k bm;refine⟨v,fun Z cN=>?_⟩;have aV:=aB Z cN;have eC:ak Z bl (o+k) (I v):=((((Below.refl _ _).alloc (aP _) _).trans (cN.mono (by rw[show (w.alloc (ai (#[ad (some (aj bl o)) n c]) vH)).heap.size=w.heap.size+1 from l' _];omega))).cell (p:=⟨bl,o+k,none⟩) ck).trans aS;have fD:(k:Int)<(n:Int):=(by omega);clear oe aB cN bP aS;go_enter Tryz.func25,Tryz.ntmps25;go_wp2_with fail;go_ret;exact⟨rfl,rfl⟩
 ·have fD:¬(k:Int)<(n:Int):=(by omega);refine⟨0,fun Z cN=>?_⟩;have aV:=aB Z cN;clear aB cN bP;go_enter Tryz.func25,Tryz.ntmps25;go_wp2_with fail;go_ret;first|exact⟨rfl,rfl⟩|exact trivial
theorem atv{w gO b':aeo}{o:Obj}(h:an w w gO)(g:Below (gO.alloc o).drew.heap.size (gO.alloc o).drew b'):an w w b':=
 have ax:an w w ((gO.alloc o).drew):=(h.alloc h.size _).drew
 ax.trans (g.mono ax.size)
theorem Xf{w gO b':aeo}(h:an w w gO)(g:an gO.drew gO.drew b'):an w w b':=
 have ax:an w w gO.drew:=h.drew
 ax.trans (g.mono ax.size)
theorem atw(n:Int)(p:Ja)(eh c:Nat)(az:eh≤100)(aB:eh≤c)(nO:c≤9223372036854775807)(w:aeo)(bP:af (w2 w p eh))(hp:af (∃b o,p=some ⟨b,o,none⟩)):
  Calls Tryz.prog 13 #[I n,ad p eh c] w (zf 2600 w):=by
 obtain⟨m,hm,Xd⟩:∃m:Nat,bits .and .i64 n 255=(m:Int)∧m≤255:=⟨(n%256).toNat,by rw[iL.Ch];omega,by omega⟩;obtain⟨k,aw,M7⟩:∃k:Nat,(m:Int)%30=(k:Int)∧k≤29:=⟨m%30,by omega,by omega⟩;have axr:Int.tmod (m:Int) 30=(k:Int):=by rw[Bb (by omega)];exact aw
 have hf:=fits;obtain⟨v0,Xg⟩:=Rd 0 (by decide) (by decide) w p eh c bP.out;obtain⟨v1,e2⟩:=Rd 1 (by decide) (by decide) w p eh c bP.out;obtain⟨v2,fV⟩:=Rd 2 (by decide) (by decide) w p eh c bP.out;obtain⟨v3,eX⟩:=Rd 3 (by decide) (by decide) w p eh c bP.out;have aH:af (an w w (w.alloc (ai (#[ad p eh c]) vH))):=(Below.refl _ _).alloc (aP _) _;have Xh:(w.alloc (ai (#[ad p eh c]) vH)).heap.size=w.heap.size+1:=l' _;have bG:af ((w.alloc (ai (#[ad p eh c]) vH)).cell? ⟨w.heap.size,0,none⟩=some (ad p eh c)):=by show _=_;have ax:=dL w (ai (#[ad p eh c]) vH);simp only[World.cell?,ax];rfl
 obtain⟨tq,tm,atx,aty⟩:∃r,bits .and .i64 v0 7=r∧0≤r∧r≤7:=⟨_,rfl,by rw[iL.Hj];omega,by rw[iL.Hj];omega⟩;have Re:af (∀w,Calls Tryz.prog 28 #[I (10+tq),I 1] w (pg 2 w)):=fun w=>w1 2 1 _ (by omega) (by omega) (show (10+tq)/ 10/10=0 by omega) (by decide) (by decide) w;obtain⟨m1,fX,Xc⟩:∃m:Nat,bits .and .i64 v1 255=(m:Int)∧m≤255:=⟨(v1%256).toNat,by rw[iL.Ch];omega,by omega⟩;obtain⟨dP,eM,Jg⟩:∃k:Nat,(m1:Int)%5=(k:Int)∧k<5:=⟨m1%5,by omega,by omega⟩;have pN:(dP:Int)<5:=by omega
 obtain⟨Nm,b2,atz⟩:=pZ [⟨#[67]⟩,⟨#[82]⟩,⟨#[79]⟩,⟨#[77,49]⟩,⟨#[77,50]⟩] dP 10 Jg (by decide);have Xi:=b2 (w.alloc (ai (#[ad p eh c]) vH));simp only[nx,nF] at Xi;have cW:=bP;clear Xc b2 bP Jg;go_enter Tryz.func13,Tryz.ntmps13;go_upto_region 1 with fail;generalize w.alloc (.cells #[ad p eh c] vH)=W at aH bG Xg e2 fV eX Xi Xh⊢;have xU:=ao Xg;have Rf:=ao e2;have kX:=ao fV;have jj:=ao eX;have im:=ao Xh;clear Xg e2 fV eX Xh;have bT:af (an W W (W.alloc (ai (#[aa ⟨#[67]⟩,aa ⟨#[82]⟩,aa ⟨#[79]⟩,aa ⟨#[77,49]⟩,aa ⟨#[77,50]⟩]) 9))):=(Below.refl _ _).alloc (aP _) _
 go_upto_region 5 with (first
  |(go_at_call_of 25 (Value.int .i64 0);(with_reducible refine (xU.out _ (Below.refl _ _)).mono ?_);rintro e w' ⟨rfl,rfl⟩)
  |(go_at_call_of 25 (Value.int .i64 1);(with_reducible refine (Rf.out _ bT.out).mono ?_);rintro e w' ⟨rfl,rfl⟩)
  |(go_at_call 28;(with_reducible refine (Re.out _).mono ?_);intro e w' h;obtain⟨C,rfl,lU,rfl⟩:=h.get)
  |fail)
 clear Xi pN eM fX Re tm atx aty;generalize W.alloc (.cells #[aa ⟨#[67]⟩,aa ⟨#[82]⟩,aa ⟨#[79]⟩,aa ⟨#[77,49]⟩,aa ⟨#[77,50]⟩] 9)=gO at bT⊢;have atA:k=17∨k=9∨k=0∨k=1∨k=2∨k=3∨k=4∨k=5∨k=6∨k=7∨k=8∨k=10∨k=11∨k=12∨k=13∨k=14∨k=15∨k=16∨k=18∨k=19∨k=20∨k=21∨k=22∨k=23∨k=24∨k=25∨k=26∨k=27∨k=28∨k=29:=by omega
 clear M7;obtain⟨m0,ti,atB⟩:∃m:Nat,bits .and .i64 v0 255=(m:Int)∧m≤255:=⟨(v0%256).toNat,by rw[iL.Ch];omega,by omega⟩;obtain⟨jm,Mi,agq⟩:∃k:Nat,(m0:Int)%3=(k:Int)∧k<3:=⟨m0%3,by omega,by omega⟩;have agp:Int.tmod (m0:Int) 3=(jm:Int):=by rw[Bb (by omega)];exact Mi
 obtain⟨zr,sP,Xj⟩:∃k:Nat,(m0:Int)%5=(k:Int)∧k<5:=⟨m0%5,by omega,by omega⟩;obtain⟨c0,Il,M8⟩:∃k:Nat,bits .and .i64 v0 1=(k:Int)∧k<2:=⟨(v0%2).toNat,by rw[iL.ZI];omega,by omega⟩;obtain⟨y3,Xk,DE⟩:∃k:Nat,bits .and .i64 v0 3=(k:Int)∧k<4:=⟨(v0%4).toNat,by rw[iL.EA];omega,by omega⟩;obtain⟨h6,Xl,Ji⟩:∃k:Nat,bits .and .i64 v0 7=(k:Int)∧k<8:=⟨(v0%8).toNat,by rw[iL.Hj];omega,by omega⟩;obtain⟨z3,N',agr⟩:∃k:Nat,bits .and .i64 v1 3=(k:Int)∧k<4:=⟨(v1%4).toNat,by rw[iL.EA];omega,by omega⟩;have atC:(jm:Int)<3:=by omega
 have ags:(zr:Int)<5:=by omega
 have agt:(c0:Int)<2:=by omega
 have Xm:(y3:Int)<4:=by omega
 have Xn:(h6:Int)<8:=by omega
 have mB:af (∀w,Calls Tryz.prog 28 #[I (y3:Int),I 1] w (pg 1 w)):=fun w=>w1 1 1 _ (by omega) (by omega) (show (y3:Int)/ 10=0 by omega) (by decide) (by decide) w;have lb:af (∀w,Calls Tryz.prog 28 #[I (z3:Int),I 1] w (pg 1 w)):=fun w=>w1 1 1 _ (by omega) (by omega) (show (z3:Int)/ 10=0 by omega) (by decide) (by decide) w;obtain⟨atD,Xo,atE⟩:=pZ [⟨#[49]⟩,⟨#[50]⟩,⟨#[51]⟩] jm 20 agq (by decide);obtain⟨axs,Xp,agu⟩:=pZ [⟨#[71,51,54,42,10]⟩,⟨#[71,51,55,42,10]⟩] c0 20 M8 (by decide);obtain⟨agv,Rg,agw⟩:=pZ [⟨#[77,49]⟩,⟨#[77,50]⟩] c0 20 M8 (by decide);obtain⟨axt,Xq,agx⟩:=pZ [⟨#[68]⟩,⟨#[67]⟩] c0 20 M8 (by decide);obtain⟨axu,Xr,agy⟩:=pZ [⟨#[78]⟩,⟨#[88]⟩,⟨#[89]⟩,⟨#[88,89]⟩] y3 20 DE (by decide);obtain⟨axv,Xs,agz⟩:=pZ [⟨#[48]⟩,⟨#[57,48]⟩,⟨#[49,56,48,46,48]⟩,⟨#[45,57,48]⟩,⟨#[52,53]⟩] zr 20 Xj (by decide);obtain⟨axw,J9,agA⟩:=pZ [⟨#[37,84,70,46,88,44,49,42,37,10]⟩,⟨#[37,84,68,42,37,10]⟩,⟨#[37,84,65,46,89,42,37,10]⟩,⟨#[37,84,79,46,78,44,97,32,98,42,37,10]⟩] y3 20 DE (by decide);obtain⟨axx,Xt,agB⟩:=pZ [⟨#[77,48,50,42,10]⟩,⟨#[71,55,52,42,10]⟩,⟨#[37,76,83,88,50,42,37,10]⟩,⟨#[68,49,42,10]⟩,⟨#[88,42,10]⟩,⟨#[37,70,83,76,65,88,50,51,89,50,51,42,37,10]⟩,⟨#[37,77,79,73,78,42,37,10]⟩,⟨#[42,10]⟩] h6 20 Ji (by decide);simp only[nx,nF] at Xo Xp Rg Xq Xr Xs J9 Xt;rcases atA with rfl|rfl|atF
 ·clear Xo Xp Xq Xr Xs J9 Xt atE agu agx agy agz agA agB sP Xj ags Mi agq atC agp Xk DE Xm Xl Ji Xn N' agr mB lb ti atB;obtain⟨cH,k4,rfl⟩:=hp.out;have atG:=Rg gO;go_upto_region 32 with (go_at_call_of 25 (Value.int .i64 0);(with_reducible refine (xU.out _ (bT.out.alloc bT.out.size _)).mono ?_);rintro e w' ⟨rfl,rfl⟩);have agC:af (((⟨#[37,65,77]⟩:Ua)++agv++(⟨#[42,10]⟩:Ua)).size≤100):=fZ.to (by decide);generalize (⟨#[37,65,77]⟩:Ua)++agv++(⟨#[42,10]⟩:Ua)=atH at agC⊢;have fE:af (an W W (gO.alloc (ai (#[aa ⟨#[77,49]⟩,aa ⟨#[77,50]⟩]) 9))):=bT.out.alloc bT.out.size _;clear Rg atG Il M8 agt agw atz lU;generalize gO.alloc (.cells #[aa ⟨#[77,49]⟩,aa ⟨#[77,50]⟩] 9)=nr at fE⊢;have mS:af (an w w nr):=aH.out.trans (fE.out.mono (by have:=im.out;omega));have aV:ak nr w.heap.size 0 (ad (some (aj cH k4)) eh c):=(fE.out.cell (p:=⟨w.heap.size,0,none⟩) (show w.heap.size<W.heap.size by have:=im.out;omega)).trans bG.out;obtain⟨a,ha,Xb,axy⟩:∃a:Nat,min (eh:Int) 1=(a:Int)∧a≤eh∧a≤1:=⟨min eh 1,by omega,by omega,by omega⟩;obtain⟨d,hd,gL,hE,pW⟩:∃d:Nat,min (eh:Int) 13=(d:Int)∧d≤eh∧d≤13∧a≤d:=⟨min eh 13,by omega,by omega,by omega,by omega⟩;have oi:(d:Int)≤(c:Int):=(by omega);have atI:(a:Int)≤(d:Int):=(by omega);obtain⟨q,aG,agD⟩:∃q:Ja,(if c=a then some ⟨cH,k4,none⟩ else some ⟨cH,k4+a,none⟩:Ja)=q∧af (w2 nr q (d-a)):=(by refine⟨_,rfl,fun h=>?_⟩;obtain⟨A6,mx,hb,jP,F4⟩:=(cW.out.below mS.out) (by omega);cases hb;rw[aN (by omega)];refine⟨_,_,rfl,jP,fun i hi=>?_⟩;rw[vZ];exact F4 (a+i) (by omega));obtain⟨a6,uI,L3⟩:∃a6,d-a=a6∧a6≤100:=⟨_,rfl,by omega⟩;rw[uI] at agD;clear cW xU Rf kX jj bT fE;by_cases Jc:c=a
  all_goals
   first
    |(rw[aW Jc] at aG;subst Jc)
    |rw[aN Jc] at aG
   subst aG;go_wp2_with fail;refine (att _ a6 _ L3 _ agD).mono ?_;intro e hV h;obtain⟨nu,axz,c7,IG,rfl,aon,Iu⟩:=h.get;have yB:=ao (mS.out.trans (nu.mono mS.out.size));have lL:=ao Iu;clear nu Iu aV ha hd uI oi atI h;go_wp2_with fail
   go_loopw [9,11] (fun s x wr=>∃(k:Nat) (S:Ua),k≤IG∧s=aa S∧x=I (k:Int)∧af (S.size≤100+k *202)∧wr=hV) (fun _ x _=>IG -(intOf x).toNat)
   case atStart=>exact⟨0,atH,cO _,rfl,rfl,agC.out,rfl⟩
   case round=>
   obtain⟨k,S,sK,rfl,rfl,agE,rfl⟩:=hrel
   haveI O':fZ S.size 2524:=⟨by have:=agE.out;omega⟩
   by_cases bm:k<IG
   ·have fD:(k:Int)<(IG:Int):=(by omega);obtain⟨A6,mx,T,rfl,eC,dm⟩:=lL.out k bm
    haveI aku:fZ T.size 200:=⟨dm⟩
    have P1:af ((S++T++(⟨#[42,10]⟩:Ua)).size≤100+(k+1) *202):=(by show _≤_;have au:=agE.out;have ax:(⟨#[42,10]⟩:Ua).size=2:=rfl;simp only[z7];omega);clear dm;go_wp2_with fail;go_round<;>first|exact⟨k+1,_,by omega,rfl,by go_num,P1.out,trivial⟩|exact⟨k+1,_,by omega,rfl,by go_num,P1.out,rfl⟩|(simp[intOf]<;>omega)
   ·have fD:¬(k:Int)<(IG:Int):=(by omega);go_wp2_with fail;go_ret;exact⟨⟨_,rfl,⟨fZ.to (by decide)⟩⟩,yB.out⟩
 ·have gH:af (an w w gO):=aH.out.trans (bT.out.mono (by have:=im.out;omega));clear Xp Rg Xq Xr Xs J9 Xt agu agw agx agy agz agA agB sP Xj ags Il M8 agt Xk DE Xm Xl Ji Xn N' agr mB lb;go_upto_region 18 with fail;clear aw hm Xd az aB nO hp
  go_region_with (first
   |(go_at_call_of 25 (Value.int .i64 0);(with_reducible refine (xU.out _ ?_).mono ?_);(first|exact bT.out|exact bT.out.alloc bT.out.size _|exact bT.out.drew|exact (bT.out.alloc bT.out.size _).drew|exact bT.out.drew.alloc bT.out.size _);rintro e w' ⟨rfl,rfl⟩)
   |(go_at_call_of 25 (Value.int .i64 1);(with_reducible refine (Rf.out _ ?_).mono ?_);(first|exact bT.out|exact bT.out.alloc bT.out.size _|exact bT.out.drew|exact (bT.out.alloc bT.out.size _).drew|exact bT.out.drew.alloc bT.out.size _);rintro e w' ⟨rfl,rfl⟩)
   |(go_at_call_of 25 (Value.int .i64 2);(with_reducible refine (kX.out _ ?_).mono ?_);(first|exact bT.out|exact bT.out.alloc bT.out.size _|exact bT.out.drew|exact (bT.out.alloc bT.out.size _).drew|exact bT.out.drew.alloc bT.out.size _);rintro e w' ⟨rfl,rfl⟩)
   |(go_at_call_of 25 (Value.int .i64 3);(with_reducible refine (jj.out _ ?_).mono ?_);(first|exact bT.out|exact bT.out.alloc bT.out.size _|exact bT.out.drew|exact (bT.out.alloc bT.out.size _).drew|exact bT.out.drew.alloc bT.out.size _);rintro e w' ⟨rfl,rfl⟩)
   |(go_at_call 26;(with_reducible refine (agf _ _).mono ?_);intro e w' h;obtain⟨S,rfl,hS,rfl⟩:=h.get)
   |(go_at_call 28;(with_reducible refine (mB.out _).mono ?_);intro e w' h;obtain⟨S,rfl,hS,rfl⟩:=h.get)
   |(go_at_call 28;(with_reducible refine (lb.out _).mono ?_);intro e w' h;obtain⟨S,rfl,hS,rfl⟩:=h.get)
   |(go_at_call 29;(with_reducible refine (agk _ _ _ _ _ _).mono ?_);intro e b' h;obtain⟨S,rfl,hS,dR⟩:=h.get;(first|(have Ca:ak b' gO.heap.size jm (aa atD):=((dR.cell (p:=⟨gO.heap.size,jm,none⟩) (by simp)).trans (Xo gO)))|skip);have fE:=ao dR;clear dR)
   |fail)
  all_goals
   go_wp2_with fail;go_ret
   first
    |exact⟨⟨_,rfl,⟨fZ.to (by decide)⟩⟩,atv gH.out fE.out⟩
    |exact⟨⟨_,rfl,⟨fZ.to (by decide)⟩⟩,Xf gH.out fE.out⟩
    |exact⟨⟨_,rfl,⟨fZ.to (by decide)⟩⟩,(Xf gH.out fE.out).alloc (Xf gH.out fE.out).size _⟩
 ·rcases atF with rfl|rfl|rfl|rfl|rfl|rfl|rfl|rfl|rfl|rfl|rfl|rfl|rfl|rfl|rfl|rfl|rfl|rfl|rfl|rfl|rfl|rfl|rfl|rfl|rfl|rfl|rfl|rfl
  all_goals
   go_wp2_with (first
   |(go_at_call_of 25 (Value.int .i64 0);(with_reducible refine (xU.out _ ?_).mono ?_);(first|exact bT.out|exact bT.out.alloc bT.out.size _|exact bT.out.drew|exact (bT.out.alloc bT.out.size _).drew|exact bT.out.drew.alloc bT.out.size _);rintro e w' ⟨rfl,rfl⟩)
   |(go_at_call_of 25 (Value.int .i64 1);(with_reducible refine (Rf.out _ ?_).mono ?_);(first|exact bT.out|exact bT.out.alloc bT.out.size _|exact bT.out.drew|exact (bT.out.alloc bT.out.size _).drew|exact bT.out.drew.alloc bT.out.size _);rintro e w' ⟨rfl,rfl⟩)
   |(go_at_call_of 25 (Value.int .i64 2);(with_reducible refine (kX.out _ ?_).mono ?_);(first|exact bT.out|exact bT.out.alloc bT.out.size _|exact bT.out.drew|exact (bT.out.alloc bT.out.size _).drew|exact bT.out.drew.alloc bT.out.size _);rintro e w' ⟨rfl,rfl⟩)
   |(go_at_call_of 25 (Value.int .i64 3);(with_reducible refine (jj.out _ ?_).mono ?_);(first|exact bT.out|exact bT.out.alloc bT.out.size _|exact bT.out.drew|exact (bT.out.alloc bT.out.size _).drew|exact bT.out.drew.alloc bT.out.size _);rintro e w' ⟨rfl,rfl⟩)
   |(go_at_call 26;(with_reducible refine (agf _ _).mono ?_);intro e w' h;obtain⟨S,rfl,hS,rfl⟩:=h.get)
   |(go_at_call 28;(with_reducible refine (mB.out _).mono ?_);intro e w' h;obtain⟨S,rfl,hS,rfl⟩:=h.get)
   |(go_at_call 28;(with_reducible refine (lb.out _).mono ?_);intro e w' h;obtain⟨S,rfl,hS,rfl⟩:=h.get)
   |(go_at_call 29;(with_reducible refine (agk _ _ _ _ _ _).mono ?_);intro e b' h;obtain⟨S,rfl,hS,dR⟩:=h.get;have fE:=ao dR)
   |fail)
   go_ret
   first
    |exact⟨⟨_,rfl,⟨fZ.to (by decide)⟩⟩,aH.out.trans (bT.out.mono (by have:=im.out;omega))⟩
    |exact⟨⟨_,rfl,⟨fZ.to (by decide)⟩⟩,aH.out.trans ((bT.out.alloc bT.out.size _).mono (by have:=im.out;omega))⟩
    |exact⟨⟨_,rfl,⟨fZ.to (by decide)⟩⟩,aH.out.trans ((bT.out.trans (fE.out.mono bT.out.size)).mono (by have:=im.out;omega))⟩
def atJ(n:Nat)(w:aeo)(e:Ending)(w':aeo):Prop:=(∃S,e=ab (aa S)∧S.size≤n)∧an w w w'
theorem atK(p:Ja)(n c:Nat)(aB:n≤c)(nO:c≤maxLen)(w:aeo)(bP:af (w2 w p n)):Calls Tryz.prog 5 #[ad p n c,U true] w (atJ 200000 w):=by
 have zQ:af (c≤9223372036854775807):=by unfold maxLen at nO;exact ao (by omega)
 have axA:n≤9223372036854775807:=by unfold maxLen at nO;omega
 obtain⟨r,hr,zE⟩:∃r:Nat,(n:Int)%3=(r:Int)∧r<3:=⟨n%3,by omega,by omega⟩;have Vd:(r:Int)<3:=by omega
 have hf:=fits;obtain⟨X,b2,q4⟩:=pZ [⟨#[37,70,83,76,65,88,50,52,89,50,52,42,37,10,37,77,79,77,77,42,37,10]⟩,⟨#[37,70,83,84,65,88,50,52,89,50,52,42,37,10,37,77,79,73,78,42,37,10]⟩,⟨#[37,70,83,76,65,88,51,51,89,51,51,42,37,10,37,77,79,77,77,42,37,10]⟩] r 30 zE (by decide);have hx:=b2 w;simp only[nx,nF] at hx;clear b2 zE;go_enter Tryz.func5,Tryz.ntmps5;go_upto_region 4 with fail;have aH:af (an w w (w.alloc (ai (#[aa ⟨#[37,70,83,76,65,88,50,52,89,50,52,42,37,10,37,77,79,77,77,42,37,10]⟩,aa ⟨#[37,70,83,84,65,88,50,52,89,50,52,42,37,10,37,77,79,73,78,42,37,10]⟩,aa ⟨#[37,70,83,76,65,88,51,51,89,51,51,42,37,10,37,77,79,77,77,42,37,10]⟩]) 9))):=(Below.refl _ _).alloc (aP _) _;clear hx Vd hr;go_wp2_with fail
 go_loopw [5,6] (fun s i wr=>∃(k q:Nat) (S:Ua),af (k≤60∧q=5 *k)∧q≤300∧s=aa S∧i=I (q:Int)∧af (S.size≤200+2600 *k)∧af (an w w wr)) (fun _ i _=>305 -(intOf i).toNat)
 case atStart=>exact⟨0,0,_,⟨by decide,rfl⟩,by decide,rfl,rfl,fZ.to (by decide),aH.out⟩
 case round=>
 obtain⟨k,q,S,en,aG,rfl,rfl,bH,aH⟩:=hrel
 haveI O':fZ S.size 156200:=⟨by have:=bH.out;have:=en.out.1;omega⟩
 by_cases bm:q<n∧q<300
 ·obtain⟨bm,alv⟩:=bm;have fD:(q:Int)<(n:Int):=(by omega);have atL:(q:Int)<300:=(by omega);have dx:=(bP.out.below aH.out).below (Below.refl wr.heap.size wr).drew;obtain⟨b,o,rfl,ay,oe⟩:=dx (by omega);have rH:(n:Int)≤(c:Int):=(by omega);obtain⟨v0,agF⟩:=oe q bm;have eC:ak wr b (o+q) (I v0):=agF;obtain⟨aE,axB,Ao,ed,axC⟩:∃aE:Nat,min ((q:Int)+17) (n:Int)=(aE:Int)∧q+1≤aE∧aE≤n∧aE≤q+17:=⟨(min ((q:Int)+17) (n:Int)).toNat,by omega,by omega,by omega,by omega⟩;obtain⟨fT,axD,axE⟩:∃fT,aE -(q+1)=fT∧fT≤16:=⟨_,rfl,by omega⟩;have fX:(q:Int)+1≤(aE:Int):=(by omega);have jH:(aE:Int)≤(c:Int):=(by omega);have ry:ae ((q:Int)+1)=((q+1:Nat):Int):=(by rw[nE];omega);have x4:ae ((q:Int)+17)=((q+17:Nat):Int):=(by rw[nE];omega);have ago:min (((q+17:Nat):Int)) (n:Int)=(aE:Int):=(by omega);have qg:(q:Int)+1≤max (aE:Int) 0:=(by omega);have qc:((q+1:Nat):Int)≤max (aE:Int) 0:=(by omega);have Mi:0≤(aE:Int):=(by omega);have adf:0≤(q:Int)+1:=(by omega);have sP:((q:Int)+1).toNat=q+1:=(by omega);have lG:af (fT≤c -(q+1)):=by show _≤_;omega
  obtain⟨df,oc,kb,aU⟩:∃df:Ja,(if c=q+1 then some ⟨b,o,none⟩ else some ⟨b,o+(q+1),none⟩:Ja)=df∧af (∃b o,df=some ⟨b,o,none⟩)∧af (w2 wr.drew df fT):=by
   refine⟨_,rfl,?_,fun hp=>?_⟩
   ·by_cases h:c=q+1
    ·rw[aW h];exact⟨_,_,rfl⟩
    ·rw[aN h];exact⟨_,_,rfl⟩
   ·rw[aN (by omega)];refine⟨b,o+(q+1),rfl,ay,fun i hi=>?_⟩;obtain⟨v,aS⟩:=oe (q+1+i) (by omega);exact⟨v,by rw[vZ];exact aS⟩
  clear oe agF ay;by_cases oe:c=q+1
  all_goals
   first
    |(rw[aW oe] at oc;subst oe;have Wk:(aE:Int)≤(q:Int)+1:=(by omega))
    |(rw[aN oe] at oc;have Wk:(q:Int)+1<(c:Int):=(by omega);have tK:¬c=q+1:=(by omega))
   subst oc;go_upto_region 7 with fail
   go_region_law (first|(go_simp;go_at_call 13;refine (atw _ _ fT _ (by omega) (by have:=lG.out;omega) (by have:=zQ.out;omega) _ aU kb).mono ?_;intro e w' h;obtain⟨R,rfl,hR,hT⟩:=h.get;have agG:=ao hT;clear hT)|fail)
   all_goals
    go_wp2_with fail
    go_roundw
    case rel=>
     refine⟨k+1,q+5,S++R,⟨(by have au:=en.out.2;omega),(by have au:=en.out.2;omega)⟩,(by have au:=en.out.2;omega),rfl,by go_num,(by show _≤_;have au:=bH.out;have ax:=hR.le;rw[z7];omega),?_⟩;first|exact (aH.out.drew.trans (agG.out.mono aH.out.size))|exact (aH.out.drew.trans (agG.out.mono aH.out.size)).drew
    case measure=>simp[intOf]<;>omega
 ·have cc:af ((S++(⟨#[77,48,50,42,10]⟩:Ua)).size≤200000):=fZ.to (by decide);by_cases au:q<n
  ·have AW:(q:Int)<(n:Int):=(by omega);have atL:¬(q:Int)<300:=(by omega);clear bm;go_wp2_with fail;go_ret;exact⟨⟨_,rfl,cc.out⟩,aH.out⟩
  ·have AW:¬(q:Int)<(n:Int):=(by omega);clear bm;go_wp2_with fail;go_ret;exact⟨⟨_,rfl,cc.out⟩,aH.out⟩
end yA
