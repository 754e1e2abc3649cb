/- Lemmas. -/
import Derived.Test.YtfldplmgkeiimaaGreatDoorQ40
import Derived.Test.YtfldplmgkeiimaaGreatDoorQ39
import Derived.ProofKit
import Derived.Test.YtfldplmgkeiimaaGreatDoorCards
import Derived.Test.YtfldplmgkeiimaaGreatDoorTie
import Derived.OpenShut
import Derived.LaidMore
import Derived.Lay
import Derived.LaidOnce
import Derived.Stop.Joined
import Derived.SevenTiedAt
import Derived.Lib.LaidTab
import Derived.Lib.LaidU8
set_option linter.all false
set_option maxRecDepth 100000
set_option maxHeartbeats 25600000
namespace Go.Proofs.YtfldplmgkeiimaaGreatDoor
namespace RP
open el cf
def pre:List (km×C):=[Ce [70,83,76,65,88,50,52,89,50,52] {b2 8 with n:=2,m:=4},Ce [77,79,77,77] {b2 9 with n:=1},AA [71,51,54] {b2 3 with on:=true}]
def vT:List (km×C):=[AA [71,51,55] (b2 3),AA [77,48,50] (b2 5)]
def mid:List (km×C):=[AA [71,51,55] (b2 3),Ce [76,80,67] (b2 15),AA [71,51,54] {b2 3 with on:=true}]
theorem ahn:∀z∈pre,r3 z.1 z.2:=by
 intro z bx;unfold pre at bx;simp only[vf,vg,vh] at bx;rcases bx with rfl|rfl|rfl
 ·exact XS (by rfl) (by decide) (by decide) (by decide) (by decide)
 ·exact XS (by rfl) (by decide) (by decide) (by decide) (by decide)
 ·exact NB (by rfl) (by decide) (by decide) (by decide)
theorem aho:∀z∈vT,r3 z.1 z.2:=by
 intro z bx;unfold vT at bx;simp only[vf,vg,vh] at bx;rcases bx with rfl|rfl
 ·exact NB (by rfl) (by decide) (by decide) (by decide)
 ·exact NB (by rfl) (by decide) (by decide) (by decide)
theorem auV:∀z∈mid,r3 z.1 z.2:=by
 intro z bx;unfold mid at bx;simp only[vf,vg,vh] at bx;rcases bx with rfl|rfl|rfl
 ·exact NB (by rfl) (by decide) (by decide) (by decide)
 ·exact XS (by rfl) (by decide) (by decide) (by decide) (by decide)
 ·exact NB (by rfl) (by decide) (by decide) (by decide)
def t1(a b c d:Nat):List (km×C):=pre++(pX 0 0 1000 1000++(pX (a+10) (b+10) c d++vT))
def t2(a b c d:Nat):List (km×C):=pre++(pX 0 0 1000 1000++(mid++(pX (a+10) (b+10) c d++vT)))
def kF(a b c d:Nat):Prop:=a≤255∧b≤255∧1≤c∧c≤256∧1≤d∧d≤256
variable{a b c d:Nat}
theorem ahp(h:kF a b c d):∀z∈t1 a b c d,r3 z.1 z.2:=by
 unfold kF at h;intro z bx;unfold t1 at bx;simp only[E2] at bx;rcases bx with bx|bx|bx|bx
 ·exact ahn z bx
 ·exact RM (by decide) (by decide) z bx
 ·exact RM (by omega) (by omega) z bx
 ·exact aho z bx
theorem ahq(h:kF a b c d):∀z∈t2 a b c d,r3 z.1 z.2:=by
 unfold kF at h;intro z bx;unfold t2 at bx;simp only[E2] at bx;rcases bx with bx|bx|bx|bx|bx
 ·exact ahn z bx
 ·exact RM (by decide) (by decide) z bx
 ·exact auV z bx
 ·exact RM (by omega) (by omega) z bx
 ·exact aho z bx
theorem Cg(x y:List (km×C)):hV (x++y)=hV x++hV y:=by simp[hV]
theorem GR(x y:List (km×C)):tg (x++y)=tg x+tg y:=by simp[tg]
theorem ND{x y:bk}{d:UInt8}(hx:x.length≤6)(hy:y.length≤6):(ln x y d).1.t.length≤18:=by unfold ln km.t vS;simp only[oE,x0,gh];split<;>split<;>simp<;>omega
theorem JH{x y w h:Nat}(hx:x+w<500000)(hy:y+h<500000):(hV (pX x y w h)).length≤90:=by
 have n:∀{v:Nat},v<500000→(jz v).length≤6:=fun h=>(JD (by omega)).2;have e:hV (pX x y w h)=(ln (jz x) (jz y) 50).1.t++((ln (jz (x+w)) [] 49).1.t++((ln [] (jz (y+h)) 49).1.t++((ln (jz x) [] 49).1.t++(ln [] (jz y) 49).1.t))):=by simp[hV,pX]
 rw[e];simp only[gh];have aa:=ND (d:=50) (n (v:=x) (by omega)) (n (v:=y) (by omega));have ah:=ND (d:=49) (y:=[]) (n (v:=x+w) (by omega)) (by decide);have ax:=ND (d:=49) (x:=[]) (by decide) (n (v:=y+h) (by omega));have bg:=ND (d:=49) (y:=[]) (n (v:=x) (by omega)) (by decide);have b7:=ND (d:=49) (x:=[]) (by decide) (n (v:=y) (by omega));omega
theorem outer:p0 ([NC 0 0 1000 1000].map List.dropLast)=true:=by decide
abbrev ahr(a b c d:Nat):List bp:=h' (1000 *(a+10:Nat)) (1000 *(b+10:Nat)) (1000 *(a+10+c:Nat)) (1000 *(b+10+d:Nat))
abbrev XT:List bp:=h' 0 0 1000000 1000000
theorem XU(h:kF a b c d):hz (1000 *(a+10:Nat)) (1000 *(b+10:Nat)) (1000 *(a+10+c:Nat)) (1000 *(b+10+d:Nat)):=by unfold kF at h;unfold hz;omega
theorem ahs:hz 0 0 1000000 1000000:=by unfold hz;decide
theorem auW(h:kF a b c d):(0:Int)<1000 *(a+10:Nat)∧(0:Int)<1000 *(b+10:Nat)∧(1000 *(a+10+c:Nat):Int)<1000000∧(1000 *(b+10+d:Nat):Int)<1000000:=by unfold kF at h;omega
def dt(a b c d:Nat):List ec:=[(true,gT (jo [XT,ahr a b c d]))]
def cE(a b c d:Nat):List ec:=[(true,gT (jo [XT])),(false,gT (jo [ahr a b c d]))]
theorem aht(l:List C):mA (pre.map Prod.snd++l) 0 (tz 300)=mA l 3 (hW 300 (0,0) true true [] [] 0):=rfl
theorem ahu{b:Int}{at_:bp}{d:Bool}{cs:List (List bp)}{os:List ec}{m:Int}(i:Nat)(hc:oL cs=true)(aQ:p0 (cs.map List.dropLast)=true)(hn:cs≠[])(af:m<min (max b 0) 100000):mA (vT.map Prod.snd) i (hW b at_ d true cs os m)=.ok {hW b at_ d false [] (os++[(d,gT (jo (cs.map List.dropLast)))]) (m+1) with ended:=true}:=by show mA (b2 3::[b2 5]) i _=_;rw[GQ (ahm hc aQ hn af)];rfl
theorem auX(h:kF a b c d):xR ((t1 a b c d).map Prod.snd) 300=(dt a b c d,0,0):=by
 have aF:=h;unfold kF at aF
 have e:mA ((t1 a b c d).map Prod.snd) 0 (tz 300)=.ok {hW 300 (1000 *(a+10:Nat),1000 *(b+10:Nat)) true false [] (dt a b c d) 1 with ended:=true}:=by
  unfold t1;rw[mh,mh,mh,aht,RN (by decide) (by decide) rfl,RN (by omega) (by omega) (RO _ _ _ _ _),ahu _ (RO _ _ _ _ _) ?_ (by simp) (by decide)]
  ·rfl
  ·exact RG ahs (XU h)
 unfold xR;rw[e];rfl
theorem auY(h:kF a b c d):xR ((t2 a b c d).map Prod.snd) 300=(cE a b c d,0,0):=by
 have aF:=h;unfold kF at aF;have em:∀(l:List C) (i:Nat) (at_:bp),mA (mid.map Prod.snd++l) i (hW 300 at_ true true ([] ++[NC 0 0 1000 1000]) [] 0)=mA l (i+3) (hW 300 at_ false true [] [(true,gT (jo [XT]))] 1):=by intro l i at_;show mA (b2 3::b2 15::{b2 3 with on:=true}::l) i _=_;rw[GQ (ahm (RO _ _ _ _ _) outer (by simp) (by decide))];rfl
 have e:mA ((t2 a b c d).map Prod.snd) 0 (tz 300)=.ok {hW 300 (1000 *(a+10:Nat),1000 *(b+10:Nat)) false false [] (cE a b c d) 2 with ended:=true}:=by
  unfold t2;rw[mh,mh,mh,mh,aht,RN (by decide) (by decide) rfl,em,RN (by omega) (by omega) rfl,ahu _ (RO _ _ _ _ _) ?_ (by simp) (by decide)]
  ·rfl
  ·exact Nz (XU h)
 unfold xR;rw[e];rfl
theorem RQ(x y w h:Nat):tg (pX x y w h)=5:=rfl
theorem ahv(a b c d:Nat):tg (t1 a b c d)=15:=by unfold t1;rw[GR,GR,GR,RQ,RQ];rfl
theorem ahw(a b c d:Nat):tg (t2 a b c d)=18:=by unfold t2;rw[GR,GR,GR,GR,RQ,RQ];rfl
theorem ahx(h:kF a b c d):(hV (t1 a b c d)).length≤300:=by
 unfold kF at h;unfold t1;rw[Cg,Cg,Cg];simp only[gh];have aa:=JH (x:=0) (y:=0) (w:=1000) (h:=1000) (by decide) (by decide);have ah:=JH (x:=a+10) (y:=b+10) (w:=c) (h:=d) (by omega) (by omega);have ax:(hV pre).length=24:=by decide
 have bg:(hV vT).length=8:=by decide
 omega
theorem ahy(h:kF a b c d):(hV (t2 a b c d)).length≤300:=by
 unfold kF at h;unfold t2;rw[Cg,Cg,Cg,Cg];simp only[gh];have aa:=JH (x:=0) (y:=0) (w:=1000) (h:=1000) (by decide) (by decide);have ah:=JH (x:=a+10) (y:=b+10) (w:=c) (h:=d) (by omega) (by omega);have ax:(hV pre).length=24:=by decide
 have bg:(hV vT).length=8:=by decide
 have b7:(hV mid).length=14:=by decide
 omega
theorem ahz{xs:List (km×C)}(h:∀x∈xs,r3 x.1 x.2)(hc:tg xs<20000)(aj:(hV xs).length≤1000000){b:Int}{o:List ec}(hp:xR (xs.map Prod.snd) b=(o,0,0)):mV (hV xs) b=(o,0,0):=by obtain⟨l,aa,ah⟩:=XJ xs h hc aj;unfold mV;rw[aa];simp only;rw[aK (by decide),ah,hp];rfl
theorem auZ(h:kF a b c d):mV (hV (t1 a b c d)) 300=(dt a b c d,0,0):=ahz (ahp h) (by rw[ahv];decide) (by have:=ahx h;omega) (auX h)
theorem au0(h:kF a b c d):mV (hV (t2 a b c d)) 300=(cE a b c d,0,0):=ahz (ahq h) (by rw[ahw];decide) (by have:=ahy h;omega) (auY h)
theorem au1(h:kF a b c d){v:iZ}(aS:0<v.h3∧1≤v.w∧v.w≤4∧1≤v.h∧v.h≤4∧0≤v.depth∧v.depth≤3):∃r cQ,uM (dt a b c d) v 100000=(some r,cQ)∧uM (cE a b c d) v 100000=(some r,cQ):=by
 have hc:cost v.depth.toNat≤85:=by rcases (show v.depth.toNat=0∨v.depth.toNat=1∨v.depth.toNat=2∨v.depth.toNat=3 by omega) with e|e|e|e<;>rw[e]<;>decide
 have aQ:=Nx v.depth.toNat;have aa:(v.w.toNat:Int) *cost v.depth.toNat≤4 *85:=MY (by omega) hc (by omega) (by decide);have ah:0≤(v.w.toNat:Int) *cost v.depth.toNat:=hL (by omega) (by omega);have ax:(v.h.toNat:Int) *((v.w.toNat:Int) *cost v.depth.toNat)≤4 *(4 *85):=MY (by omega) aa ah (by decide);obtain⟨r,cQ,hr⟩:=auB (dt a b c d) v 100000 (by omega);exact⟨r,cQ,hr,by rw[←hr];exact (auL ahs (XU h) (auW h) aS.1 (by omega) 100000).symm⟩
end RP
namespace dE
open Go.RowKit el
def Ee(B:Nat)(w:bTo)(p:aya)(l:List Int):Prop:=0<l.length→∃b o,p=some ⟨b,o,none⟩∧b<B∧∀i (hi:i<l.length),aw w b (o+i) (I l[i])
theorem Ee.below{B:Nat}{w w':bTo}{p:aya}{l:List Int}(h:Ee B w p l)(af:Below B w w'):Ee B w' p l:=by intro aj;obtain⟨b,o,e,bJ,hc⟩:=h aj;refine⟨b,o,e,bJ,fun i hi=>?_⟩;have:=af.block b bJ;rw[show w'.cell? ⟨b,o+i,none⟩=w.cell? (ag b (o+i)) from Sr this];exact hc i hi
theorem au2(k:Nat)(ab:k≤1000)(B b:Nat)(p:aya)(l:List Int)(c:Nat)(aj:l.length≤9223372036854775807)(w:bTo)(bx:J (Ee B w p l))(af:aw w b 0 (ad p l.length c))(v:Int)(aS:J (l.getD k 0=v)):
  Calls Tryz.prog 34 #[I (k:Int),dv b 0] w fun e w'=>e=bb (I v)∧w'=w:=by
 obtain⟨n,hn⟩:=az l.length;have a1:=U hn;rw[hn] at af aj;clear hn;have nR:(0:Int)≤(k:Int):=by omega
 by_cases b0:k<n
 ·have ib:(k:Int)<(n:Int):=(by omega);obtain⟨bc,o,rfl,_,ph⟩:=bx.out (by rw[a1.out];omega);have ao:=ph k (by rw[a1.out];exact b0);have p8:l[k]'(by rw[a1.out];exact b0)=v:=(by rw[←aS.out,yt,jH (by rw[a1.out];exact b0)];rfl);rw[p8] at ao;clear ph p8;go_enter Tryz.func34,Tryz.ntmps34;go_wp2_with fail;go_ret;exact⟨rfl,rfl⟩
 ·have ib:¬(k:Int)<(n:Int):=(by omega);obtain rfl:v=0:=(by rw[←aS.out,yt,Kg (by rw[a1.out];omega)];rfl);go_enter Tryz.func34,Tryz.ntmps34;go_wp2_with fail;go_ret;exact⟨rfl,rfl⟩
theorem AB(n:Int):0≤bits BinOp.and IntKind.i64 n 255∧bits BinOp.and IntKind.i64 n 255≤255:=by rw[Bits.alP];omega
theorem and_3(n:Int):0≤bits BinOp.and IntKind.i64 n 3∧bits BinOp.and IntKind.i64 n 3≤3:=by rw[Bits.alO];omega
structure JI(x y p w h d a b c:Int):Prop where
 x:-6400000≤x∧x≤6350000
 y:-6400000≤y∧y≤6350000
 p:∃n,1≤n∧n≤256∧p=n *40000 *2^d.toNat
 w:1≤w∧w≤4
 h:1≤h∧h≤4
 d:0≤d∧d≤3
 a:0≤a∧a≤255
 b:0≤b∧b≤255
 c:0≤c∧c≤255
abbrev au3(b:Nat)(x v:Int)(Z:bTo):Prop:=Calls Tryz.prog 34 #[I x,dv b 0] Z fun e w'=>e=bb (I v)∧w'=Z
theorem au4(p:aya)(l:List Int)(c:Nat)(aj:l.length≤9223372036854775807)(w:bTo)(bx:J (Ee w.heap.size w p l)):
  Calls Tryz.prog 15 #[eX,eX,ad p l.length c] w fun e w'=>Below w.heap.size w w'∧∃x y lO W H d b6 bP a8,JI x y lO W H d b6 bP a8∧e=bb (.agg #[I x,I y,I lO,I W,I H,I d,eX,eX,I b6,I bP,I a8,I 300,I 4000]):=by
 go_enter Tryz.func15,Tryz.ntmps15;go_upto_region 2 with fail;refine VO (P:=Code.wp _ _ _ _) fun W af cB bJ=>?_;have aH:=U bJ;have dA:=U cB;have Ef:J (∀(k:Nat) (x:Int),x=(k:Int)→k≤1000→∀Z,av W W Z→au3 w.heap.size x (l.getD k 0) Z):=fun k x hx ab Z eU=>by rw[hx];exact au2 k ab w.heap.size w.heap.size p l c aj Z (U (bx.out.below (bJ.trans (eU.mono bJ.size)))) (cell_of (i:=0) (aO af eU) rfl) _ (U rfl)
 clear bJ af cB;have XV:=U (Ef.out 0 0 rfl (by decide) W (Below.refl _ _));have gO:=U (Ef.out 1 1 rfl (by decide) W (Below.refl _ _));have iv:=U (Ef.out 2 2 rfl (by decide) W (Below.refl _ _));have lW:=U (Ef.out 3 3 rfl (by decide) W (Below.refl _ _));generalize l.getD 0 0=v0 at XV;generalize l.getD 1 0=v1 at gO;generalize l.getD 2 0=v2 at iv;generalize l.getD 3 0=v3 at lW;have hd:=and_3 v0;have aa:=AB v1;have ah:=and_3 v2;have ax:=and_3 v3;obtain⟨d,qi⟩:=az (bits BinOp.and IntKind.i64 v0 3);obtain⟨dK,kI⟩:=az (bits BinOp.and IntKind.i64 v1 255);obtain⟨e',ic⟩:=az (bits BinOp.and IntKind.i64 v2 3);obtain⟨n3,Ip⟩:=az (bits BinOp.and IntKind.i64 v3 3);rw[qi] at hd;rw[kI] at aa;rw[ic] at ah;rw[Ip] at ax;have ob:1≤(2:Int)^ d.toNat∧(2:Int)^ d.toNat≤8:=by rcases (show d=0∨d=1∨d=2∨d=3 by omega) with rfl|rfl|rfl|rfl<;>decide
 obtain⟨lO,BX⟩:=az ((dK+1) *40000 *2^d.toNat);have au5:wrap64 ((dK+1) *40000 *2^d.toNat)=lO:=by have a':=Rk ob.2 (show 0≤(dK+1) *40000 by omega);have a2:=hL (show 0≤(dK+1) *40000 by omega) (show 0≤(2:Int)^ d.toNat by omega);rw[IntWalk.wrap64_in _ (by omega)];exact BX
 have au6:J (∃n,1≤n∧n≤256∧lO=n *40000 *2^d.toNat):=⟨dK+1,by omega,by omega,BX.symm⟩;clear BX ob;go_upto_region 4 with (first|(go_at_call 34;(first|(with_reducible refine XV.out.mono ?_)|(with_reducible refine gO.out.mono ?_)|(with_reducible refine iv.out.mono ?_)|(with_reducible refine lW.out.mono ?_));rintro e cr ⟨rfl,rfl⟩)|fail);have cI:=U (And.intro hd (And.intro ah ax));clear au5 aa qi kI ic Ip XV gO iv lW;refine Me (P:=Code.wp _ _ _ _) fun ct aC eb=>?_;have rL:=U (Ef.out 4 4 rfl (by decide) ct eb);have XW:=U (Ef.out 5 5 rfl (by decide) ct eb);have MH:=U eb;have a7:=U aC;have jn:=U (aO dA.out eb);clear aC eb;generalize l.getD 4 0=v4 at rL;generalize l.getD 5 0=v5 at XW;have bg:=AB v4;have b7:=AB v5;obtain⟨n4,ahA⟩:=az (bits BinOp.and IntKind.i64 v4 255);obtain⟨RR,ahB⟩:=az (bits BinOp.and IntKind.i64 v5 255);rw[ahA] at bg;rw[ahB] at b7;obtain⟨e8,bN,ch,ep,gx,jL,fI,mo,jc,pQ,yM,RS,JJ⟩:=ny a7.out;have GS:=cP a7.out;have GU:=lt_of_heap a7.out;go_upto_region 5 with (first|(go_at_call 34;(first|(with_reducible refine rL.out.mono ?_)|(with_reducible refine XW.out.mono ?_));rintro e dJ ⟨rfl,rfl⟩)|fail);refine aow (P:=Code.wp _ _ _ _) a7.out fun c6 aC ab=>?_;have CQ:=U (ab.aY MH.out (bD _) MH.out.size);have zT:J ((-6400000≤(n4-128) *50000∧(n4-128) *50000≤6350000)∧-6400000≤(RR-128) *50000∧(RR-128) *50000≤6350000):=by show _∧_;omega
 have Cr:J (bo c6 cr.heap.size (#[I ((n4-128) *50000),I ((RR-128) *50000),I lO,I (e'+1),I (n3+1),I d,eX,eX,I 0,I 0,I 0,I 300,I 4000]) lj):=aC;have ahC:=U (Ef.out 9 9 rfl (by decide) c6 CQ.out);have GY:=U (aO dA.out CQ.out);clear aC ab e8 bN ch ep gx jL fI mo jc pQ yM RS JJ GS GU bg b7 ahA ahB rL XW jn a7 Ef;generalize (n4-128) *50000=x at zT Cr;generalize (RR-128) *50000=y at zT Cr;go_wp2_with fail
 go_loopw [10] (fun i wr=>i=I 0∧wr=c6) (fun _ _=>0)
 case atStart=>exact⟨rfl,rfl⟩
 case round=>
 obtain⟨rfl,rfl⟩:=hrel;go_wp2_with fail
 go_loopw [12] (fun i fT=>i=I 0∧fT=wr) (fun _ _=>0)
 case atStart=>exact⟨rfl,rfl⟩
 case round=>
 obtain⟨rfl,rfl⟩:=hrel;generalize l.getD 9 0=v9 at ahC;go_upto_region 15 with (first|(go_at_call 34;(with_reducible refine ahC.out.mono ?_);rintro e cb ⟨rfl,rfl⟩)|fail);obtain⟨e8,bN,ch,ep,gx,jL,fI,mo,jc,pQ,yM,RS,JJ⟩:=ny Cr.out;have GS:=cP Cr.out;have GU:=lt_of_heap Cr.out;go_upto_region 16 with fail;refine aox (P:=Code.wp _ _ _ _) Cr.out fun gn aC ab=>?_;have g0:=AB v9;have g1:=AB (v9/256);have g2:=AB (v9/65536);have CR:=U (ab.aY CQ.out (bD _) CQ.out.size);have Ch:=U (aO dA.out CR.out);generalize bits BinOp.and IntKind.i64 v9 255=b6 at g0 aC;generalize bits BinOp.and IntKind.i64 (v9/256) 255=bP at g1 aC;generalize bits BinOp.and IntKind.i64 (v9/65536) 255=a8 at g2 aC;have au7:J (bo gn cr.heap.size (#[I x,I y,I lO,I (e'+1),I (n3+1),I d,eX,eX,I b6,I bP,I a8,I 300,I 4000]) lj):=aC;have fv:J (JI x y lO (e'+1) (n3+1) d b6 bP a8):=⟨zT.out.1,zT.out.2,au6.out,by have:=cI.out;omega,by have:=cI.out;omega,cI.out.1,g0,g1,g2⟩;clear aC ab e8 bN ch ep gx jL fI mo jc pQ yM RS JJ GS GU g0 g1 g2;obtain⟨e8,bN,ch,ep,gx,jL,fI,mo,jc,pQ,yM,RS,JJ⟩:=ny au7.out;obtain⟨jD,ie,ly,qD,sf,uE,qE,wh,wi,mz,ayb,ayc,ayd⟩:=ny Ch.out;have aye:=cP Ch.out;go_wp2_with fail;refine F7 (P:=bodyPost _ _ _ _ _) [I x,I y,I lO,I (e'+1),I (n3+1),I d,eX,eX,I b6,I bP,I a8,I 300,I 4000] Ch.out rfl fun fB g5 g6=>?_;exact dH (rq rfl _ _ (w.heap.size+1) _ _ _ _ rfl g5 Tryz.underlying32 rfl (by kernel_rfl)) rfl ⟨g6.aY (aH.out.trans (CR.out.mono aH.out.size)) (by omega) (dX aH.out.size CR.out.size),_,_,_,_,_,_,_,_,_,fv.out,rfl⟩
end dE
namespace dE
open Go.RowKit el
open cf (hV)
abbrev um(v:Nat):ByteArray:=⟨(jz v).toArray⟩
theorem au8{S T:aia}(h:S.data.toList=T.data.toList):S=T:=by cases S;cases T;exact gb ByteArray.mk (Array.ext' h)
theorem XX(S T:aia):(S++T).data.toList=S.data.toList++T.data.toList:=by simp
theorem RT(v:Nat)(aS:v<500000)(x:Int)(hx:x=(v:Int))(w:bTo):Calls Tryz.prog 13 #[I x] w fun e w'=>e=bb (au (um v))∧w'=w:=by have bq:=U (qk.alN v 1 1 rfl (by decide) x (U hx) (by omega) (by omega) (um v) (U rfl));generalize um v=S at bq⊢;clear hx aS;go_enter Tryz.func13,Tryz.ntmps13;go_wp2_with fail;go_fit (bq.out _);rintro e cr ⟨rfl,rfl⟩;go_wp2_with fail;go_ret;exact⟨rfl,rfl⟩
theorem ahD(x y a b:Nat)(aa:x+a<500000)(ah:y+b<500000)(X Y A B:Int)(dp:X=x)(ih:Y=y)(hA:A=a)(bJ:B=b)(S:aia)(hS:J (S.data.toList=hV (pX x y a b)))(w:bTo):
  Calls Tryz.prog 12 #[I X,I Y,I A,I B] w fun e w'=>e=bb (au S)∧w'=w:=by
 have q6:=U (RT x (by omega) X dp);have e7:=U (RT y (by omega) Y ih);have ahE:=U (RT (x+a) aa (X+A) (by omega));have ahF:=U (RT (y+b) ah (Y+B) (by omega));have bn:∀v,v<500000→(um v).size≤6:=fun v aS=>(JD (by omega)).2;have z1:=bn x (by omega);have z2:=bn y (by omega);have z3:=bn (x+a) aa;have z4:=bn (y+b) ah;have bm:J (S=((((((((((((⟨#[88]⟩:aia)++um x)++⟨#[89]⟩)++um y)++⟨#[68,48,50,42,88]⟩)++um (x+a))++⟨#[68,48,49,42,89]⟩)++um (y+b))++⟨#[68,48,49,42,88]⟩)++um x)++⟨#[68,48,49,42,89]⟩)++um y)++⟨#[68,48,49,42]⟩):=by refine au8 ?_;rw[hS.out];have dK:=JE (v:=x) (by omega);have e':=JE (v:=y) (by omega);have n3:=JE (v:=x+a) (by omega);have n4:=JE (v:=y+b) (by omega);simp[hV,pX,ln,cf.km.t,vS,dK,e',n3,n4,XX]
 have b3:0≤X∧X≤500000:=by omega
 have bc:0≤Y∧Y≤500000:=by omega
 have ev:0≤A∧A≤500000:=by omega
 have F1:0≤B∧B≤500000:=by omega
 generalize um x=ayf at q6 z1 bm;generalize um y=ayg at e7 z2 bm;generalize um (x+a)=jf at ahE z3 bm;generalize um (y+b)=ayh at ahF z4 bm;clear bn dp ih hA bJ aa ah hS;go_enter Tryz.func12,Tryz.ntmps12;go_wp2_with (first|(go_at_call 13;(first|(go_fit (q6.out _))|(go_fit (e7.out _))|(go_fit (ahE.out _))|(go_fit (ahF.out _)));rintro e cr ⟨rfl,rfl⟩)|fail);go_ret;exact⟨by rw[bm.out];rfl,rfl⟩
end dE
namespace dE
open Go.RowKit el RP
open cf (hV km C ks XJ r3 tg)
open Go.ChangeShapes Go.WideShapes Go.ChangeAt Go.WideMaps Go.WideElems
variable{w:bTo}
theorem au9{a:Addr}{u:ada}(h:w.cell? a=some u):a.block<w.heap.size:=by
 rcases Nat.lt_or_ge a.block w.heap.size with fy|fy
 ·exact fy
 ·simp[World.cell?,Kh fy] at h
theorem ava{H:Type}{enc:TypeId×Value→H}{P:Program}{r:Reach}{bX:Nat}{t e:aui}(bH:P.underlying t=some (.slice e))(he:P.underlying e=some (.int .i64))(hc:P.cellsOf e=1){W:bTo}{v:ada}{d:DataW H}{p:List MemPlace}
  (aS:Value.okWide P W r bX t v) (h:DataW.Trod enc P W 0 (fun _=>true) true t v d p):
  ∃(a:aya) (cap:Nat) (l:List Int),v=ad a l.length cap∧l.length≤cap∧cap≤maxLen∧Ee W.heap.size W a l:=by
 obtain⟨a,len,cap,rfl⟩:=okWide_slice bH aS;obtain⟨fuel,hf⟩:=h;have hl:(Value.slice a len cap).cells.toList=[ad a len cap]:=by simp[Value.cells]
 rw[hl] at hf;rcases open_ints bH he hc hf with ⟨h1,_⟩|⟨h2,NF,mE,Bg,h1,_,aj,hm,bx,_,nB,Z3⟩
 ·simp only[KO,and_true] at h1;exact⟨none,0,[],h1,bD _,eC _,fun h=>absurd h (nz _)⟩
 ·simp only[KO,and_true] at h1;simp only[uR] at bx;have hlen:(Bg.take NF).length=NF:=(by simp;omega);refine⟨some h2,mE,Bg.take NF,by rw[hlen];exact h1,by omega,hm,fun aQ=>?_⟩;have yA:∀i (h:i<(Bg.take NF).length),W.cell? (h2.add i)=some (I (Bg.take NF)[i]):=(by intro i h;rw[nB i (by omega)];have:i<Bg.length:=(by omega);simp[List.getD,this]);obtain⟨b,o,q⟩:=h2;cases q with
  | none=>exact ⟨b,o,rfl,by have:=au9 (yA 0 aQ);simpa[Addr.add] using this,fun i h=>by
    have:=yA i h;by_cases aQ:i=0
    ·subst aQ;simpa[Addr.add] using this
    ·simpa[Addr.add,aQ] using this⟩
  |some q=>
   exfalso;have:=yA 0 aQ;simp only[World.cell?,Addr.add,uR] at this;split at this<;>simp at this
theorem Ca.ahG{l:List eV}{a b c d m:Int}{e:Ending}{w':bTo}(h:Ca w ⟨some l,a,b,c,d,m⟩ e w'):∃sv,e=bb (.tuple #[sv,oC 0 0 0 0])∧Jo (fun k=>w.heap.size≤k) w' sv l:=h.2
variable{a b c d:Nat}
theorem ahH{B g n:Nat}{l:List eV}(h:w.ownsRow B oB 2 (bG g 0 n c) n (jd l))(hn:n=l.length){k:Nat}(ab:k<l.length):aw w g (k *2) (I l[k].1)∧aw w g (k *2+1) (I l[k].2):=by obtain⟨aa,ah⟩:=Rq ab;exact⟨(h.cellAt (k *2) (by omega)).trans aa,(h.cellAt (k *2+1) (by omega)).trans ah⟩
theorem ahI{xs:List (km×C)}{S:aia}{dr:Int}(hS:S.data.toList=hV xs)(h:∀x∈xs,r3 x.1 x.2)(hc:tg xs<20000)(aj:(hV xs).length≤1000000)(af:∀x∈xs,ta x.2=true)(hn:xs.length≤500000):yU S dr:=by
 obtain⟨l,aa,ah⟩:=XJ xs h hc aj;have hh:S.size≤1000000:=by have:S.data.toList.length=S.size:=(by rw[Array.length_toList];rfl);rw[←this,hS];exact aj
 have sy:l.length=xs.length:=by simpa using gb List.length ah
 refine aeX hh ?_ ?_
 ·rw[hS,aa];refine List.all_eq_true.2 fun x hx=>?_;have:x.2∈xs.map Prod.snd:=(by rw[←ah];exact List.mem_map_of_mem hx);obtain⟨y,hy,he⟩:=List.mem_map.1 this;rw[←he];exact af y hy
 ·rw[hS,aa];show l.length≤_;omega
theorem RU{x y w h:Nat}(hx:x+w<500000)(hy:y+h<500000):∀z∈pX x y w h,ta z.2=true:=by
 have n:∀{v:Nat},v<500000→(jz v).length≤6:=fun h=>(JD (by omega)).2;have key:∀(u v:bk) (d:UInt8),u.length≤6→v.length≤6→ta (ln u v d).2=true:=by intro u v d hu aS;have aa:u.length≤1000000:=(by omega);have ah:v.length≤1000000:=(by omega);simp[ln,ta,cf.b2,cf.aJ,aa,ah,Ml]
 intro z bx;unfold pX at bx;simp only[vf,vg,vh] at bx;rcases bx with rfl|rfl|rfl|rfl|rfl
 ·exact key _ _ _ (n (by omega)) (n (by omega))
 ·exact key _ _ _ (n (by omega)) (by decide)
 ·exact key _ _ _ (by decide) (n (by omega))
 ·exact key _ _ _ (n (by omega)) (by decide)
 ·exact key _ _ _ (by decide) (n (by omega))
theorem avb(h:kF a b c d):∀z∈t1 a b c d,ta z.2=true:=by
 unfold kF at h;intro z bx;unfold t1 at bx;simp only[E2] at bx;rcases bx with bx|bx|bx|bx
 ·exact List.all_eq_true.1 (show pre.all (fun z=>ta z.2)=true by decide+kernel) z bx
 ·exact RU (by decide) (by decide) z bx
 ·exact RU (by omega) (by omega) z bx
 ·exact List.all_eq_true.1 (show vT.all (fun z=>ta z.2)=true by decide+kernel) z bx
theorem avc(h:kF a b c d):∀z∈t2 a b c d,ta z.2=true:=by
 unfold kF at h;intro z bx;unfold t2 at bx;simp only[E2] at bx;rcases bx with bx|bx|bx|bx|bx
 ·exact List.all_eq_true.1 (show pre.all (fun z=>ta z.2)=true by decide+kernel) z bx
 ·exact RU (by decide) (by decide) z bx
 ·exact List.all_eq_true.1 (show mid.all (fun z=>ta z.2)=true by decide+kernel) z bx
 ·exact RU (by omega) (by omega) z bx
 ·exact List.all_eq_true.1 (show vT.all (fun z=>ta z.2)=true by decide+kernel) z bx
theorem avd(h:kF a b c d){S:aia}(hS:S.data.toList=hV (t1 a b c d)):yU S 300:=ahI hS (ahp h) (by rw[ahv];decide) (by have:=ahx h;omega) (avb h) (by unfold t1 pX pre vT;simp)
theorem ave(h:kF a b c d){S:aia}(hS:S.data.toList=hV (t2 a b c d)):yU S 300:=ahI hS (ahq h) (by rw[ahw];decide) (by have:=ahy h;omega) (avc h) (by unfold t2 pX pre mid vT;simp)
theorem ahJ(l:List (List bp))(h:∀c∈l,c≠[]):Plain (gT (jo l))∧qI (gT (jo l)):=⟨⟨⟨fun c hc=>List.length_pos_iff.2 (h c hc),trivial⟩,eC _⟩,nice _⟩
theorem ahK(ao ak ar aq:Int):h' ao ak ar aq≠[]:=by simp[h']
theorem Lf(a b c d:Nat):∀x∈dt a b c d,Plain x.2∧qI x.2:=by intro x hx;unfold dt at hx;rw[List.mem_singleton.1 hx];refine ahJ _ fun c hc=>?_;simp only[vf,vg,vh] at hc;rcases hc with rfl|rfl<;>exact ahK _ _ _ _
theorem avf(a b c d:Nat):∀x∈cE a b c d,Plain x.2∧qI x.2:=by intro x hx;unfold cE at hx;simp only[vf,vg,vh] at hx;rcases hx with rfl|rfl<;>exact ahJ _ fun c hc=>by rw[List.mem_singleton.1 hc];exact ahK _ _ _ _
theorem JI.view{x y p w h d a b c:Int}(H:JI x y p w h d a b c):qa ⟨x,y,p,w,h,d⟩=true∧0<p:=by
 obtain⟨⟨aa,ah⟩,⟨ax,bg⟩,⟨n,b7,c0,ea⟩,⟨eO,fG⟩,⟨g1,g2⟩,⟨g3,g4⟩,_,_,_⟩:=H;have ob:1≤(2:Int)^ d.toNat∧(2:Int)^ d.toNat≤8:=by rcases (show d=0∨d=1∨d=2∨d=3 by omega) with rfl|rfl|rfl|rfl<;>decide
 have a':=Rk ob.2 (show 0≤n *40000 by omega);have a2:=Rk ob.1 (show 0≤n *40000 by omega);have hm:p%2^d.toNat=0:=by rw[ea];exact Int.mul_emod_left _ _
 have hp:40000≤p∧p≤81920000:=by rw[ea];omega
 have m1:w *p≤4 *81920000:=MY fG hp.2 (by omega) (by decide);have m2:h *p≤4 *81920000:=MY g2 hp.2 (by omega) (by decide);have m3:0≤w *p:=hL (by omega) (by omega);have m4:0≤h *p:=hL (by omega) (by omega);refine⟨?_,by omega⟩;unfold qa;simp only;rw[aK (by omega),aK (by rw[hm];omega),aK (by omega),aK (by omega)];simp only[okB,tp,gy,gH];omega
theorem ahL{x y p w h d a b c:Int}(H:JI x y p w h d a b c)(q6 e7:aia):B' ⟨x,y,p,w,h,d⟩ [⟨q6,0,0,0,0,false⟩,⟨e7,0,0,0,0,false⟩] 0 a b c=true:=by have aa:=H.a;have ah:=H.b;have ax:=H.c;simp[B',H.view.1,Av,je,aa,ah,ax]
theorem avg(h:kF a b c d){x y p w fy AD b6 bP a8:Int}(H:JI x y p w fy AD b6 bP a8):∃(r:List eV) (m:Int),r.length≤1000000∧(∀k,pV k ⟨x,y,p,w,fy,AD⟩ 100000 (dt a b c d,0,0)=⟨some r,0,0,0,0,m⟩)∧∀k,pV k ⟨x,y,p,w,fy,AD⟩ 100000 (cE a b c d,0,0)=⟨some r,0,0,0,0,m⟩:=by
 obtain⟨r,m,aa,ah⟩:=au1 h (v:=⟨x,y,p,w,fy,AD⟩) ⟨H.view.2,H.w.1,H.w.2,H.h.1,H.h.2,H.d.1,H.d.2⟩;have aj:=(agc (by decide) aa).2.1;simp only at aj;have hw:w.toNat≤4:=by have:=H.w;omega
 have aF:fy.toNat≤4:=by have:=H.h;omega
 have hm:fy.toNat *w.toNat≤4 *4:=WU aF hw;refine⟨r,m,by omega,fun k=>?_,fun k=>?_⟩
 ·unfold pV;simp only;rw[aK (by decide),aa]
 ·unfold pV;simp only;rw[aK (by decide),ah]
end dE
namespace TopHoles
open Go.ChangeShapes Go.WideShapes Go.ChangeAt Go.WideMaps Go.WideElems Go.RowKit
open el dE RP
open cf (hV)
abbrev lay(q6 e7:aia):Array Value:= #[au q6,I 0,I 0,I 0,I 0,ai false,au e7,I 0,I 0,I 0,I 0,ai false]
theorem ahM{w:bTo}{k:Nat}{q6 e7:aia}(h:bo w k (lay q6 e7) mu):ui (fun _=>True) w (some (ag k 0)) [⟨q6,0,0,0,0,false⟩,⟨e7,0,0,0,0,false⟩]:=by refine⟨by show 2≤1000000000;decide,fun _=>⟨k,0,_,rfl,trivial,h,fun i hi=>?_⟩⟩;have sq:i<2:=hi;rcases (show i=0∨i=1 by omega) with rfl|rfl<;>rfl
theorem walk(a0:Int)(avh:-9223372036854775808≤a0)(avi:a0≤9223372036854775807)(bX:Int)(avj:-9223372036854775808≤bX)(avk:bX≤9223372036854775807)(aJ:Int)(avl:-9223372036854775808≤aJ)(avm:aJ≤9223372036854775807)(d0:Int)(avn:-9223372036854775808≤d0)(avo:d0≤9223372036854775807)(hJ:aya)(vt:Nat)(nl:List Int)(avp:nl.length≤vt)(Fx:vt≤maxLen)(w:bTo)(bx:Ee w.heap.size w hJ nl):
  Calls Tryz.prog 3 #[I a0,I bX,I aJ,I d0,ad hJ nl.length vt] w fun e w'=>e=bb (ai true)∧av w w w':=by
 have gp:nl.length≤9223372036854775807:=by unfold maxLen at Fx;omega
 have bB:=U (fun Z (eU:av w w Z)=>au4 hJ nl vt gp Z (U (fun h=>by obtain⟨b,o,e,bJ,hc⟩:=(Ee.below bx eU) h;exact⟨b,o,e,jl bJ eU.size,hc⟩)));clear avh avi avj avk avl avm avn avo avp Fx gp bx;have ha:=AB a0;have af:=AB bX;have hc:=AB aJ;have hd:=AB d0;obtain⟨a,hA⟩:∃a:Nat,bits BinOp.and IntKind.i64 a0 255=(a:Int):=⟨(bits BinOp.and IntKind.i64 a0 255).toNat,by omega⟩;obtain⟨b,bJ⟩:∃a:Nat,bits BinOp.and IntKind.i64 bX 255=(a:Int):=⟨(bits BinOp.and IntKind.i64 bX 255).toNat,by omega⟩;obtain⟨c,lA⟩:∃a:Nat,bits BinOp.and IntKind.i64 aJ 255+1=(a:Int):=⟨(bits BinOp.and IntKind.i64 aJ 255+1).toNat,by omega⟩;obtain⟨d,bZ⟩:∃a:Nat,bits BinOp.and IntKind.i64 d0 255+1=(a:Int):=⟨(bits BinOp.and IntKind.i64 d0 255+1).toNat,by omega⟩;have bY:J (kF a b c d):=by show kF a b c d;unfold kF;omega
 obtain⟨lT,py⟩:∃S:aia,S=⟨(hV (pX 0 0 1000 1000)).toArray⟩:=⟨_,rfl⟩;obtain⟨RV,FR⟩:∃S:aia,S=⟨(hV (pX (a+10) (b+10) c d)).toArray⟩:=⟨_,rfl⟩;have ahN:=bY.out;unfold kF at ahN;have HG:lT.size≤90:=by have h:=JH (x:=0) (y:=0) (w:=1000) (h:=1000) (by decide) (by decide);rw[py];exact h
 have ij:RV.size≤90:=by have h:=JH (x:=a+10) (y:=b+10) (w:=c) (h:=d) (by omega) (by omega);rw[FR];exact h
 have xl:=U (ahD 0 0 1000 1000 (by decide) (by decide) 0 0 1000 1000 rfl rfl rfl rfl lT (U (by rw[py])));have D3:=U (ahD (a+10) (b+10) c d (by omega) (by omega) ((a:Int)+10) ((b:Int)+10) (c:Int) (d:Int) (by omega) (by omega) rfl rfl RV (U (by rw[FR])));obtain⟨q6,XY⟩:∃T:aia,(((⟨#[37,70,83,76,65,88,50,52,89,50,52,42,37,37,77,79,77,77,42,37,71,51,54,42]⟩:aia)++lT)++RV)++⟨#[71,51,55,42,77,48,50,42]⟩=T:=⟨_,rfl⟩;obtain⟨e7,vk⟩:∃T:aia,((((⟨#[37,70,83,76,65,88,50,52,89,50,52,42,37,37,77,79,77,77,42,37,71,51,54,42]⟩:aia)++lT)++⟨#[71,51,55,42,37,76,80,67,42,37,71,51,54,42]⟩)++RV)++⟨#[71,51,55,42,77,48,50,42]⟩=T:=⟨_,rfl⟩;have DL:J (q6.data.toList=hV (t1 a b c d)):=by show _=_;rw[←XY,py,FR];unfold t1;simp only[XX,Cg];simp[pre,vT,hV,Ce,AA,cf.km.t,cf.Cd]
 have lC:J (e7.data.toList=hV (t2 a b c d)):=by show _=_;rw[←vk,py,FR];unfold t2;simp only[XX,Cg];simp[pre,mid,vT,hV,Ce,AA,cf.km.t,cf.Cd]
 have q0:=U XY;have oy:=U vk;clear py FR XY vk;go_enter Tryz.func3,Tryz.ntmps3;go_upto_region 4 with (first|(go_at_call 12;(first|(go_fit (xl.out _))|(go_fit (D3.out _)));rintro e cr ⟨rfl,rfl⟩)|fail);go_upto_region 5 with (first|(go_at_call 15;(go_fit (bB.out _ (Below.refl _ _)));rintro e dJ ⟨e6,x,y,lO,W,H,AD,b6,bP,a8,Jz,rfl⟩)|fail);have XZ:=U Jz;refine Me (P:=Code.wp _ _ _ _) fun ez cB gB=>?_;have fq:=U (e6.trans (gB.mono e6.size));have Ax:=U cB;have X0:=U e6.size;obtain⟨GO,ahO⟩:=az dJ.heap.size;rw[ahO] at Ax X0⊢;clear e6 cB gB Jz ahO bB;have JJ:=cell_of (i:=12) Ax.out rfl;have GS:=cP Ax.out;have GU:=lt_of_heap Ax.out;go_upto_region 6 with fail;refine adb (P:=Code.wp _ _ _ _) Ax.out fun gn cB ab=>?_;have ek:=U (ab.aY fq.out X0.out fq.out.size);have Ch:=U cB;clear cB ab JJ GS GU fq Ax;have fI:=cell_of (i:=6) Ch.out rfl;have GS:=cP Ch.out;have GU:=lt_of_heap Ch.out;have aN:bT ((a:Int)+10)=(a:Int)+10:=b4 _ (by omega);have aR:bT ((b:Int)+10)=(b:Int)+10:=b4 _ (by omega);go_upto_region 7 with (first|(go_at_call 12;(first|(go_fit (D3.out _)));rintro e bt ⟨rfl,rfl⟩)|fail);rw[q0.out,oy.out];refine aov (P:=fun X=>Code.wp _ _ _ _ (X.alloc (aD (lay q6 e7) mu))) Ch.out fun hQ cB ab hs=>?_;rw[←hs] at cB⊢;have im:=U (ab.aY ek.out X0.out ek.out.size);have ahP:=U cB;clear cB ab hs fI GS GU aN aR ek Ch;refine Me (P:=Code.wp _ _ _ _) fun dG aj B0=>?_;have lQ:=U (im.out.trans (B0.mono im.out.size));have RW:J (bo dG GO (#[I x,I y,I lO,I W,I H,I AD,ad (some (ag hQ.heap.size 0)) 2 2,eX,I b6,I bP,I a8,I 300,I 100000]) lj):=aO ahP.out B0;have RX:=U aj;obtain⟨L,Q0⟩:=az hQ.heap.size;rw[Q0] at RW RX⊢;clear aj B0 Q0 im ahP q0 oy HG ij xl D3;obtain⟨r,hH,r9,Bm,F3⟩:=avg bY.out XZ.out;have HM:J (∀Z,av dG dG Z→Calls Tryz.prog 16 #[.agg #[I x,I y,I lO,I W,I H,I AD,bG L 0 2 2,ay 0,I b6,I bP,I a8,I 300,I 100000],I 0] Z (Ca Z ⟨some r,0,0,0,0,hH⟩)):=fun Z eU=>af7 (fun _=>True) x y lO W H AD [⟨q6,0,0,0,0,false⟩,⟨e7,0,0,0,0,false⟩] (some (ag L 0)) 2 2 rfl none 0 b6 bP a8 300 100000 0 (ahL XZ.out q6 e7) q6 0 0 0 0 rfl (avd bY.out DL.out) _ 0 0 (by rw[DL.out];exact auZ bY.out) (Lf a b c d) Z (U (ahM (aO RX.out eU))) _ (U (Bm 0));have HN:J (∀Z,av dG dG Z→Calls Tryz.prog 16 #[.agg #[I x,I y,I lO,I W,I H,I AD,bG L 0 2 2,ay 0,I b6,I bP,I a8,I 300,I 100000],I 1] Z (Ca Z ⟨some r,0,0,0,0,hH⟩)):=fun Z eU=>af7 (fun _=>True) x y lO W H AD [⟨q6,0,0,0,0,false⟩,⟨e7,0,0,0,0,false⟩] (some (ag L 0)) 2 2 rfl none 0 b6 bP a8 300 100000 1 (ahL XZ.out q6 e7) e7 0 0 0 0 rfl (ave bY.out lC.out) _ 0 0 (by rw[lC.out];exact au0 bY.out) (avf a b c d) Z (U (ahM (aO RX.out eU))) _ (U (F3 1));clear Bm F3;obtain⟨jx,gL,gM,gC,gD,jy,jN,kg,kh,ki,kj,kk,jO⟩:=ny RW.out;go_upto_region 8 with (first|(go_at_call 16;(go_fit (HM.out _ (Below.refl _ _)));intro e hD hr;have nw:=hr.aY;obtain⟨sv,rfl,hj⟩:=hr.ahG)|fail);have wI:=U (lQ.out.trans (nw.mono lQ.out.size));refine Me (P:=Code.wp _ _ _ _) fun fR hf yz=>?_;have gE:=U (wI.out.trans (yz.mono wI.out.size));have X1:=U (nw.trans (yz.mono nw.size));have Rl:=U (aO RW.out X1.out);have Mj:=U hf;obtain⟨Ri,eh,_⟩:=hj;obtain⟨er,aI,rfl⟩:=ik eh;have w9:=U (fE eh yz);obtain⟨Zt,Ds⟩:=az hD.heap.size;rw[Ds] at Mj⊢;clear hr nw hf yz eh lQ wI RW RX HM Ds jx gL gM gC gD jy jN kg kh ki kj kk jO;obtain⟨jx,gL,gM,gC,gD,jy,jN,kg,kh,ki,kj,kk,jO⟩:=ny Rl.out;go_upto_region 9 with (first|(go_at_call 16;(go_fit (HN.out _ X1.out));intro e ayi hr;have X2:=hr.aY;obtain⟨zX,rfl,hj⟩:=hr.ahG)|fail);refine Me (P:=Code.wp _ _ _ _) fun Ec hf X3=>?_;have wa:=X2.trans (X3.mono X2.size);have ahQ:=U (gE.out.trans (wa.mono gE.out.size));have Az:=U (aO Mj.out wa);have avq:=U hf;obtain⟨ayj,eh,_⟩:=hj;obtain⟨ee,c2,rfl⟩:=ik eh;have y5:=U (fE w9.out wa);have X4:=U (fE eh X3);obtain⟨n,hn⟩:=az r.length;have a1:=U hn;rw[hn] at y5 X4 r9⊢;clear hr X2 hf X3 wa eh gE Rl Mj w9 X1 HN hn jx gL gM gC gD jy jN kg kh ki kj kk jO;obtain⟨f0,f1,f2,f3⟩:=n5 Az.out;obtain⟨g0,g1,g2,g3⟩:=n5 avq.out;go_upto_region 11 with fail;clear f0 f1 f2 f3 g0 g1 g2 g3;go_wp2_with fail;clear hA bJ lA bZ ha af hc hd ahN
 go_loopw [18] (fun i wr=>∃(k:Nat) (aG:bTo),aG=wr∧k≤n∧i=I k∧J (av Ec Ec aG)) (fun i _=>n -(intOf i).toNat)
 case atStart=>exact⟨0,_,rfl,by omega,rfl,Below.refl _ _⟩
 case round=>
 obtain⟨k,aG,rfl,ab,rfl,cq⟩:=hrel;by_cases vp:k<n
 ·have rM:(k:Int)<(n:Int):=(by omega);have X5:k<r.length:=(by rw[a1.out];exact vp);obtain⟨g1,ayk,aN,_,_⟩:=y5.out.form (by omega);obtain⟨g2,ayl,aR,_,_⟩:=X4.out.form (by omega);injection aN with aN _ cA;injection aR with aR _ hN;subst aN aR cA hN;obtain⟨ar,gY⟩:=ahH (fE y5.out cq.out) a1.out.symm X5;obtain⟨aq,e1⟩:=ahH (fE X4.out cq.out) a1.out.symm X5;generalize r[k].1=u1 at ar aq;generalize r[k].2=u2 at gY e1;clear X5;go_wp2_with fail
  go_quiet (fail)
  have P2:=U (cq.out.trans ((gj (Below.refl _ _) nq).mono cq.out.size));go_wp2_with fail;go_round<;>first|exact⟨k+1,_,rfl,by omega,by go_num,P2.out⟩|(simp[intOf]<;>omega)
 ·obtain rfl:k=n:=(by omega);have b8:=U (auw aG);go_wp2_with (first|(go_at_call 17;(with_reducible refine b8.out.mono ?_);rintro e Jv ⟨rfl,avr⟩)|fail);go_ret;have aC:=ahQ.out.trans (cq.out.mono ahQ.out.size);exact⟨rfl,aC.trans (avr.mono aC.size)⟩
end TopHoles
namespace ahR
open Go.ChangeShapes Go.WideShapes Go.ChangeAt Go.RowKit pH
theorem own:ownKnob Tryz.prog.godebug=none:=by kernel_rfl
theorem laidOut:laidOutB Tryz.prog=true:=by kernel_rfl
theorem ahS{H:Type}{enc:TypeId×Value→H}{P:Program}(aj:laidOutB P=true){W ng:bTo}(af:av W W ng):
  ∀{ts:List TypeId} {vs:bTv} {iw:List (DataW H)} {ps:List MemPlace},(ts.all fun t=>P.readableRec t&&decide (t<P.types.size))=true→
   DataW.TrodAll enc P W 0 (fun _=>true) true ts vs iw ps→(∀x∈ps,x.block<W.heap.size)→DataW.TrodAll enc P ng 0 (fun b=>decide (b<W.heap.size)) true ts vs iw ps
 |[],[],[],_,_,h,_=>h
 |[],[],_::_,_,_,h,_=>h.elim
 |[],_::_,[],_,_,h,_=>h.elim
 |[],_::_,_::_,_,_,h,_=>h.elim
 |_::_,[],_,_,_,h,_=>h.elim
 |_::_,_::_,[],_,_,h,_=>h.elim
 |t::ts,v::vs,d::iw,ps,hr,h,b0=>by obtain⟨p,q,aa,ah,rfl⟩:=h;simp only[AG,gy,gH] at hr;exact⟨p,q,Below.trod aj hr.1.1 hr.1.2 aa af (fun x hx=>b0 x (by simp[hx])),ahS aj af hr.2 ah (fun x hx=>b0 x (by simp[hx])),rfl⟩
theorem avs{os:Os}(started:os.Started){f:FuncId}{fn:Func}{s:ChangeSpec}{laid:List (String×DataW Unit)}{H:Type}{enc:TypeId×Value→H}
  (avt:Tryz.prog.inits.idxOf? f=none) (X6:Tryz.prog.funcs[f]?=some fn) (X7:s.vars=[]) (dk:fn.resultTypes= #[4])
  (avu:(fn.params.toList.all fun t=>Tryz.prog.readableRec t&&decide (t<Tryz.prog.types.size))=true)
  (X8:∀iw:List (DataW H),iw.length=fn.params.size→s.fn H (iw++[])={results:=[.lit (.bool true)],args:=iw,vars:=[]})
  (witness:∃(w:bTo) (tape:Tape) (i:Input),w.os=os∧(w.forCall tape i).Shaped Tryz.prog∧i.vars=[]∧Input.okWide Tryz.prog (w.forCall tape i) .any w.heap.size f i∧
   ((s.pre enc Tryz.prog fn [] false (w.forCall tape i).memory i.args∧laidMetH Tryz.prog laid (w.forCall tape i).memory)∧sizedMet enc Tryz.prog fn (OpenSpec.ofChange s) false (w.forCall tape i).memory i.args)∧({}:Assume).holds Tryz.prog (lone (Frame.enter Tryz.prog f i.args .normal) [] (w.forCall tape i)))
  (walk:∀(W:bTo) (base:Nat) (args:agv) (iw:List (DataW H)) (p:List MemPlace),
   (∀(j:Nat) t v,fn.params[j]?=some t→args[j]?=some v→Value.okWide Tryz.prog W .any base t v)→
   DataW.TrodAll enc Tryz.prog W 0 (fun _=>true) true fn.params.toList args.toList iw p→
   (DataW.weightsEach Tryz.prog fn.params.toList iw).all (· ≤reachBytes)=true→
   W.noneFrozen p→laidMetH Tryz.prog laid W→Calls Tryz.prog f args W fun e ng=>e=bb (ai true)∧av W W ng):
  ReturnsInHanded {} Tryz.checked os f .any (fun w args=>(s.pre enc Tryz.prog fn [] false w args∧laidMetH Tryz.prog laid w)∧sizedMet enc Tryz.prog fn (OpenSpec.ofChange s) false w args) (s.post enc Tryz.prog fn false true false false):=by
 refine returnsInHanded_of_change_and (C:=Tryz.checked) (X:=fun w _=>laidMetH Tryz.prog laid w) (fun _ _ _ aF h=>h.of_heap aF) own started avt X6 witness ?_;intro W base args iw gs before avv a6 _ hh lU _;have uj:∀(j:Nat) t v,fn.params[j]?=some t→args[j]?=some v→Value.okWide Tryz.prog W .any base t v:=avv;have ahT:=a6;obtain⟨p,q,hA0,nQ,rfl,oc,aa7⟩:=a6;have hA:DataW.TrodAll enc Tryz.prog W 0 (fun _=>true) true fn.params.toList args.toList iw p:=hA0
 have EZ:gs=[]∧q=[]:=by
  rw[X7] at nQ;cases gs with
  |nil=>exact⟨rfl,nQ⟩
  |cons _ _=>exact nQ.elim
 obtain⟨rfl,rfl⟩:=EZ;have avw:(DataW.weightsEach Tryz.prog fn.params.toList iw).all (· ≤reachBytes)=true:=by have aN:s.plain.varTypes Tryz.prog=[]:=(by show s.vars.filterMap _=[];rw[X7];rfl);have h:=hh;rw[show (s.plain.varTypes Tryz.checked.prog)=[] from aN,List.append_nil,List.append_nil] at h;exact h
 have b0:∀x∈p,x.block<W.heap.size:=fun x hx=>ahT.lt x (by simp[hx]);have avx:W.noneFrozen p:=by simpa using oc
 have hlen:iw.length=fn.params.size:=by
  have:∀{ts:List TypeId} {vs:bTv} {iw:List (DataW H)} {ps:List MemPlace},DataW.TrodAll enc Tryz.prog W 0 (fun _=>true) true ts vs iw ps→iw.length=ts.length:=by
   intro ts
   induction ts with
   |nil=>intro vs iw ps h;cases vs<;>cases iw<;>first|rfl|exact h.elim
   |cons t ts dc=>
    intro vs iw ps h;cases vs with
    |nil=>exact h.elim
    |cons v vs=>
     cases iw with
     |nil=>exact h.elim
     |cons d iw=>
      obtain⟨p,q,_,ah,_⟩:=h;simp[dc ah]
  simpa using this hA
 refine (walk W base args iw p uj hA avw avx lU).mono fun e ng ⟨he,af⟩=>?_;subst he;refine⟨_,rfl,iw,[],p++[],[],p,[],ahT,?_,?_,?_,af.frame _,fun h=>by cases h⟩
 ·rw[X8 iw hlen,dk];exact trodAll_mk1 (shut_bool Tryz.underlying4 _)
 ·rw[X8 iw hlen];exact ahS laidOut af avu hA b0
 ·rw[X8 iw hlen,X7];rfl
end ahR
namespace TopHoles
open Go.ChangeShapes Go.WideShapes Go.ChangeAt Go.RowKit
theorem closed:joinedFacts Tryz.pinned.checked.prog 3 Tryz.f3 Rows.topHolesSpec Rows.topHolesRow=true:=by
 unfold joinedFacts;simp only[gy]
 repeat' (apply And.intro)
 all_goals (as_aux_lemma=>kernel_rfl)
end TopHoles
