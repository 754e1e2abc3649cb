/- Lemmas. -/
import Derived.Test.YtfldplmgkeiimaaGreatDoorQ37
set_option linter.all false
set_option maxRecDepth 100000
set_option maxHeartbeats 25600000
namespace Go.Proofs.YtfldplmgkeiimaaGreatDoor
namespace c4
open Go.RowKit dH
def lQ(n:Nat→Int):Nat→Int
 |0=>0
 |1=>n 0
 |k+2=>min (lQ n (k+1)) (n (k+1))
def lR(n:Nat→Int):Nat→Int
 |0=>0
 |1=>n 0
 |k+2=>max (lR n (k+1)) (n (k+1))
theorem agu(a b:Int)(j:Nat)(cr:j<2)(w:aeo):(Instr.index 171 (.agg #[I a,I b]) (I j)).run Tryz.prog w=.ok (I (if j=0 then a else b)) w:=by rcases (show j=0∨j=1 by omega) with rfl|rfl<;>simp[Instr.index,jq Tryz.underlying171,asIntOf,go_sem,part]
theorem QS(a b:Int)(j:Nat)(cr:j<2)(w:aeo):(Instr.index 172 (.agg #[I a,I b]) (I j)).run Tryz.prog w=.ok (I (if j=0 then a else b)) w:=by rcases (show j=0∨j=1 by omega) with rfl|rfl<;>simp[Instr.index,jq Tryz.underlying172,asIntOf,go_sem,part]
variable{k:Int}
theorem agv{t c al cells:Int}(bB:0≤t∧t≤16711680)(hc:0≤c∧c≤255)(ha:0≤al∧al≤255)(ax:0≤k∧k≤cells)(hn:1≤cells∧cells≤4096):
  (0≤al *k∧al *k≤255 *cells)∧(0≤t *(255 *cells-al *k)∧t *(255 *cells-al *k)≤17455015526400)∧(0≤65536 *c *(al *k)∧65536 *c *(al *k)≤17455015526400):=by
 have av:0≤al *k:=gW ha.1 ax.1;have az:0≤(255-al) *k:=gW (by omega) ax.1;have aF:(255-al) *k=255 *k-al *k:=by grind
 have bk:al *k≤255 *cells:=by omega
 have b9:0≤t *(255 *cells-al *k):=gW bB.1 (by omega);have cW:0≤(16711680-t) *(255 *cells-al *k):=gW (by omega) (by omega);have eN:(16711680-t) *(255 *cells-al *k)=16711680 *(255 *cells-al *k)-t *(255 *cells-al *k):=by grind
 have ff:0≤c *(al *k):=gW hc.1 av;have hJ:0≤(255-c) *(al *k):=gW (by omega) av;have Ab:(255-c) *(al *k)=255 *(al *k)-c *(al *k):=by grind
 have G2:65536 *c *(al *k)=65536 *(c *(al *k)):=by grind
 refine⟨⟨av,bk⟩,⟨b9,by omega⟩,⟨by omega,by omega⟩⟩
theorem auC(t:Int×Int)(c al:Int)(v:eM)(cells:Int)(hc:0≤c∧c≤255)(ha:0≤al∧al≤255)(aS:GK v cells=true)(bB:q2 t=true)(w:aeo):
  Calls Tryz.prog 43 #[Dt t,I c,I al,Dt v,I cells] w fun e w'=>e=ab (.tuple #[Dt (B5 t c al v cells /(255 *cells),(B6 t c al v cells+255 *cells-1)/(255 *cells)),U true])∧ao w w w':=by
 have b0:=aq aS;have c9:=aq bB;obtain⟨cy,cE⟩:=t;obtain⟨a0,bE⟩:=v;have p4:=aS;have tK:=bB;simp only[GK,ix,iO] at p4;simp only[q2,ix,iO] at tK;obtain⟨kg,gS,y8,tx,C2⟩:=p4;obtain⟨w2,agw,agx⟩:=tK;obtain⟨n,hn⟩:∃n:Nat→Int,(fun q=>um (if q%2=0 then cy else cE) c al (if q/2=0 then a0 else bE) cells)=n:=⟨_,rfl⟩;have bf:=aq hn;have hF:∀(b a:Int),0≤b∧b≤16711680→0≤a∧a≤cells→(ae (al *a)=al *a∧ae (255 *cells-al *a)=255 *cells-al *a∧ae (b *(255 *cells-al *a))=b *(255 *cells-al *a)∧ae (65536 *c *(al *a))=65536 *c *(al *a)∧ae (b *(255 *cells-al *a)+65536 *c *(al *a))=b *(255 *cells-al *a)+65536 *c *(al *a)):=by intro b a ay h;obtain⟨⟨f1,f2⟩,⟨f3,f4⟩,⟨f5,f6⟩⟩:=agv ay hc ha h ⟨kg,gS⟩;exact⟨cX _ (by omega),cX _ (by omega),cX _ (by omega),cX _ (by omega),cX _ (by omega)⟩
 have agy:∀q,0≤n q∧n q≤34910031052800:=by intro q;rw[←hn];simp only[um];obtain⟨⟨f1,f2⟩,⟨f3,f4⟩,⟨f5,f6⟩⟩:=agv (t:=if q%2=0 then cy else cE) (k:=if q/2=0 then a0 else bE) (by split<;>omega) hc ha (by split<;>omega) ⟨kg,gS⟩;omega
 have aP:=aq hF;have fQ:=aq agy;have auD:ae (65536 *c)=65536 *c:=cX _ (by omega);have auE:ae (255 *cells)=255 *cells:=cX _ (by omega);have ayQ:¬c<0:=by omega
 have ayR:¬c > 255:=by omega
 have ayS:¬al<0:=by omega
 have ayT:¬al > 255:=by omega
 have ij:af (0≤cy∧cy≤cE∧cE≤16711680∧0≤a0∧a0≤bE∧bE≤cells∧1≤cells∧cells≤4096):=aq (And.intro w2 (And.intro agw (And.intro agx (And.intro y8 (And.intro tx (And.intro C2 (And.intro kg gS)))))));clear aS bB hn hF agy w2 agw agx y8 tx C2;go_enter Tryz.func43,Tryz.ntmps43;go_upto_region 1 with fail;obtain⟨W,br⟩:=ar (((w.alloc (Ds (cy,cE))).alloc (ai (#[I a0,I bE]) 43)).alloc (Ds (0,0)));obtain⟨av,az,aF,bk,_⟩:=zc br;have H1:=aq av;have c1:=aq az;have dM:=aq aF;have iY:=aq bk;change Code.wp _ _ _ _ (((w.alloc (Ds (cy,cE))).alloc (ai (#[I a0,I bE]) 43)).alloc (Ds (0,0)));rw[br];clear br av az aF bk;obtain⟨gf,e8⟩:=pg H1.out;obtain⟨fm,bW⟩:=pg c1.out;go_wp2_with fail;with_reducible refine (aty (a0,bE) cells true b0 _).mono ?_
 rintro e ck ⟨rfl,ay⟩;have Wz:=aq (aU H1.out ay);have WA:=aq (aU c1.out ay);have agz:=aq (aU dM.out ay);have WB:af (ao w w ck):=iY.out.trans (ay.mono iY.out.size);clear gf e8 fm bW ay H1 c1 dM iY;obtain⟨gf,e8⟩:=pg Wz.out;obtain⟨fm,bW⟩:=pg WA.out;go_wp2_with fail;with_reducible refine (aft (cy,cE) true c9 _).mono ?_
 rintro e cm ⟨rfl,ay⟩;have auF:=aq (aU Wz.out ay);have auG:=aq (aU WA.out ay);have WC:=aq (aU agz.out ay);have auH:af (ao w w cm):=WB.out.trans (ay.mono WB.out.size);clear gf e8 fm bW ay Wz WA agz WB;obtain⟨gf,e8⟩:=pg auF.out;obtain⟨fm,bW⟩:=pg auG.out;go_wp2_with fail
 go_loopw [13,14,15,55] (fun l m f i wr=>∃(j:Nat) (aK:aeo),aK=wr∧af (aK=cm)∧j≤2∧l=I (lQ n (2 *j))∧m=I (lR n (2 *j))∧f=U (decide (j=0))∧i=I j) (fun _ _ _ i _=>2 -(intOf i).toNat)
 case atStart=>exact⟨0,_,rfl,rfl,by decide,rfl,rfl,rfl,rfl⟩
 case round=>
 obtain⟨j,aK,rfl,br,cr,rfl,rfl,rfl,rfl⟩:=hrel;have gC:=br.out;subst gC;obtain⟨uK,AI⟩:∃uK:Int,(j:Int)=uK:=⟨_,rfl⟩;rw[AI];rcases (show j=0∨j=1∨j=2 by omega) with rfl|rfl|rfl
 ·
  obtain rfl:uK=0:=(by omega);have r4:∀w,(Instr.index 171 (.agg #[I a0,I bE]) (I 0)).run Tryz.prog w=.ok (I a0) w:=fun w=>agu a0 bE 0 (by decide) w;have auI:ae (al *a0)=al *a0:=(aP.out cy a0 (by have:=ij.out;omega) (by have:=ij.out;omega)).1;go_wp2_with fail
  go_loopw [13,14,15,66] (fun l m f i wr=>∃(k:Nat) (cD:aeo),cD=wr∧af (cD=aK)∧k≤2∧l=I (lQ n (2 *0+k))∧m=I (lR n (2 *0+k))∧f=U (decide (2 *0+k=0))∧i=I k) (fun _ _ _ i _=>2 -(intOf i).toNat)
  case atStart=>exact⟨0,_,rfl,rfl,by decide,rfl,rfl,rfl,rfl⟩
  case round=>
  obtain⟨k,cD,rfl,IK,ax,rfl,rfl,rfl,rfl⟩:=hrel;have WD:=IK.out;subst WD;obtain⟨yO,ou⟩:∃yO:Int,(k:Int)=yO:=⟨_,rfl⟩;rw[ou];rcases (show k=0∨k=1∨k=2 by omega) with rfl|rfl|rfl
  ·
   obtain rfl:yO=0:=(by omega);have r4:∀w,(Instr.index 172 (.agg #[I cy,I cE]) (I 0)).run Tryz.prog w=.ok (I cy) w:=fun w=>QS cy cE 0 (by decide) w;obtain⟨f1,f2,f3,f4,f5⟩:=aP.out cy a0 (by have:=ij.out;omega) (by have:=ij.out;omega);have z6:cy *(255 *cells-al *a0)+65536 *c *(al *a0)=n 0:=(by rw[←bf.out];rfl);rw[z6] at f5;go_wp2_with fail;go_round<;>first|exact⟨1,_,rfl,rfl,by omega,rfl,rfl,rfl,by go_num⟩|(simp[intOf]<;>omega)
  ·
   obtain rfl:yO=1:=(by omega);have r4:∀w,(Instr.index 172 (.agg #[I cy,I cE]) (I 1)).run Tryz.prog w=.ok (I cE) w:=fun w=>QS cy cE 1 (by decide) w;obtain⟨f1,f2,f3,f4,f5⟩:=aP.out cE a0 (by have:=ij.out;omega) (by have:=ij.out;omega);have z6:cE *(255 *cells-al *a0)+65536 *c *(al *a0)=n 1:=(by rw[←bf.out];rfl);rw[z6] at f5;obtain⟨l,aA⟩:=ar (lQ n 1);obtain⟨m,hm⟩:=ar (lR n 1);have fb:af (lQ n (1+1)=min l (n 1)):=(by show _=_;rw[←aA];rfl);have c0:af (lR n (1+1)=max m (n 1)):=(by show _=_;rw[←hm];rfl);obtain⟨u,hu⟩:=ar (n 1);rw[hu] at f5 z6 fb c0;have a1:lQ n (2 *0+1)=l:=aA;have a6:lR n (2 *0+1)=m:=hm;rw[a1,a6];clear aA hm hu a1 a6;by_cases aL:u<l<;>by_cases aI:u > m
   ·have kC:af (lQ n (1+1)=u):=(by show _=_;rw[fb.out];omega);have kh:af (lR n (1+1)=u):=(by show _=_;rw[c0.out];omega);go_wp2_with fail;go_round<;>first|exact⟨1+1,_,rfl,rfl,by omega,by rw[←kC.out],by rw[←kh.out],rfl,by go_num⟩|(simp[intOf]<;>omega)
   ·have kC:af (lQ n (1+1)=u):=(by show _=_;rw[fb.out];omega);have kh:af (lR n (1+1)=m):=(by show _=_;rw[c0.out];omega);go_wp2_with fail;go_round<;>first|exact⟨1+1,_,rfl,rfl,by omega,by rw[←kC.out],by rw[←kh.out],rfl,by go_num⟩|(simp[intOf]<;>omega)
   ·have kC:af (lQ n (1+1)=l):=(by show _=_;rw[fb.out];omega);have kh:af (lR n (1+1)=u):=(by show _=_;rw[c0.out];omega);go_wp2_with fail;go_round<;>first|exact⟨1+1,_,rfl,rfl,by omega,by rw[←kC.out],by rw[←kh.out],rfl,by go_num⟩|(simp[intOf]<;>omega)
   ·have kC:af (lQ n (1+1)=l):=(by show _=_;rw[fb.out];omega);have kh:af (lR n (1+1)=m):=(by show _=_;rw[c0.out];omega);go_wp2_with fail;go_round<;>first|exact⟨1+1,_,rfl,rfl,by omega,by rw[←kC.out],by rw[←kh.out],rfl,by go_num⟩|(simp[intOf]<;>omega)
  ·
   obtain rfl:yO=2:=(by omega);go_wp2_with fail;go_round<;>first|exact⟨0+1,_,rfl,rfl,by omega,rfl,rfl,rfl,by go_num⟩|(simp[intOf]<;>omega)
 ·
  obtain rfl:uK=1:=(by omega);have r4:∀w,(Instr.index 171 (.agg #[I a0,I bE]) (I 1)).run Tryz.prog w=.ok (I bE) w:=fun w=>agu a0 bE 1 (by decide) w;have auI:ae (al *bE)=al *bE:=(aP.out cy bE (by have:=ij.out;omega) (by have:=ij.out;omega)).1;go_wp2_with fail
  go_loopw [13,14,15,66] (fun l m f i wr=>∃(k:Nat) (cD:aeo),cD=wr∧af (cD=aK)∧k≤2∧l=I (lQ n (2 *1+k))∧m=I (lR n (2 *1+k))∧f=U (decide (2 *1+k=0))∧i=I k) (fun _ _ _ i _=>2 -(intOf i).toNat)
  case atStart=>exact⟨0,_,rfl,rfl,by decide,rfl,rfl,rfl,rfl⟩
  case round=>
  obtain⟨k,cD,rfl,IK,ax,rfl,rfl,rfl,rfl⟩:=hrel;have WD:=IK.out;subst WD;obtain⟨yO,ou⟩:∃yO:Int,(k:Int)=yO:=⟨_,rfl⟩;rw[ou];rcases (show k=0∨k=1∨k=2 by omega) with rfl|rfl|rfl
  ·
   obtain rfl:yO=0:=(by omega);have r4:∀w,(Instr.index 172 (.agg #[I cy,I cE]) (I 0)).run Tryz.prog w=.ok (I cy) w:=fun w=>QS cy cE 0 (by decide) w;obtain⟨f1,f2,f3,f4,f5⟩:=aP.out cy bE (by have:=ij.out;omega) (by have:=ij.out;omega);have z6:cy *(255 *cells-al *bE)+65536 *c *(al *bE)=n 2:=(by rw[←bf.out];rfl);rw[z6] at f5;obtain⟨l,aA⟩:=ar (lQ n 2);obtain⟨m,hm⟩:=ar (lR n 2);have fb:af (lQ n (2+1)=min l (n 2)):=(by show _=_;rw[←aA];rfl);have c0:af (lR n (2+1)=max m (n 2)):=(by show _=_;rw[←hm];rfl);obtain⟨u,hu⟩:=ar (n 2);rw[hu] at f5 z6 fb c0;have a1:lQ n (2 *1+0)=l:=aA;have a6:lR n (2 *1+0)=m:=hm;rw[a1,a6];clear aA hm hu a1 a6;by_cases aL:u<l<;>by_cases aI:u > m
   ·have kC:af (lQ n (2+1)=u):=(by show _=_;rw[fb.out];omega);have kh:af (lR n (2+1)=u):=(by show _=_;rw[c0.out];omega);go_wp2_with fail;go_round<;>first|exact⟨0+1,_,rfl,rfl,by omega,by rw[←kC.out],by rw[←kh.out],rfl,by go_num⟩|(simp[intOf]<;>omega)
   ·have kC:af (lQ n (2+1)=u):=(by show _=_;rw[fb.out];omega);have kh:af (lR n (2+1)=m):=(by show _=_;rw[c0.out];omega);go_wp2_with fail;go_round<;>first|exact⟨0+1,_,rfl,rfl,by omega,by rw[←kC.out],by rw[←kh.out],rfl,by go_num⟩|(simp[intOf]<;>omega)
   ·have kC:af (lQ n (2+1)=l):=(by show _=_;rw[fb.out];omega);have kh:af (lR n (2+1)=u):=(by show _=_;rw[c0.out];omega);go_wp2_with fail;go_round<;>first|exact⟨0+1,_,rfl,rfl,by omega,by rw[←kC.out],by rw[←kh.out],rfl,by go_num⟩|(simp[intOf]<;>omega)
   ·have kC:af (lQ n (2+1)=l):=(by show _=_;rw[fb.out];omega);have kh:af (lR n (2+1)=m):=(by show _=_;rw[c0.out];omega);go_wp2_with fail;go_round<;>first|exact⟨0+1,_,rfl,rfl,by omega,by rw[←kC.out],by rw[←kh.out],rfl,by go_num⟩|(simp[intOf]<;>omega)
  ·
   obtain rfl:yO=1:=(by omega);have r4:∀w,(Instr.index 172 (.agg #[I cy,I cE]) (I 1)).run Tryz.prog w=.ok (I cE) w:=fun w=>QS cy cE 1 (by decide) w;obtain⟨f1,f2,f3,f4,f5⟩:=aP.out cE bE (by have:=ij.out;omega) (by have:=ij.out;omega);have z6:cE *(255 *cells-al *bE)+65536 *c *(al *bE)=n 3:=(by rw[←bf.out];rfl);rw[z6] at f5;obtain⟨l,aA⟩:=ar (lQ n 3);obtain⟨m,hm⟩:=ar (lR n 3);have fb:af (lQ n (3+1)=min l (n 3)):=(by show _=_;rw[←aA];rfl);have c0:af (lR n (3+1)=max m (n 3)):=(by show _=_;rw[←hm];rfl);obtain⟨u,hu⟩:=ar (n 3);rw[hu] at f5 z6 fb c0;have a1:lQ n (2 *1+1)=l:=aA;have a6:lR n (2 *1+1)=m:=hm;rw[a1,a6];clear aA hm hu a1 a6;by_cases aL:u<l<;>by_cases aI:u > m
   ·have kC:af (lQ n (3+1)=u):=(by show _=_;rw[fb.out];omega);have kh:af (lR n (3+1)=u):=(by show _=_;rw[c0.out];omega);go_wp2_with fail;go_round<;>first|exact⟨1+1,_,rfl,rfl,by omega,by rw[←kC.out],by rw[←kh.out],rfl,by go_num⟩|(simp[intOf]<;>omega)
   ·have kC:af (lQ n (3+1)=u):=(by show _=_;rw[fb.out];omega);have kh:af (lR n (3+1)=m):=(by show _=_;rw[c0.out];omega);go_wp2_with fail;go_round<;>first|exact⟨1+1,_,rfl,rfl,by omega,by rw[←kC.out],by rw[←kh.out],rfl,by go_num⟩|(simp[intOf]<;>omega)
   ·have kC:af (lQ n (3+1)=l):=(by show _=_;rw[fb.out];omega);have kh:af (lR n (3+1)=u):=(by show _=_;rw[c0.out];omega);go_wp2_with fail;go_round<;>first|exact⟨1+1,_,rfl,rfl,by omega,by rw[←kC.out],by rw[←kh.out],rfl,by go_num⟩|(simp[intOf]<;>omega)
   ·have kC:af (lQ n (3+1)=l):=(by show _=_;rw[fb.out];omega);have kh:af (lR n (3+1)=m):=(by show _=_;rw[c0.out];omega);go_wp2_with fail;go_round<;>first|exact⟨1+1,_,rfl,rfl,by omega,by rw[←kC.out],by rw[←kh.out],rfl,by go_num⟩|(simp[intOf]<;>omega)
  ·
   obtain rfl:yO=2:=(by omega);go_wp2_with fail;go_round<;>first|exact⟨1+1,_,rfl,rfl,by omega,rfl,rfl,rfl,by go_num⟩|(simp[intOf]<;>omega)
 ·
  obtain rfl:uK=2:=(by omega);obtain⟨L,lu⟩:=ar (lQ n (2 *2));obtain⟨M,nd⟩:=ar (lR n (2 *2));obtain⟨D,cb⟩:=ar (255 *cells);have agA:B5 (cy,cE) c al (a0,bE) cells=L:=(by rw[←lu,←bf.out];rfl);have agB:B6 (cy,cE) c al (a0,bE) cells=M:=(by rw[←nd,←bf.out];rfl);have auJ:0≤L∧L≤34910031052800:=(by have aT:=fQ.out 0;have av:=fQ.out 1;have az:=fQ.out 2;have aF:=fQ.out 3;rw[←lu];show 0≤min (min (min (n 0) (n 1)) (n 2)) (n 3)∧min (min (min (n 0) (n 1)) (n 2)) (n 3)≤_;omega);have agC:0≤M∧M≤34910031052800:=(by have aT:=fQ.out 0;have av:=fQ.out 1;have az:=fQ.out 2;have aF:=fQ.out 3;rw[←nd];show 0≤max (max (max (n 0) (n 1)) (n 2)) (n 3)∧max (max (max (n 0) (n 1)) (n 2)) (n 3)≤_;omega);have auK:255≤D∧D≤1044480:=(by omega);have bV:ae (M+D)=M+D:=cX _ (by omega);have bY:ae (M+D-1)=M+D-1:=cX _ (by omega);have t1:L.tdiv D=L/D:=Aq (by omega);have t2:(M+D-1).tdiv D=(M+D-1)/ D:=Aq (by omega);have aG:0≤L/D∧L/D≤L:=⟨RE (by omega) (by omega),Int.ediv_le_self _ (by omega)⟩;have jL:0≤(M+D-1)/ D∧(M+D-1)/ D≤M+D-1:=⟨RE (by omega) (by omega),Int.ediv_le_self _ (by omega)⟩;have dp:ae (L/D)=L/D:=cX _ (by omega);have cA:ae ((M+D-1)/ D)=(M+D-1)/ D:=cX _ (by omega);have ayU:¬D=0:=(by omega);have auL:=aq agA;have auM:=aq agB;have AY:=aq cb;rw[lu,nd,cb];clear cb lu nd agA agB auJ agC auK aG jL auE auD;obtain⟨u0,u1⟩:=pg WC.out;have fu:=cR WC.out;go_upto_region 21 with fail;go_region
  all_goals
   go_wp2_with fail;have jV:=oU [I (L/D),I ((M+D-1)/ D)] WC.out rfl;have s7:=tf (m:=0) (b:=w.heap.size+1+1) (show w.heap.size≤w.heap.size+1+1 by omega) [I (L/D),I ((M+D-1)/ D)] auH.out;exact dC (l6 rfl _ _ (w.heap.size+1+1) _ _ _ _ rfl jV Tryz.underlying107 rfl (by kernel_rfl)) rfl ⟨by rw[auL.out,auM.out,AY.out];rfl,s7.drew⟩
abbrev j5:TypeId:=107
abbrev Gh:TypeId:=54
abbrev WE:Value:=.agg #[I 0,I 0]
theorem auN:(Tryz.prog.info? j5).map (fun i=>(i.zero,i.size,i.bytes))=some (some WE,2,16):=by kernel_rfl
theorem O':(Tryz.prog.info? 5).map (fun i=>(i.zero,i.size,i.bytes))=some (some (.int .u8 0),1,1):=by kernel_rfl
theorem QT{l:List jB}{i:Nat}(hi:i<l.length):(iM l)[i *2]?=some (I l[i].1)∧(iM l)[i *2+1]?=some (I l[i].2):=Ol hi
theorem agD:∀(l:List jB) (j:Nat) (t:jB),iM (l.set j t)=((iM l).set (j *2) (I t.1)).set (j *2+1) (I t.2)
 |[],_,_=>rfl
 |a::l,0,t=>rfl
 |a::l,j+1,t=>by have e:iM (a::l)=I a.1::I a.2::iM l:=rfl;have a6:iM ((a::l).set (j+1) t)=I a.1::I a.2::iM (l.set j t):=rfl;rw[a6,e,agD l j t,show (j+1) *2=j *2+1+1 by omega];rfl
variable{w x y:aeo}{B D:Nat}
theorem agE{K n c i bG:Nat}{e:aai}{xs:aev}{u:ada}(h:w.ownsRow B e bG (ag K 0 n c) n xs)(hi:i<n *bG):(w.setCell (aj K i) u).ownsRow B e bG (ag K 0 n c) n (xs.set i u):=by
 refine⟨by rw[NF];exact h.1,?_⟩;rcases h.2 with ⟨aS,_⟩|⟨k,cap,cur,ax,bL,aJ,av,az,aF,bk⟩
 ·cases aS
 ·injection ax with eI _ fT;injection eI with eI;injection eI with eI;subst eI fT;refine .inr ⟨K,c,cur.setIfInBounds i u,rfl,bL,dL u aJ,av,az,by rw[Ci];exact aF,?_⟩;rw[RZ,R0,bk]
theorem auO{g n c:Nat}{ts:List jB}(h:w.ownsRow B j5 2 (ag g 0 n c) n (iM ts)){j:Nat}(cr:j<n)(t:jB):((w.setCell (aj g (j *2)) (I t.1)).setCell (aj g (j *2+1)) (I t.2)).ownsRow B j5 2 (ag g 0 n c) n (iM (ts.set j t)):=by rw[agD];exact agE (agE h (by omega)) (by omega)
structure oG(w:aeo)(D:Nat)(pS:ajv)(x:aeo):Prop where
 aZ:ao w w x
 j:an x D pS kX
 jF:an x (D+1) (#[I 0,I 0,U false,J 0]) Gh
 fs:an x (D+1+1) (#[I 0,I 0,I 0,I 0]) gl
theorem oG.below{pS:ajv}(h:oG w D pS x)(ay:ao x x y):oG w D pS y:=⟨h.aZ.trans (ay.mono h.aZ.size),aU h.j ay,aU h.jF ay,aU h.fs ay⟩
theorem oG.keep{pS:ajv}(h:oG w D pS x)(cb:w.heap.size≤D)(bL:D+1+1<B)(ax:aQ (fun k=>k<B) x y):oG w D pS y:=⟨h.aZ.trans (ax.below _ h.aZ.size fun k ax=>by omega),ax.get (show D<B by omega) h.j,ax.get (show D+1<B by omega) h.jF,ax.get (show D+1+1<B by omega) h.fs⟩
theorem oG.WG{G:Nat}{pS:ajv}(h:oG w D pS x)(cb:w.heap.size≤D)(Dw:D+1+1<G)(ax:aQ (fun k=>k≠G) x y):oG w D pS y:=⟨h.aZ.trans (ax.below _ h.aZ.size fun k ax=>by omega),ax.get (show D≠G by omega) h.j,ax.get (show D+1≠G by omega) h.jF,ax.get (show D+1+1≠G by omega) h.fs⟩
theorem agF{W:aeo}{pS:ajv}(h:oG w D pS W)(cb:w.heap.size≤D)(a0 bE a2 a3 cy cE bo fk:ada):
  ((((((((W.setCell (aj (D+1) 0) a0).setCell (aj (D+1) 1) bE).setCell (aj (D+1) 2) a2).setCell (aj (D+1) 3) a3).setCell (aj (D+1+1) 0) cy).setCell (aj (D+1+1) 1) cE).setCell (aj (D+1+1) 2) bo).setCell (aj (D+1+1) 3) fk).heap[D+1]?=some (.cells #[a0,bE,a2,a3] Gh)∧((((((((W.setCell (aj (D+1) 0) a0).setCell (aj (D+1) 1) bE).setCell (aj (D+1) 2) a2).setCell (aj (D+1) 3) a3).setCell (aj (D+1+1) 0) cy).setCell (aj (D+1+1) 1) cE).setCell (aj (D+1+1) 2) bo).setCell (aj (D+1+1) 3) fk).heap[D+1+1]?=some (.cells #[cy,cE,bo,fk] gl)∧ao w w ((((((((W.setCell (aj (D+1) 0) a0).setCell (aj (D+1) 1) bE).setCell (aj (D+1) 2) a2).setCell (aj (D+1) 3) a3).setCell (aj (D+1+1) 0) cy).setCell (aj (D+1+1) 1) cE).setCell (aj (D+1+1) 2) bo).setCell (aj (D+1+1) 3) fk)∧aQ (fun k=>k≠D+1∧k≠D+1+1) W ((((((((W.setCell (aj (D+1) 0) a0).setCell (aj (D+1) 1) bE).setCell (aj (D+1) 2) a2).setCell (aj (D+1) 3) a3).setCell (aj (D+1+1) 0) cy).setCell (aj (D+1+1) 1) cE).setCell (aj (D+1+1) 2) bo).setCell (aj (D+1+1) 3) fk):=by
 have av:=BF h.jF a0 bE a2 a3;have bU:aQ (fun k=>k≠D+1∧k≠D+1+1) W ((((W.setCell (aj (D+1) 0) a0).setCell (aj (D+1) 1) bE).setCell (aj (D+1) 2) a2).setCell (aj (D+1) 3) a3):=zW (fun ax=>ax.1 rfl) a0 bE a2 a3;have auP:aQ (fun k=>k≠D+1) W ((((W.setCell (aj (D+1) 0) a0).setCell (aj (D+1) 1) bE).setCell (aj (D+1) 2) a2).setCell (aj (D+1) 3) a3):=zW (fun ax=>ax rfl) a0 bE a2 a3;have az:=auP.get (show D+1+1≠D+1 by omega) h.fs;have a7:aQ (fun k=>k≠D+1∧k≠D+1+1) ((((W.setCell (aj (D+1) 0) a0).setCell (aj (D+1) 1) bE).setCell (aj (D+1) 2) a2).setCell (aj (D+1) 3) a3) ((((((((W.setCell (aj (D+1) 0) a0).setCell (aj (D+1) 1) bE).setCell (aj (D+1) 2) a2).setCell (aj (D+1) 3) a3).setCell (aj (D+1+1) 0) cy).setCell (aj (D+1+1) 1) cE).setCell (aj (D+1+1) 2) bo).setCell (aj (D+1+1) 3) fk):=zW (fun ax=>ax.2 rfl) cy cE bo fk;have auQ:aQ (fun k=>k≠D+1+1) ((((W.setCell (aj (D+1) 0) a0).setCell (aj (D+1) 1) bE).setCell (aj (D+1) 2) a2).setCell (aj (D+1) 3) a3) ((((((((W.setCell (aj (D+1) 0) a0).setCell (aj (D+1) 1) bE).setCell (aj (D+1) 2) a2).setCell (aj (D+1) 3) a3).setCell (aj (D+1+1) 0) cy).setCell (aj (D+1+1) 1) cE).setCell (aj (D+1+1) 2) bo).setCell (aj (D+1+1) 3) fk):=zW (fun ax=>ax rfl) cy cE bo fk;exact⟨auQ.get (show D+1≠D+1+1 by omega) av,BF az cy cE bo fk,h.aZ.trans ((bU.trans a7).below _ h.aZ.size fun k ax=>by omega),bU.trans a7⟩
variable{v:iA}
theorem auR(h:pZ v=true):Aj v≤4096:=by
 obtain⟨⟨aT,cW⟩,_⟩:=F7 h;unfold Aj;have eN:v.depth.toNat≤6:=by omega
 have ff:(4:Nat)^ v.depth.toNat≤4^6:=vE (by decide) eN;have e:((4^v.depth.toNat:Nat):Int)=4^v.depth.toNat:=by push_cast;rfl
 rw[←e];have hJ:(4:Nat)^ 6=4096:=by decide
 rw[hJ] at ff;omega
theorem auS{D5 bG n:Nat}{e:aai}{v:ada}{xs:aev}(h:w.ownsRow B e bG v n xs)(bL:D5≤B):w.ownsRow D5 e bG v n xs:=by
 refine⟨h.1,?_⟩;rcases h.2 with av|⟨g,cap,cur,a1,az,aF⟩
 ·exact .inl av
 ·exact .inr ⟨g,cap,cur,a1,dB bL az,aF⟩
theorem agG(a b c:Int)(j:Nat)(cr:j<3)(w:aeo):(Instr.index 30 (.agg #[I a,I b,I c]) (I j)).run Tryz.prog w=.ok (I (if j=0 then a else if j=1 then b else c)) w:=by rcases (show j=0∨j=1∨j=2 by omega) with rfl|rfl|rfl<;>simp[Instr.index,jq Tryz.underlying30,asIntOf,go_sem,part]
def xa(v:iA)(aB:Int):List pQ→Nat→List jB→Int→Except (Int×Int×Int×Int) (List jB)
 |[],_,ts,_=>.ok ts
 |y::l,k,ts,m=>match pR k v m (mQ y.t.data.toList aB) with
  |⟨none,a,b,c,d,_⟩=>.error (a,b,c,d)
  |⟨some cv,_,_,_,_,cS⟩=>xa v aB l (k+1) (layAll y.r y.g y.b y.al (Aj v) cv 0 ts) cS
def MW(v:iA)(aB:Int)(y:pQ)(l:List pQ)(k:Nat)(ts:List jB):yM→Except (Int×Int×Int×Int) (List jB)
 |⟨none,a,b,c,d,_⟩=>.error (a,b,c,d)
 |⟨some cv,_,_,_,_,cS⟩=>xa v aB l (k+1) (layAll y.r y.g y.b y.al (Aj v) cv 0 ts) cS
theorem agH(v:iA)(aB:Int)(y:pQ)(l:List pQ)(k:Nat)(ts:List jB)(m:Int):xa v aB (y::l) k ts m=MW v aB y l k ts (pR k v m (mQ y.t.data.toList aB)):=by unfold xa MW;split<;>rfl
def ub(aC aE fJ al:Int)(cells:Int)(v:eM)(i:Nat):Nat→List jB→List jB
 |0,ts=>ts
 |n+1,ts=>(ub aC aE fJ al cells v i n ts).set (3 *i+n) (DY ((ub aC aE fJ al cells v i n ts).getD (3 *i+n) (0,0)) (if n=0 then aC else if n=1 then aE else fJ) al v cells)
theorem WH(aC aE fJ al:Int)(cells:Int)(v:eM)(i:Nat)(ts:List jB):∀n,(ub aC aE fJ al cells v i n ts).length=ts.length
 |0=>rfl
 |n+1=>by unfold ub;rw[NF,WH]
theorem WI{aC aE fJ al cells:Int}{v:eM}{i:Nat}{ts:List jB}(h:xo ts)(aT:0≤aC∧aC≤255)(av:0≤aE∧aE≤255)(az:0≤fJ∧fJ≤255)(ha:0≤al∧al≤255)(aS:pr cells v)(hc:1≤cells):∀n,xo (ub aC aE fJ al cells v i n ts)
 |0=>h
 |n+1=>by
  unfold ub;have k:=WI (i:=i) h aT av az ha aS hc n;refine ai6 k _ (ai5 (XW k _) ?_ ha aS hc);split
  ·exact aT
  ·split
   ·exact av
   ·exact az
theorem auU{m:Int}{f:List dx×Nat×Nat}{cv:List eM}{a b c d cS:Int}(hm:0≤m)(h:pR k v m f=⟨some cv,a,b,c,d,cS⟩):(∀c∈cv,pr (4^v.depth.toNat) c)∧cv.length=v.h.toNat *v.w.toNat∧0≤cS∧cS≤m:=by
 obtain⟨o,i,e⟩:=f;unfold pR at h;simp only at h;split at h
 ·simp at h
 ·split at h
  ·simp at h
  ·rename_i l m1 hr;simp only[yM.mk.injEq,mi] at h;obtain⟨rfl,_,_,_,_,rfl⟩:=h;exact XU hm hr
theorem auV{m:Int}{f:List dx×Nat×Nat}{a b c d cS:Int}(h:pR k v m f=⟨none,a,b,c,d,cS⟩):d≠0:=by
 obtain⟨o,i,e⟩:=f;unfold pR at h;simp only at h;split at h
 ·rename_i he;simp only[yM.mk.injEq] at h;obtain⟨_,_,_,_,rfl,_⟩:=h;omega
 ·split at h
  ·simp only[yM.mk.injEq] at h;obtain⟨_,_,_,_,rfl,_⟩:=h;decide
  ·simp at h
def Gi(w:aeo)(fi fp:Int)(T:Except (Int×Int×Int×Int) (List jB))(e:Ending)(w':aeo):Prop:=Below w.heap.size w w'∧match T with
 |.error (a,b,c,d)=>e=ab (.tuple #[.agg #[I 0,I 0,U false,J 0],oF a b c d])
 |.ok ts=>∃q cp,e=ab (.tuple #[.agg #[I fi,I fp,U true,ad q ts.length cp],oF 0 0 0 0])∧w'.ownsRow w.heap.size 5 1 (ad q ts.length cp) ts.length (ts.map fun t=>.int .u8 (rN t))
def agI(aB:Int)(ls:List pQ):Prop:=∀y∈ls,y.yL=false∧w5 y.t aB∧∀x∈(mQ y.t.data.toList aB).1,Plain x.2∧qE x.2
end c4
