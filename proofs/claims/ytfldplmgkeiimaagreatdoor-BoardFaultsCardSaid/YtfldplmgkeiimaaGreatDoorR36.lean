/- Lemmas. -/
import Derived.Test.YtfldplmgkeiimaaGreatDoorR35
set_option linter.all false
set_option maxRecDepth 100000
set_option maxHeartbeats 25600000
namespace Go.Proofs.YtfldplmgkeiimaaGreatDoor
abbrev PR:=@Proofs.Tryz.results20
namespace dd
open Go.RowKit ef
def lz(n:Nat→Int):Nat→Int
 |0=>0
 |1=>n 0
 |k+2=>min (lz n (k+1)) (n (k+1))
def lA(n:Nat→Int):Nat→Int
 |0=>0
 |1=>n 0
 |k+2=>max (lA n (k+1)) (n (k+1))
theorem adQ(a b:Int)(j:Nat)(cd:j<2)(w:aeo):(Instr.index 171 (.agg #[I a,I b]) (I j)).run Tryz.prog w=.ok (I (if j=0 then a else b)) w:=by rcases (show j=0∨j=1 by omega) with rfl|rfl<;>simp[Instr.index,jC Tryz.underlying171,asIntOf,go_sem,part]
theorem PS(a b:Int)(j:Nat)(cd:j<2)(w:aeo):(Instr.index 172 (.agg #[I a,I b]) (I j)).run Tryz.prog w=.ok (I (if j=0 then a else b)) w:=by rcases (show j=0∨j=1 by omega) with rfl|rfl<;>simp[Instr.index,jC Tryz.underlying172,asIntOf,go_sem,part]
variable{k:Int}
theorem adR{t c al cells:Int}(bE:0≤t∧t≤16711680)(hc:0≤c∧c≤255)(ha:0≤al∧al≤255)(ay:0≤k∧k≤cells)(hn:1≤cells∧cells≤4096):
  (0≤al *k∧al *k≤255 *cells)∧(0≤t *(255 *cells-al *k)∧t *(255 *cells-al *k)≤17455015526400)∧(0≤65536 *c *(al *k)∧65536 *c *(al *k)≤17455015526400):=by
 have av:0≤al *k:=jV ha.1 ay.1;have az:0≤(255-al) *k:=jV (by omega) ay.1;have aC:(255-al) *k=255 *k-al *k:=by grind
 have bt:al *k≤255 *cells:=by omega
 have cr:0≤t *(255 *cells-al *k):=jV bE.1 (by omega);have c4:0≤(16711680-t) *(255 *cells-al *k):=jV (by omega) (by omega);have ez:(16711680-t) *(255 *cells-al *k)=16711680 *(255 *cells-al *k)-t *(255 *cells-al *k):=by grind
 have eS:0≤c *(al *k):=jV hc.1 av;have fM:0≤(255-c) *(al *k):=jV (by omega) av;have mw:(255-c) *(al *k)=255 *(al *k)-c *(al *k):=by grind
 have FA:65536 *c *(al *k)=65536 *(c *(al *k)):=by grind
 refine⟨⟨av,bt⟩,⟨cr,by omega⟩,⟨by omega,by omega⟩⟩
theorem aqH(t:Int×Int)(c al:Int)(v:e3)(cells:Int)(hc:0≤c∧c≤255)(ha:0≤al∧al≤255)(aY:FR v cells=true)(bE:qv t=true)(w:aeo):
  Calls Tryz.prog 43 #[Cs t,I c,I al,Cs v,I cells] w fun e w'=>e=ab (.tuple #[Cs (Bn t c al v cells /(255 *cells),(Bo t c al v cells+255 *cells-1)/(255 *cells)),U true])∧ao w w w':=by
 have b0:=aq aY;have dr:=aq bE;obtain⟨cu,cS⟩:=t;obtain⟨a0,bA⟩:=v;have rf:=aY;have GH:=bE;simp only[FR,jh,jR] at rf;simp only[qv,jh,jR] at GH;obtain⟨k0,h1,zk,sN,Cb⟩:=rf;obtain⟨v7,adS,adU⟩:=GH;obtain⟨n,hn⟩:∃n:Nat→Int,(fun q=>tP (if q%2=0 then cu else cS) c al (if q/2=0 then a0 else bA) cells)=n:=⟨_,rfl⟩;have bd:=aq hn;have hF:∀(b a:Int),0≤b∧b≤16711680→0≤a∧a≤cells→(ae (al *a)=al *a∧ae (255 *cells-al *a)=255 *cells-al *a∧ae (b *(255 *cells-al *a))=b *(255 *cells-al *a)∧ae (65536 *c *(al *a))=65536 *c *(al *a)∧ae (b *(255 *cells-al *a)+65536 *c *(al *a))=b *(255 *cells-al *a)+65536 *c *(al *a)):=by intro b a ax h;obtain⟨⟨f1,f2⟩,⟨f3,f4⟩,⟨f5,f6⟩⟩:=adR ax hc ha h ⟨k0,h1⟩;exact⟨cY _ (by omega),cY _ (by omega),cY _ (by omega),cY _ (by omega),cY _ (by omega)⟩
 have adV:∀q,0≤n q∧n q≤34910031052800:=by intro q;rw[←hn];simp only[tP];obtain⟨⟨f1,f2⟩,⟨f3,f4⟩,⟨f5,f6⟩⟩:=adR (t:=if q%2=0 then cu else cS) (k:=if q/2=0 then a0 else bA) (by split<;>omega) hc ha (by split<;>omega) ⟨k0,h1⟩;omega
 have aO:=aq hF;have gP:=aq adV;have aqI:ae (65536 *c)=65536 *c:=cY _ (by omega);have aqJ:ae (255 *cells)=255 *cells:=cY _ (by omega);have axB:¬c<0:=by omega
 have axC:¬c > 255:=by omega
 have axD:¬al<0:=by omega
 have axE:¬al > 255:=by omega
 have il:af (0≤cu∧cu≤cS∧cS≤16711680∧0≤a0∧a0≤bA∧bA≤cells∧1≤cells∧cells≤4096):=aq (And.intro v7 (And.intro adS (And.intro adU (And.intro zk (And.intro sN (And.intro Cb (And.intro k0 h1)))))));clear aY bE hn hF adV v7 adS adU zk sN Cb;go_enter Tryz.func43,Tryz.ntmps43;go_upto_region 1 with fail;obtain⟨W,bo⟩:=ar (((w.alloc (Cr (cu,cS))).alloc (ai (#[I a0,I bA]) 43)).alloc (Cr (0,0)));obtain⟨av,az,aC,bt,_⟩:=zv bo;have H1:=aq av;have dp:=aq az;have eo:=aq aC;have j0:=aq bt;change Code.wp _ _ _ _ (((w.alloc (Cr (cu,cS))).alloc (ai (#[I a0,I bA]) 43)).alloc (Cr (0,0)));rw[bo];clear bo av az aC bt;obtain⟨fO,fh⟩:=oN H1.out;obtain⟨fS,b1⟩:=oN dp.out;go_wp2_with fail;with_reducible refine (apy (a0,bA) cells true b0 _).mono ?_
 rintro e b7 ⟨rfl,ax⟩;have Vr:=aq (aU H1.out ax);have Vs:=aq (aU dp.out ax);have adW:=aq (aU eo.out ax);have Vt:af (ao w w b7):=j0.out.trans (ax.mono j0.out.size);clear fO fh fS b1 ax H1 dp eo j0;obtain⟨fO,fh⟩:=oN Vr.out;obtain⟨fS,b1⟩:=oN Vs.out;go_wp2_with fail;with_reducible refine (acN (cu,cS) true dr _).mono ?_
 rintro e b4 ⟨rfl,ax⟩;have aqK:=aq (aU Vr.out ax);have aqL:=aq (aU Vs.out ax);have gq:=aq (aU adW.out ax);have gM:af (ao w w b4):=Vt.out.trans (ax.mono Vt.out.size);clear fO fh fS b1 ax Vr Vs adW Vt;obtain⟨fO,fh⟩:=oN aqK.out;obtain⟨fS,b1⟩:=oN aqL.out;go_wp2_with fail
 go_loopw [13,14,15,55] (fun l m f i wr=>∃(j:Nat) (aM:aeo),aM=wr∧af (aM=b4)∧j≤2∧l=I (lz n (2 *j))∧m=I (lA n (2 *j))∧f=U (decide (j=0))∧i=I j) (fun _ _ _ i _=>2 -(intOf i).toNat)
 case atStart=>exact⟨0,_,rfl,rfl,by decide,rfl,rfl,rfl,rfl⟩
 case round=>
 obtain⟨j,aM,rfl,bo,cd,rfl,rfl,rfl,rfl⟩:=hrel;have gy:=bo.out;subst gy;obtain⟨tR,Bx⟩:∃tR:Int,(j:Int)=tR:=⟨_,rfl⟩;rw[Bx];rcases (show j=0∨j=1∨j=2 by omega) with rfl|rfl|rfl
 ·
  obtain rfl:tR=0:=(by omega);have kB:∀w,(Instr.index 171 (.agg #[I a0,I bA]) (I 0)).run Tryz.prog w=.ok (I a0) w:=fun w=>adQ a0 bA 0 (by decide) w;have aqM:ae (al *a0)=al *a0:=(aO.out cu a0 (by have:=il.out;omega) (by have:=il.out;omega)).1;go_wp2_with fail
  go_loopw [13,14,15,66] (fun l m f i wr=>∃(k:Nat) (cE:aeo),cE=wr∧af (cE=aM)∧k≤2∧l=I (lz n (2 *0+k))∧m=I (lA n (2 *0+k))∧f=U (decide (2 *0+k=0))∧i=I k) (fun _ _ _ i _=>2 -(intOf i).toNat)
  case atStart=>exact⟨0,_,rfl,rfl,by decide,rfl,rfl,rfl,rfl⟩
  case round=>
  obtain⟨k,cE,rfl,Hi,ay,rfl,rfl,rfl,rfl⟩:=hrel;have Vu:=Hi.out;subst Vu;obtain⟨x0,qP⟩:∃x0:Int,(k:Int)=x0:=⟨_,rfl⟩;rw[qP];rcases (show k=0∨k=1∨k=2 by omega) with rfl|rfl|rfl
  ·
   obtain rfl:x0=0:=(by omega);have kB:∀w,(Instr.index 172 (.agg #[I cu,I cS]) (I 0)).run Tryz.prog w=.ok (I cu) w:=fun w=>PS cu cS 0 (by decide) w;obtain⟨f1,f2,f3,f4,f5⟩:=aO.out cu a0 (by have:=il.out;omega) (by have:=il.out;omega);have zd:cu *(255 *cells-al *a0)+65536 *c *(al *a0)=n 0:=(by rw[←bd.out];rfl);rw[zd] at f5;go_wp2_with fail;go_round<;>first|exact⟨1,_,rfl,rfl,by omega,rfl,rfl,rfl,by go_num⟩|(simp[intOf]<;>omega)
  ·
   obtain rfl:x0=1:=(by omega);have kB:∀w,(Instr.index 172 (.agg #[I cu,I cS]) (I 1)).run Tryz.prog w=.ok (I cS) w:=fun w=>PS cu cS 1 (by decide) w;obtain⟨f1,f2,f3,f4,f5⟩:=aO.out cS a0 (by have:=il.out;omega) (by have:=il.out;omega);have zd:cS *(255 *cells-al *a0)+65536 *c *(al *a0)=n 1:=(by rw[←bd.out];rfl);rw[zd] at f5;obtain⟨l,aA⟩:=ar (lz n 1);obtain⟨m,hm⟩:=ar (lA n 1);have e9:af (lz n (1+1)=min l (n 1)):=(by show _=_;rw[←aA];rfl);have cA:af (lA n (1+1)=max m (n 1)):=(by show _=_;rw[←hm];rfl);obtain⟨u,hu⟩:=ar (n 1);rw[hu] at f5 zd e9 cA;have a7:lz n (2 *0+1)=l:=aA;have bf:lA n (2 *0+1)=m:=hm;rw[a7,bf];clear aA hm hu a7 bf;by_cases aN:u<l<;>by_cases aJ:u > m
   ·have kN:af (lz n (1+1)=u):=(by show _=_;rw[e9.out];omega);have jA:af (lA n (1+1)=u):=(by show _=_;rw[cA.out];omega);go_wp2_with fail;go_round<;>first|exact⟨1+1,_,rfl,rfl,by omega,by rw[←kN.out],by rw[←jA.out],rfl,by go_num⟩|(simp[intOf]<;>omega)
   ·have kN:af (lz n (1+1)=u):=(by show _=_;rw[e9.out];omega);have jA:af (lA n (1+1)=m):=(by show _=_;rw[cA.out];omega);go_wp2_with fail;go_round<;>first|exact⟨1+1,_,rfl,rfl,by omega,by rw[←kN.out],by rw[←jA.out],rfl,by go_num⟩|(simp[intOf]<;>omega)
   ·have kN:af (lz n (1+1)=l):=(by show _=_;rw[e9.out];omega);have jA:af (lA n (1+1)=u):=(by show _=_;rw[cA.out];omega);go_wp2_with fail;go_round<;>first|exact⟨1+1,_,rfl,rfl,by omega,by rw[←kN.out],by rw[←jA.out],rfl,by go_num⟩|(simp[intOf]<;>omega)
   ·have kN:af (lz n (1+1)=l):=(by show _=_;rw[e9.out];omega);have jA:af (lA n (1+1)=m):=(by show _=_;rw[cA.out];omega);go_wp2_with fail;go_round<;>first|exact⟨1+1,_,rfl,rfl,by omega,by rw[←kN.out],by rw[←jA.out],rfl,by go_num⟩|(simp[intOf]<;>omega)
  ·
   obtain rfl:x0=2:=(by omega);go_wp2_with fail;go_round<;>first|exact⟨0+1,_,rfl,rfl,by omega,rfl,rfl,rfl,by go_num⟩|(simp[intOf]<;>omega)
 ·
  obtain rfl:tR=1:=(by omega);have kB:∀w,(Instr.index 171 (.agg #[I a0,I bA]) (I 1)).run Tryz.prog w=.ok (I bA) w:=fun w=>adQ a0 bA 1 (by decide) w;have aqM:ae (al *bA)=al *bA:=(aO.out cu bA (by have:=il.out;omega) (by have:=il.out;omega)).1;go_wp2_with fail
  go_loopw [13,14,15,66] (fun l m f i wr=>∃(k:Nat) (cE:aeo),cE=wr∧af (cE=aM)∧k≤2∧l=I (lz n (2 *1+k))∧m=I (lA n (2 *1+k))∧f=U (decide (2 *1+k=0))∧i=I k) (fun _ _ _ i _=>2 -(intOf i).toNat)
  case atStart=>exact⟨0,_,rfl,rfl,by decide,rfl,rfl,rfl,rfl⟩
  case round=>
  obtain⟨k,cE,rfl,Hi,ay,rfl,rfl,rfl,rfl⟩:=hrel;have Vu:=Hi.out;subst Vu;obtain⟨x0,qP⟩:∃x0:Int,(k:Int)=x0:=⟨_,rfl⟩;rw[qP];rcases (show k=0∨k=1∨k=2 by omega) with rfl|rfl|rfl
  ·
   obtain rfl:x0=0:=(by omega);have kB:∀w,(Instr.index 172 (.agg #[I cu,I cS]) (I 0)).run Tryz.prog w=.ok (I cu) w:=fun w=>PS cu cS 0 (by decide) w;obtain⟨f1,f2,f3,f4,f5⟩:=aO.out cu bA (by have:=il.out;omega) (by have:=il.out;omega);have zd:cu *(255 *cells-al *bA)+65536 *c *(al *bA)=n 2:=(by rw[←bd.out];rfl);rw[zd] at f5;obtain⟨l,aA⟩:=ar (lz n 2);obtain⟨m,hm⟩:=ar (lA n 2);have e9:af (lz n (2+1)=min l (n 2)):=(by show _=_;rw[←aA];rfl);have cA:af (lA n (2+1)=max m (n 2)):=(by show _=_;rw[←hm];rfl);obtain⟨u,hu⟩:=ar (n 2);rw[hu] at f5 zd e9 cA;have a7:lz n (2 *1+0)=l:=aA;have bf:lA n (2 *1+0)=m:=hm;rw[a7,bf];clear aA hm hu a7 bf;by_cases aN:u<l<;>by_cases aJ:u > m
   ·have kN:af (lz n (2+1)=u):=(by show _=_;rw[e9.out];omega);have jA:af (lA n (2+1)=u):=(by show _=_;rw[cA.out];omega);go_wp2_with fail;go_round<;>first|exact⟨0+1,_,rfl,rfl,by omega,by rw[←kN.out],by rw[←jA.out],rfl,by go_num⟩|(simp[intOf]<;>omega)
   ·have kN:af (lz n (2+1)=u):=(by show _=_;rw[e9.out];omega);have jA:af (lA n (2+1)=m):=(by show _=_;rw[cA.out];omega);go_wp2_with fail;go_round<;>first|exact⟨0+1,_,rfl,rfl,by omega,by rw[←kN.out],by rw[←jA.out],rfl,by go_num⟩|(simp[intOf]<;>omega)
   ·have kN:af (lz n (2+1)=l):=(by show _=_;rw[e9.out];omega);have jA:af (lA n (2+1)=u):=(by show _=_;rw[cA.out];omega);go_wp2_with fail;go_round<;>first|exact⟨0+1,_,rfl,rfl,by omega,by rw[←kN.out],by rw[←jA.out],rfl,by go_num⟩|(simp[intOf]<;>omega)
   ·have kN:af (lz n (2+1)=l):=(by show _=_;rw[e9.out];omega);have jA:af (lA n (2+1)=m):=(by show _=_;rw[cA.out];omega);go_wp2_with fail;go_round<;>first|exact⟨0+1,_,rfl,rfl,by omega,by rw[←kN.out],by rw[←jA.out],rfl,by go_num⟩|(simp[intOf]<;>omega)
  ·
   obtain rfl:x0=1:=(by omega);have kB:∀w,(Instr.index 172 (.agg #[I cu,I cS]) (I 1)).run Tryz.prog w=.ok (I cS) w:=fun w=>PS cu cS 1 (by decide) w;obtain⟨f1,f2,f3,f4,f5⟩:=aO.out cS bA (by have:=il.out;omega) (by have:=il.out;omega);have zd:cS *(255 *cells-al *bA)+65536 *c *(al *bA)=n 3:=(by rw[←bd.out];rfl);rw[zd] at f5;obtain⟨l,aA⟩:=ar (lz n 3);obtain⟨m,hm⟩:=ar (lA n 3);have e9:af (lz n (3+1)=min l (n 3)):=(by show _=_;rw[←aA];rfl);have cA:af (lA n (3+1)=max m (n 3)):=(by show _=_;rw[←hm];rfl);obtain⟨u,hu⟩:=ar (n 3);rw[hu] at f5 zd e9 cA;have a7:lz n (2 *1+1)=l:=aA;have bf:lA n (2 *1+1)=m:=hm;rw[a7,bf];clear aA hm hu a7 bf;by_cases aN:u<l<;>by_cases aJ:u > m
   ·have kN:af (lz n (3+1)=u):=(by show _=_;rw[e9.out];omega);have jA:af (lA n (3+1)=u):=(by show _=_;rw[cA.out];omega);go_wp2_with fail;go_round<;>first|exact⟨1+1,_,rfl,rfl,by omega,by rw[←kN.out],by rw[←jA.out],rfl,by go_num⟩|(simp[intOf]<;>omega)
   ·have kN:af (lz n (3+1)=u):=(by show _=_;rw[e9.out];omega);have jA:af (lA n (3+1)=m):=(by show _=_;rw[cA.out];omega);go_wp2_with fail;go_round<;>first|exact⟨1+1,_,rfl,rfl,by omega,by rw[←kN.out],by rw[←jA.out],rfl,by go_num⟩|(simp[intOf]<;>omega)
   ·have kN:af (lz n (3+1)=l):=(by show _=_;rw[e9.out];omega);have jA:af (lA n (3+1)=u):=(by show _=_;rw[cA.out];omega);go_wp2_with fail;go_round<;>first|exact⟨1+1,_,rfl,rfl,by omega,by rw[←kN.out],by rw[←jA.out],rfl,by go_num⟩|(simp[intOf]<;>omega)
   ·have kN:af (lz n (3+1)=l):=(by show _=_;rw[e9.out];omega);have jA:af (lA n (3+1)=m):=(by show _=_;rw[cA.out];omega);go_wp2_with fail;go_round<;>first|exact⟨1+1,_,rfl,rfl,by omega,by rw[←kN.out],by rw[←jA.out],rfl,by go_num⟩|(simp[intOf]<;>omega)
  ·
   obtain rfl:x0=2:=(by omega);go_wp2_with fail;go_round<;>first|exact⟨1+1,_,rfl,rfl,by omega,rfl,rfl,rfl,by go_num⟩|(simp[intOf]<;>omega)
 ·
  obtain rfl:tR=2:=(by omega);obtain⟨L,jJ⟩:=ar (lz n (2 *2));obtain⟨M,ff⟩:=ar (lA n (2 *2));obtain⟨D,b2⟩:=ar (255 *cells);have adX:Bn (cu,cS) c al (a0,bA) cells=L:=(by rw[←jJ,←bd.out];rfl);have adY:Bo (cu,cS) c al (a0,bA) cells=M:=(by rw[←ff,←bd.out];rfl);have aqN:0≤L∧L≤34910031052800:=(by have aS:=gP.out 0;have av:=gP.out 1;have az:=gP.out 2;have aC:=gP.out 3;rw[←jJ];show 0≤min (min (min (n 0) (n 1)) (n 2)) (n 3)∧min (min (min (n 0) (n 1)) (n 2)) (n 3)≤_;omega);have adZ:0≤M∧M≤34910031052800:=(by have aS:=gP.out 0;have av:=gP.out 1;have az:=gP.out 2;have aC:=gP.out 3;rw[←ff];show 0≤max (max (max (n 0) (n 1)) (n 2)) (n 3)∧max (max (max (n 0) (n 1)) (n 2)) (n 3)≤_;omega);have XD:255≤D∧D≤1044480:=(by omega);have cc:ae (M+D)=M+D:=cY _ (by omega);have b9:ae (M+D-1)=M+D-1:=cY _ (by omega);have t1:L.tdiv D=L/D:=Hs (by omega);have t2:(M+D-1).tdiv D=(M+D-1)/ D:=Hs (by omega);have aL:0≤L/D∧L/D≤L:=⟨Vk (by omega) (by omega),Int.ediv_le_self _ (by omega)⟩;have mO:0≤(M+D-1)/ D∧(M+D-1)/ D≤M+D-1:=⟨Vk (by omega) (by omega),Int.ediv_le_self _ (by omega)⟩;have dP:ae (L/D)=L/D:=cY _ (by omega);have cW:ae ((M+D-1)/ D)=(M+D-1)/ D:=cY _ (by omega);have axF:¬D=0:=(by omega);have aqO:=aq adX;have aqP:=aq adY;have z6:=aq b2;rw[jJ,ff,b2];clear b2 jJ ff adX adY aqN adZ XD aL mO aqJ aqI;obtain⟨u0,u1⟩:=oN gq.out;have fu:=cJ gq.out;go_upto_region 21 with fail;go_region
  all_goals
   go_wp2_with fail;have jX:=oh [I (L/D),I ((M+D-1)/ D)] gq.out rfl;have lW:=ss (m:=0) (b:=w.heap.size+1+1) (show w.heap.size≤w.heap.size+1+1 by omega) [I (L/D),I ((M+D-1)/ D)] gM.out;exact dU (o1 rfl _ _ (w.heap.size+1+1) _ _ _ _ rfl jX Tryz.underlying107 rfl (by kernel_rfl)) rfl ⟨by rw[aqO.out,aqP.out,z6.out];rfl,lW.drew⟩
abbrev j5:TypeId:=107
abbrev jO:TypeId:=54
abbrev Vv:Value:=.agg #[I 0,I 0]
theorem aqQ:(Tryz.prog.info? j5).map (fun i=>(i.zero,i.size,i.bytes))=some (some Vv,2,16):=by kernel_rfl
theorem Oi:(Tryz.prog.info? 5).map (fun i=>(i.zero,i.size,i.bytes))=some (some (.int .u8 0),1,1):=by kernel_rfl
theorem Vw{l:List jr}{i:Nat}(hi:i<l.length):(iV l)[i *2]?=some (I l[i].1)∧(iV l)[i *2+1]?=some (I l[i].2):=Nw hi
theorem ad0:∀(l:List jr) (j:Nat) (t:jr),iV (l.set j t)=((iV l).set (j *2) (I t.1)).set (j *2+1) (I t.2)
 |[],_,_=>rfl
 |a::l,0,t=>rfl
 |a::l,j+1,t=>by have e:iV (a::l)=I a.1::I a.2::iV l:=rfl;have bf:iV ((a::l).set (j+1) t)=I a.1::I a.2::iV (l.set j t):=rfl;rw[bf,e,ad0 l j t,show (j+1) *2=j *2+1+1 by omega];rfl
variable{w x y:aeo}{B D:Nat}
theorem ad1{K n c i bD:Nat}{e:aai}{xs:aev}{u:ada}(h:w.ownsRow B e bD (ag K 0 n c) n xs)(hi:i<n *bD):(w.setCell (aj K i) u).ownsRow B e bD (ag K 0 n c) n (xs.set i u):=by
 refine⟨by rw[L8];exact h.1,?_⟩;rcases h.2 with ⟨aY,_⟩|⟨k,cap,cur,ay,bK,aK,av,az,aC,bt⟩
 ·cases aY
 ·injection ay with ej _ fs;injection ej with ej;injection ej with ej;subst ej fs;refine .inr ⟨K,c,cur.setIfInBounds i u,rfl,bK,dt u aK,av,az,by rw[yp];exact aC,?_⟩;rw[L7,Qw,bt]
theorem aqR{g n c:Nat}{ts:List jr}(h:w.ownsRow B j5 2 (ag g 0 n c) n (iV ts)){j:Nat}(cd:j<n)(t:jr):((w.setCell (aj g (j *2)) (I t.1)).setCell (aj g (j *2+1)) (I t.2)).ownsRow B j5 2 (ag g 0 n c) n (iV (ts.set j t)):=by rw[ad0];exact ad1 (ad1 h (by omega)) (by omega)
structure nz(w:aeo)(D:Nat)(mr:ajv)(x:aeo):Prop where
 aX:ao w w x
 j:an x D mr iX
 gG:an x (D+1) (#[I 0,I 0,U false,J 0]) jO
 eJ:an x (D+1+1) (#[I 0,I 0,I 0,I 0]) eN
theorem nz.below{mr:ajv}(h:nz w D mr x)(ax:ao x x y):nz w D mr y:=⟨h.aX.trans (ax.mono h.aX.size),aU h.j ax,aU h.gG ax,aU h.eJ ax⟩
theorem nz.keep{mr:ajv}(h:nz w D mr x)(b2:w.heap.size≤D)(bK:D+1+1<B)(ay:aP (fun k=>k<B) x y):nz w D mr y:=⟨h.aX.trans (ay.below _ h.aX.size fun k ay=>by omega),ay.get (show D<B by omega) h.j,ay.get (show D+1<B by omega) h.gG,ay.get (show D+1+1<B by omega) h.eJ⟩
theorem nz.Vx{G:Nat}{mr:ajv}(h:nz w D mr x)(b2:w.heap.size≤D)(zb:D+1+1<G)(ay:aP (fun k=>k≠G) x y):nz w D mr y:=⟨h.aX.trans (ay.below _ h.aX.size fun k ay=>by omega),ay.get (show D≠G by omega) h.j,ay.get (show D+1≠G by omega) h.gG,ay.get (show D+1+1≠G by omega) h.eJ⟩
theorem PT{W:aeo}{mr:ajv}(h:nz w D mr W)(b2:w.heap.size≤D)(a0 bA a2 a3 cu cS bq fA:ada):
  ((((((((W.setCell (aj (D+1) 0) a0).setCell (aj (D+1) 1) bA).setCell (aj (D+1) 2) a2).setCell (aj (D+1) 3) a3).setCell (aj (D+1+1) 0) cu).setCell (aj (D+1+1) 1) cS).setCell (aj (D+1+1) 2) bq).setCell (aj (D+1+1) 3) fA).heap[D+1]?=some (.cells #[a0,bA,a2,a3] jO)∧((((((((W.setCell (aj (D+1) 0) a0).setCell (aj (D+1) 1) bA).setCell (aj (D+1) 2) a2).setCell (aj (D+1) 3) a3).setCell (aj (D+1+1) 0) cu).setCell (aj (D+1+1) 1) cS).setCell (aj (D+1+1) 2) bq).setCell (aj (D+1+1) 3) fA).heap[D+1+1]?=some (.cells #[cu,cS,bq,fA] eN)∧ao w w ((((((((W.setCell (aj (D+1) 0) a0).setCell (aj (D+1) 1) bA).setCell (aj (D+1) 2) a2).setCell (aj (D+1) 3) a3).setCell (aj (D+1+1) 0) cu).setCell (aj (D+1+1) 1) cS).setCell (aj (D+1+1) 2) bq).setCell (aj (D+1+1) 3) fA)∧aP (fun k=>k≠D+1∧k≠D+1+1) W ((((((((W.setCell (aj (D+1) 0) a0).setCell (aj (D+1) 1) bA).setCell (aj (D+1) 2) a2).setCell (aj (D+1) 3) a3).setCell (aj (D+1+1) 0) cu).setCell (aj (D+1+1) 1) cS).setCell (aj (D+1+1) 2) bq).setCell (aj (D+1+1) 3) fA):=by
 have av:=Cw h.gG a0 bA a2 a3;have bO:aP (fun k=>k≠D+1∧k≠D+1+1) W ((((W.setCell (aj (D+1) 0) a0).setCell (aj (D+1) 1) bA).setCell (aj (D+1) 2) a2).setCell (aj (D+1) 3) a3):=AM (fun ay=>ay.1 rfl) a0 bA a2 a3;have aqS:aP (fun k=>k≠D+1) W ((((W.setCell (aj (D+1) 0) a0).setCell (aj (D+1) 1) bA).setCell (aj (D+1) 2) a2).setCell (aj (D+1) 3) a3):=AM (fun ay=>ay rfl) a0 bA a2 a3;have az:=aqS.get (show D+1+1≠D+1 by omega) h.eJ;have ba:aP (fun k=>k≠D+1∧k≠D+1+1) ((((W.setCell (aj (D+1) 0) a0).setCell (aj (D+1) 1) bA).setCell (aj (D+1) 2) a2).setCell (aj (D+1) 3) a3) ((((((((W.setCell (aj (D+1) 0) a0).setCell (aj (D+1) 1) bA).setCell (aj (D+1) 2) a2).setCell (aj (D+1) 3) a3).setCell (aj (D+1+1) 0) cu).setCell (aj (D+1+1) 1) cS).setCell (aj (D+1+1) 2) bq).setCell (aj (D+1+1) 3) fA):=AM (fun ay=>ay.2 rfl) cu cS bq fA;have aqU:aP (fun k=>k≠D+1+1) ((((W.setCell (aj (D+1) 0) a0).setCell (aj (D+1) 1) bA).setCell (aj (D+1) 2) a2).setCell (aj (D+1) 3) a3) ((((((((W.setCell (aj (D+1) 0) a0).setCell (aj (D+1) 1) bA).setCell (aj (D+1) 2) a2).setCell (aj (D+1) 3) a3).setCell (aj (D+1+1) 0) cu).setCell (aj (D+1+1) 1) cS).setCell (aj (D+1+1) 2) bq).setCell (aj (D+1+1) 3) fA):=AM (fun ay=>ay rfl) cu cS bq fA;exact⟨aqU.get (show D+1≠D+1+1 by omega) av,Cw az cu cS bq fA,h.aX.trans ((bO.trans ba).below _ h.aX.size fun k ay=>by omega),bO.trans ba⟩
variable{v:kH}
theorem aqV(h:rm v=true):zC v≤4096:=by
 obtain⟨⟨aS,c4⟩,_⟩:=EK h;unfold zC;have ez:v.depth.toNat≤6:=by omega
 have eS:(4:Nat)^ v.depth.toNat≤4^6:=wz (by decide) ez;have e:((4^v.depth.toNat:Nat):Int)=4^v.depth.toNat:=by push_cast;rfl
 rw[←e];have fM:(4:Nat)^ 6=4096:=by decide
 rw[fM] at eS;omega
theorem aqW{CO bD n:Nat}{e:aai}{v:ada}{xs:aev}(h:w.ownsRow B e bD v n xs)(bK:CO≤B):w.ownsRow CO e bD v n xs:=by
 refine⟨h.1,?_⟩;rcases h.2 with av|⟨g,cap,cur,a7,az,aC⟩
 ·exact .inl av
 ·exact .inr ⟨g,cap,cur,a7,dx bK az,aC⟩
theorem ad2(a b c:Int)(j:Nat)(cd:j<3)(w:aeo):(Instr.index 30 (.agg #[I a,I b,I c]) (I j)).run Tryz.prog w=.ok (I (if j=0 then a else if j=1 then b else c)) w:=by rcases (show j=0∨j=1∨j=2 by omega) with rfl|rfl|rfl<;>simp[Instr.index,jC Tryz.underlying30,asIntOf,go_sem,part]
def nA(v:kH)(aB:Int):List ly→Nat→List jr→Int→Except (Int×Int×Int×Int) (List jr)
 |[],_,ts,_=>.ok ts
 |y::l,k,ts,m=>match ny k v m (jx y.t.data.toList aB) with
  |⟨none,a,b,c,d,_⟩=>.error (a,b,c,d)
  |⟨some cv,_,_,_,_,dj⟩=>nA v aB l (k+1) (layAll y.r y.g y.b y.al (zC v) cv 0 ts) dj
def wj(v:kH)(aB:Int)(y:ly)(l:List ly)(k:Nat)(ts:List jr):zc→Except (Int×Int×Int×Int) (List jr)
 |⟨none,a,b,c,d,_⟩=>.error (a,b,c,d)
 |⟨some cv,_,_,_,_,dj⟩=>nA v aB l (k+1) (layAll y.r y.g y.b y.al (zC v) cv 0 ts) dj
theorem AO(v:kH)(aB:Int)(y:ly)(l:List ly)(k:Nat)(ts:List jr)(m:Int):nA v aB (y::l) k ts m=wj v aB y l k ts (ny k v m (jx y.t.data.toList aB)):=by unfold nA wj;split<;>rfl
def tf(aE aH gQ al:Int)(cells:Int)(v:e3)(i:Nat):Nat→List jr→List jr
 |0,ts=>ts
 |n+1,ts=>(tf aE aH gQ al cells v i n ts).set (3 *i+n) (E0 ((tf aE aH gQ al cells v i n ts).getD (3 *i+n) (0,0)) (if n=0 then aE else if n=1 then aH else gQ) al v cells)
theorem Vy(aE aH gQ al:Int)(cells:Int)(v:e3)(i:Nat)(ts:List jr):∀n,(tf aE aH gQ al cells v i n ts).length=ts.length
 |0=>rfl
 |n+1=>by unfold tf;rw[L8,Vy]
theorem Vz{aE aH gQ al cells:Int}{v:e3}{i:Nat}{ts:List jr}(h:xZ ts)(aS:0≤aE∧aE≤255)(av:0≤aH∧aH≤255)(az:0≤gQ∧gQ≤255)(ha:0≤al∧al≤255)(aY:pc cells v)(hc:1≤cells):∀n,xZ (tf aE aH gQ al cells v i n ts)
 |0=>h
 |n+1=>by
  unfold tf;have k:=Vz (i:=i) h aS av az ha aY hc n;refine aqG k _ (aqF (adN k _) ?_ ha aY hc);split
  ·exact aS
  ·split
   ·exact av
   ·exact az
theorem aqX{m:Int}{f:List eu×Nat×Nat}{cv:List e3}{a b c d dj:Int}(hm:0≤m)(h:ny k v m f=⟨some cv,a,b,c,d,dj⟩):(∀c∈cv,pc (4^v.depth.toNat) c)∧cv.length=v.h.toNat *v.w.toNat∧0≤dj∧dj≤m:=by
 obtain⟨o,i,e⟩:=f;unfold ny at h;simp only at h;split at h
 ·simp at h
 ·split at h
  ·simp at h
  ·rename_i l m1 hr;simp only[zc.mk.injEq,n7] at h;obtain⟨rfl,_,_,_,_,rfl⟩:=h;exact aqC hm hr
theorem aqY{m:Int}{f:List eu×Nat×Nat}{a b c d dj:Int}(h:ny k v m f=⟨none,a,b,c,d,dj⟩):d≠0:=by
 obtain⟨o,i,e⟩:=f;unfold ny at h;simp only at h;split at h
 ·rename_i he;simp only[zc.mk.injEq] at h;obtain⟨_,_,_,_,rfl,_⟩:=h;omega
 ·split at h
  ·simp only[zc.mk.injEq] at h;obtain⟨_,_,_,_,rfl,_⟩:=h;decide
  ·simp at h
def Cz(w:aeo)(eI eM:Int)(T:Except (Int×Int×Int×Int) (List jr))(e:Ending)(w':aeo):Prop:=Below w.heap.size w w'∧match T with
 |.error (a,b,c,d)=>e=ab (.tuple #[.agg #[I 0,I 0,U false,J 0],lU a b c d])
 |.ok ts=>∃q cp,e=ab (.tuple #[.agg #[I eI,I eM,U true,ad q ts.length cp],lU 0 0 0 0])∧w'.ownsRow w.heap.size 5 1 (ad q ts.length cp) ts.length (ts.map fun t=>.int .u8 (rn t))
def VA(aB:Int)(ls:List ly):Prop:=∀y∈ls,y.te=false∧AD y.t aB∧∀x∈(jx y.t.data.toList aB).1,Plain x.2∧sD x.2
theorem ad3(S:afp)(cm cq bQ bM cB ch:Int)(ls:List ly)(pl:Ja)(nl cl:Nat)(hn:nl=ls.length)(ew:Ja)(bn ec:Nat)(bJ bO ba aB st:Int)(f:Bool)(nm pe pf fd:Int)(hd:fd≠0)(pL:wi ⟨cm,cq,bQ,bM,cB,ch⟩ ls bn bJ bO ba=f)(w:aeo)(H:af (nY S w pl ls))(hf:af (f=false→nm=0∧pe=0∧pf=0∧fd=1))
  (r4:af (f=true→∀Z,ao w w Z→Calls Tryz.prog 36 #[.agg #[I cm,I cq,I bQ,I bM,I cB,I ch,ad pl nl cl,ad ew bn ec,I bJ,I bO,I ba,I aB,I st]] Z fun e w'=>e=ab (.tuple #[J 0,lU nm pe pf fd])∧ao Z Z w')):
  Calls Tryz.prog 20 #[.agg #[I cm,I cq,I bQ,I bM,I cB,I ch,ad pl nl cl,ad ew bn ec,I bJ,I bO,I ba,I aB,I st]] w fun e w'=>Cz w bM cB (.error (nm,pe,pf,fd)) e w':=by
 have Ln:=aq pL;have bd:=aq hn;clear pL hn;go_enter Tryz.func20,Tryz.ntmps20;go_upto_region 1 with fail;obtain⟨HF,VB⟩:∃c:ajv, #[I cm,I cq,I bQ,I bM,I cB,I ch,ad pl nl cl,ad ew bn ec,I bJ,I bO,I ba,I aB,I st]=c:=⟨_,rfl⟩;have ad4:=aq VB;rw[VB];clear VB;obtain⟨W,bo⟩:=ar (((w.alloc (ai HF iX)).alloc (ai (#[I 0,I 0,U false,J 0]) jO)).alloc (ai (#[I 0,I 0,I 0,I 0]) eN));have s1:(w.alloc (ai HF iX)).heap.size=w.heap.size+1:=sx _;have s2:((w.alloc (ai HF iX)).alloc (ai (#[I 0,I 0,U false,J 0]) jO)).heap.size=w.heap.size+1+1:=(sx _).trans (fp (· +1) s1)
 have bH:af (nz w w.heap.size HF W):=by
  have bA:=bY (w.alloc (ai HF iX)) (ai (#[I 0,I 0,U false,J 0]) jO);rw[s1] at bA;have a2:=bY ((w.alloc (ai HF iX)).alloc (ai (#[I 0,I 0,U false,J 0]) jO)) (ai (#[I 0,I 0,I 0,I 0]) eN);rw[s2,bo] at a2;refine⟨?_,?_,?_,a2⟩
  ·rw[←bo];exact (a6 _ _).trans (((a6 _ _).trans ((a6 _ _).mono (a6 _ _).size)).mono (a6 _ _).size)
  ·rw[←bo];exact aU (aU (bY w _) (a6 _ _)) (a6 _ _)
  ·rw[←bo];exact aU bA (a6 _ _)
 rw[bo];clear bo s1 s2;rw[←ad4.out] at bH;obtain⟨D,b2⟩:=ar w.heap.size;have ze:af (w.heap.size≤D):=J1 b2;rw[b2] at bH⊢;clear b2 ad4;obtain⟨jd,gH,gI,gz,gA,je,iY,jo,j2,j3,j4,jf,jq⟩:=pd bH.out.j;have sc:=Vl S cm cq bQ bM cB ch ls pl nl cl bd.out ew bn ec bJ bO ba aB st W (aq (H.out.below bH.out.aX)) f Ln;have ad5:D+1+1≠D+1:=by omega
 have CQ:D+1≠D+1+1:=by omega
 cases f with
 |false=>
  obtain⟨rfl,rfl,rfl,rfl⟩:=hf.out rfl;go_upto_region 2 with (go_at_call 35;(with_reducible refine sc.mono ?_);rintro e AP ⟨rfl,dc⟩);have js:=aq (bH.out.below dc);clear sc dc jd gH gI gz gA je iY jo j2 j3 j4 jf jq bH r4;have aD:=cell_of (i:=0) js.out.gG rfl;have aL:=cell_of (i:=1) js.out.gG rfl;have mO:=cell_of (i:=2) js.out.gG rfl;have mP:=cell_of (i:=3) js.out.gG rfl;obtain⟨f0,f1,f2,f3⟩:=jN js.out.eJ;have y2:=fun i=>cJ js.out.gG i;have Lo:=fun i=>cJ js.out.eJ i;have h9:=PT js.out ze.out (I 0) (I 0) (U false) (J 0) (I 0) (I 0) (I 0) (I 1);go_wp2_with fail;generalize ((((((((AP.setCell (aj (D+1) 0) (I 0)).setCell (aj (D+1) 1) (I 0)).setCell (aj (D+1) 2) (U false)).setCell (aj (D+1) 3) (J 0)).setCell (aj (D+1+1) 0) (I 0)).setCell (aj (D+1+1) 1) (I 0)).setCell (aj (D+1+1) 2) (I 0)).setCell (aj (D+1+1) 3) (I 1))=AQ at h9⊢;obtain⟨b1,cw,ei,_⟩:=h9;obtain⟨ek,a7,bf,cM⟩:=jN b1;obtain⟨f0,f1,f2,f3⟩:=jN cw;exact dU (v:=.tuple #[.agg #[I 0,I 0,U false,J 0],lU 0 0 0 1]) (by simp[results,PR,go_sem,ek,a7,bf,cM,f0,f1,f2,f3]) rfl ⟨ei,rfl⟩
 |true=>
  go_upto_region 3 with (go_at_call 35;(with_reducible refine sc.mono ?_);rintro e b4 ⟨rfl,dc⟩);have cA:=aq (bH.out.below dc);clear sc dc jd gH gI gz gA je iY jo j2 j3 j4 jf jq bH;obtain⟨jd,gH,gI,gz,gA,je,iY,jo,j2,j3,j4,jf,jq⟩:=pd cA.out.j;have ad6:=r4.out (by trivial) b4 cA.out.aX;go_upto_region 4 with (go_at_call 36;(with_reducible refine ad6.mono ?_);rintro e c9 ⟨rfl,im⟩);have js:=aq ((cA.out.below im).below (a6 c9 (ai (#[I nm,I pe,I pf,I fd]) eN)));have uE:af ((c9.alloc (ai (#[I nm,I pe,I pf,I fd]) eN)).heap[c9.heap.size]?=some (.cells #[I nm,I pe,I pf,I fd] eN)):=bY _ _;clear r4 ad6 im jd gH gI gz gA je iY jo j2 j3 j4 jf jq cA;generalize c9.alloc (.cells #[I nm,I pe,I pf,I fd] eN)=AP at js uE⊢;obtain⟨F,hF⟩:=ar c9.heap.size;rw[hF] at uE⊢;clear hF;obtain⟨ek,a7,bf,cM⟩:=jN uE.out;have VC:F≠D+1:=oC uE.out js.out.gG (by decide);have aqZ:D+1≠F:=VC.symm;have aD:=cell_of (i:=0) js.out.gG rfl;have aL:=cell_of (i:=1) js.out.gG rfl;have mO:=cell_of (i:=2) js.out.gG rfl;have mP:=cell_of (i:=3) js.out.gG rfl;obtain⟨f0,f1,f2,f3⟩:=jN js.out.eJ;have y2:=fun i=>cJ js.out.gG i;have Lo:=fun i=>cJ js.out.eJ i;go_upto_region 5 with fail;go_region
  all_goals
   clear ek a7 bf cM aD aL mO mP f0 f1 f2 f3 y2 Lo;have h9:=PT js.out ze.out (I 0) (I 0) (U false) (J 0) (I nm) (I pe) (I pf) (I fd);go_wp2_with fail;generalize ((((((((AP.setCell (aj (D+1) 0) (I 0)).setCell (aj (D+1) 1) (I 0)).setCell (aj (D+1) 2) (U false)).setCell (aj (D+1) 3) (J 0)).setCell (aj (D+1+1) 0) (I nm)).setCell (aj (D+1+1) 1) (I pe)).setCell (aj (D+1+1) 2) (I pf)).setCell (aj (D+1+1) 3) (I fd))=AQ at h9⊢;obtain⟨b1,cw,ei,_⟩:=h9;have VD:AQ.drew.heap[D+1]?=_:=b1;have VE:AQ.drew.heap[D+1+1]?=_:=cw;obtain⟨ek,a7,bf,cM⟩:=jN VD;obtain⟨f0,f1,f2,f3⟩:=jN VE;exact dU (v:=.tuple #[.agg #[I 0,I 0,U false,J 0],lU nm pe pf fd]) (by simp[results,PR,go_sem,ek,a7,bf,cM,f0,f1,f2,f3]) rfl ⟨ei.drew,rfl⟩
end dd
