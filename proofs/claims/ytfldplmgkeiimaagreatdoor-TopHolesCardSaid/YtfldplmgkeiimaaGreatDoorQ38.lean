/- Lemmas. -/
import Derived.Test.YtfldplmgkeiimaaGreatDoorQ37
set_option linter.all false
set_option maxRecDepth 100000
set_option maxHeartbeats 25600000
namespace Go.Proofs.YtfldplmgkeiimaaGreatDoor
namespace dE
open Go.RowKit el
def l0(n:Nat→Int):Nat→Int
 |0=>0
 |1=>n 0
 |k+2=>min (l0 n (k+1)) (n (k+1))
def l1(n:Nat→Int):Nat→Int
 |0=>0
 |1=>n 0
 |k+2=>max (l1 n (k+1)) (n (k+1))
theorem agi(a b:Int)(j:Nat)(cB:j<2)(w:bTo):(Instr.index 171 (.agg #[I a,I b]) (I j)).run Tryz.prog w=.ok (I (if j=0 then a else b)) w:=by rcases (show j=0∨j=1 by omega) with rfl|rfl<;>simp[Instr.index,jT Tryz.underlying171,asIntOf,go_sem,part]
theorem Rp(a b:Int)(j:Nat)(cB:j<2)(w:bTo):(Instr.index 172 (.agg #[I a,I b]) (I j)).run Tryz.prog w=.ok (I (if j=0 then a else b)) w:=by rcases (show j=0∨j=1 by omega) with rfl|rfl<;>simp[Instr.index,jT Tryz.underlying172,asIntOf,go_sem,part]
variable{k:Int}
theorem agj{t c al cells:Int}(bH:0≤t∧t≤16711680)(hc:0≤c∧c≤255)(ha:0≤al∧al≤255)(ab:0≤k∧k≤cells)(hn:1≤cells∧cells≤4096):
  (0≤al *k∧al *k≤255 *cells)∧(0≤t *(255 *cells-al *k)∧t *(255 *cells-al *k)≤17455015526400)∧(0≤65536 *c *(al *k)∧65536 *c *(al *k)≤17455015526400):=by
 have aa:0≤al *k:=hL ha.1 ab.1;have ah:0≤(255-al) *k:=hL (by omega) ab.1;have ax:(255-al) *k=255 *k-al *k:=by grind
 have bg:al *k≤255 *cells:=by omega
 have b7:0≤t *(255 *cells-al *k):=hL bH.1 (by omega);have c0:0≤(16711680-t) *(255 *cells-al *k):=hL (by omega) (by omega);have ea:(16711680-t) *(255 *cells-al *k)=16711680 *(255 *cells-al *k)-t *(255 *cells-al *k):=by grind
 have eO:0≤c *(al *k):=hL hc.1 aa;have fG:0≤(255-c) *(al *k):=hL (by omega) aa;have xx:(255-c) *(al *k)=255 *(al *k)-c *(al *k):=by grind
 have AH:65536 *c *(al *k)=65536 *(c *(al *k)):=by grind
 refine⟨⟨aa,bg⟩,⟨b7,by omega⟩,⟨by omega,by omega⟩⟩
theorem atq(t:Int×Int)(c al:Int)(v:eV)(cells:Int)(hc:0≤c∧c≤255)(ha:0≤al∧al≤255)(aS:Ho v cells=true)(bH:rv t=true)(w:bTo):
  Calls Tryz.prog 43 #[D0 t,I c,I al,D0 v,I cells] w fun e w'=>e=bb (.tuple #[D0 (CC t c al v cells /(255 *cells),(CD t c al v cells+255 *cells-1)/(255 *cells)),ai true])∧av w w w':=by
 have cd:=U aS;have dF:=U bH;obtain⟨bX,b3⟩:=t;obtain⟨a0,a'⟩:=v;have p8:=aS;have Il:=bH;simp only[Ho,gy,gH] at p8;simp only[rv,gy,gH] at Il;obtain⟨kI,ic,yk,tP,DF⟩:=p8;obtain⟨xk,agk,agl⟩:=Il;obtain⟨n,hn⟩:∃n:Nat→Int,(fun q=>uN (if q%2=0 then bX else b3) c al (if q/2=0 then a0 else a') cells)=n:=⟨_,rfl⟩;have a1:=U hn;have hF:∀(b a:Int),0≤b∧b≤16711680→0≤a∧a≤cells→(bT (al *a)=al *a∧bT (255 *cells-al *a)=255 *cells-al *a∧bT (b *(255 *cells-al *a))=b *(255 *cells-al *a)∧bT (65536 *c *(al *a))=65536 *c *(al *a)∧bT (b *(255 *cells-al *a)+65536 *c *(al *a))=b *(255 *cells-al *a)+65536 *c *(al *a)):=by intro b a af h;obtain⟨⟨f1,f2⟩,⟨f3,f4⟩,⟨f5,f6⟩⟩:=agj af hc ha h ⟨kI,ic⟩;exact⟨b4 _ (by omega),b4 _ (by omega),b4 _ (by omega),b4 _ (by omega),b4 _ (by omega)⟩
 have agm:∀q,0≤n q∧n q≤34910031052800:=by intro q;rw[←hn];simp only[uN];obtain⟨⟨f1,f2⟩,⟨f3,f4⟩,⟨f5,f6⟩⟩:=agj (t:=if q%2=0 then bX else b3) (k:=if q/2=0 then a0 else a') (by split<;>omega) hc ha (by split<;>omega) ⟨kI,ic⟩;omega
 have aE:=U hF;have gw:=U agm;have atr:bT (65536 *c)=65536 *c:=b4 _ (by omega);have ats:bT (255 *cells)=255 *cells:=b4 _ (by omega);have axV:¬c<0:=by omega
 have axW:¬c > 255:=by omega
 have axX:¬al<0:=by omega
 have axY:¬al > 255:=by omega
 have h0:J (0≤bX∧bX≤b3∧b3≤16711680∧0≤a0∧a0≤a'∧a'≤cells∧1≤cells∧cells≤4096):=U (And.intro xk (And.intro agk (And.intro agl (And.intro yk (And.intro tP (And.intro DF (And.intro kI ic)))))));clear aS bH hn hF agm xk agk agl yk tP DF;go_enter Tryz.func43,Tryz.ntmps43;go_upto_region 1 with fail;obtain⟨W,a6⟩:=az (((w.alloc (DZ (bX,b3))).alloc (aD (#[I a0,I a']) 43)).alloc (DZ (0,0)));obtain⟨aa,ah,ax,bg,_⟩:=rb a6;have H1:=U aa;have b9:=U ah;have cS:=U ax;have iT:=U bg;change Code.wp _ _ _ _ (((w.alloc (DZ (bX,b3))).alloc (aD (#[I a0,I a']) 43)).alloc (DZ (0,0)));rw[a6];clear a6 aa ah ax bg;obtain⟨eK,er⟩:=pa H1.out;obtain⟨e8,bN⟩:=pa b9.out;go_wp2_with fail;go_fit (asp (a0,a') cells true cd _);rintro e bQ ⟨rfl,af⟩;have Xh:=U (aO H1.out af);have Xi:=U (aO b9.out af);have agn:=U (aO cS.out af);have Xj:J (av w w bQ):=iT.out.trans (af.mono iT.out.size);clear eK er e8 bN af H1 b9 cS iT;obtain⟨eK,er⟩:=pa Xh.out;obtain⟨e8,bN⟩:=pa Xi.out;go_wp2_with fail;go_fit (afc (bX,b3) true dF _);rintro e ct ⟨rfl,af⟩;have att:=U (aO Xh.out af);have atu:=U (aO Xi.out af);have Xk:=U (aO agn.out af);have atv:J (av w w ct):=Xj.out.trans (af.mono Xj.out.size);clear eK er e8 bN af Xh Xi agn Xj;obtain⟨eK,er⟩:=pa att.out;obtain⟨e8,bN⟩:=pa atu.out;go_wp2_with fail
 go_loopw [13,14,15,55] (fun l m f i wr=>∃(j:Nat) (aG:bTo),aG=wr∧J (aG=ct)∧j≤2∧l=I (l0 n (2 *j))∧m=I (l1 n (2 *j))∧f=ai (decide (j=0))∧i=I j) (fun _ _ _ i _=>2 -(intOf i).toNat)
 case atStart=>exact⟨0,_,rfl,rfl,by decide,rfl,rfl,rfl,rfl⟩
 case round=>
 obtain⟨j,aG,rfl,a6,cB,rfl,rfl,rfl,rfl⟩:=hrel;have gU:=a6.out;subst gU;obtain⟨uP,CF⟩:∃uP:Int,(j:Int)=uP:=⟨_,rfl⟩;rw[CF];rcases (show j=0∨j=1∨j=2 by omega) with rfl|rfl|rfl
 ·
  obtain rfl:uP=0:=(by omega);have oh:∀w,(Instr.index 171 (.agg #[I a0,I a']) (I 0)).run Tryz.prog w=.ok (I a0) w:=fun w=>agi a0 a' 0 (by decide) w;have atw:bT (al *a0)=al *a0:=(aE.out bX a0 (by have:=h0.out;omega) (by have:=h0.out;omega)).1;go_wp2_with fail
  go_loopw [13,14,15,66] (fun l m f i wr=>∃(k:Nat) (cO:bTo),cO=wr∧J (cO=aG)∧k≤2∧l=I (l0 n (2 *0+k))∧m=I (l1 n (2 *0+k))∧f=ai (decide (2 *0+k=0))∧i=I k) (fun _ _ _ i _=>2 -(intOf i).toNat)
  case atStart=>exact⟨0,_,rfl,rfl,by decide,rfl,rfl,rfl,rfl⟩
  case round=>
  obtain⟨k,cO,rfl,I',ab,rfl,rfl,rfl,rfl⟩:=hrel;have Xl:=I'.out;subst Xl;obtain⟨y2,rM⟩:∃y2:Int,(k:Int)=y2:=⟨_,rfl⟩;rw[rM];rcases (show k=0∨k=1∨k=2 by omega) with rfl|rfl|rfl
  ·
   obtain rfl:y2=0:=(by omega);have oh:∀w,(Instr.index 172 (.agg #[I bX,I b3]) (I 0)).run Tryz.prog w=.ok (I bX) w:=fun w=>Rp bX b3 0 (by decide) w;obtain⟨f1,f2,f3,f4,f5⟩:=aE.out bX a0 (by have:=h0.out;omega) (by have:=h0.out;omega);have qf:bX *(255 *cells-al *a0)+65536 *c *(al *a0)=n 0:=(by rw[←a1.out];rfl);rw[qf] at f5;go_wp2_with fail;go_round<;>first|exact⟨1,_,rfl,rfl,by omega,rfl,rfl,rfl,by go_num⟩|(simp[intOf]<;>omega)
  ·
   obtain rfl:y2=1:=(by omega);have oh:∀w,(Instr.index 172 (.agg #[I bX,I b3]) (I 1)).run Tryz.prog w=.ok (I b3) w:=fun w=>Rp bX b3 1 (by decide) w;obtain⟨f1,f2,f3,f4,f5⟩:=aE.out b3 a0 (by have:=h0.out;omega) (by have:=h0.out;omega);have qf:b3 *(255 *cells-al *a0)+65536 *c *(al *a0)=n 1:=(by rw[←a1.out];rfl);rw[qf] at f5;obtain⟨l,aj⟩:=az (l0 n 1);obtain⟨m,hm⟩:=az (l1 n 1);have eW:J (l0 n (1+1)=min l (n 1)):=(by show _=_;rw[←aj];rfl);have dn:J (l1 n (1+1)=max m (n 1)):=(by show _=_;rw[←hm];rfl);obtain⟨u,hu⟩:=az (n 1);rw[hu] at f5 qf eW dn;have aN:l0 n (2 *0+1)=l:=aj;have aR:l1 n (2 *0+1)=m:=hm;rw[aN,aR];clear aj hm hu aN aR;by_cases aI:u<l<;>by_cases c2:u > m
   ·have ld:J (l0 n (1+1)=u):=(by show _=_;rw[eW.out];omega);have kr:J (l1 n (1+1)=u):=(by show _=_;rw[dn.out];omega);go_wp2_with fail;go_round<;>first|exact⟨1+1,_,rfl,rfl,by omega,by rw[←ld.out],by rw[←kr.out],rfl,by go_num⟩|(simp[intOf]<;>omega)
   ·have ld:J (l0 n (1+1)=u):=(by show _=_;rw[eW.out];omega);have kr:J (l1 n (1+1)=m):=(by show _=_;rw[dn.out];omega);go_wp2_with fail;go_round<;>first|exact⟨1+1,_,rfl,rfl,by omega,by rw[←ld.out],by rw[←kr.out],rfl,by go_num⟩|(simp[intOf]<;>omega)
   ·have ld:J (l0 n (1+1)=l):=(by show _=_;rw[eW.out];omega);have kr:J (l1 n (1+1)=u):=(by show _=_;rw[dn.out];omega);go_wp2_with fail;go_round<;>first|exact⟨1+1,_,rfl,rfl,by omega,by rw[←ld.out],by rw[←kr.out],rfl,by go_num⟩|(simp[intOf]<;>omega)
   ·have ld:J (l0 n (1+1)=l):=(by show _=_;rw[eW.out];omega);have kr:J (l1 n (1+1)=m):=(by show _=_;rw[dn.out];omega);go_wp2_with fail;go_round<;>first|exact⟨1+1,_,rfl,rfl,by omega,by rw[←ld.out],by rw[←kr.out],rfl,by go_num⟩|(simp[intOf]<;>omega)
  ·
   obtain rfl:y2=2:=(by omega);go_wp2_with fail;go_round<;>first|exact⟨0+1,_,rfl,rfl,by omega,rfl,rfl,rfl,by go_num⟩|(simp[intOf]<;>omega)
 ·
  obtain rfl:uP=1:=(by omega);have oh:∀w,(Instr.index 171 (.agg #[I a0,I a']) (I 1)).run Tryz.prog w=.ok (I a') w:=fun w=>agi a0 a' 1 (by decide) w;have atw:bT (al *a')=al *a':=(aE.out bX a' (by have:=h0.out;omega) (by have:=h0.out;omega)).1;go_wp2_with fail
  go_loopw [13,14,15,66] (fun l m f i wr=>∃(k:Nat) (cO:bTo),cO=wr∧J (cO=aG)∧k≤2∧l=I (l0 n (2 *1+k))∧m=I (l1 n (2 *1+k))∧f=ai (decide (2 *1+k=0))∧i=I k) (fun _ _ _ i _=>2 -(intOf i).toNat)
  case atStart=>exact⟨0,_,rfl,rfl,by decide,rfl,rfl,rfl,rfl⟩
  case round=>
  obtain⟨k,cO,rfl,I',ab,rfl,rfl,rfl,rfl⟩:=hrel;have Xl:=I'.out;subst Xl;obtain⟨y2,rM⟩:∃y2:Int,(k:Int)=y2:=⟨_,rfl⟩;rw[rM];rcases (show k=0∨k=1∨k=2 by omega) with rfl|rfl|rfl
  ·
   obtain rfl:y2=0:=(by omega);have oh:∀w,(Instr.index 172 (.agg #[I bX,I b3]) (I 0)).run Tryz.prog w=.ok (I bX) w:=fun w=>Rp bX b3 0 (by decide) w;obtain⟨f1,f2,f3,f4,f5⟩:=aE.out bX a' (by have:=h0.out;omega) (by have:=h0.out;omega);have qf:bX *(255 *cells-al *a')+65536 *c *(al *a')=n 2:=(by rw[←a1.out];rfl);rw[qf] at f5;obtain⟨l,aj⟩:=az (l0 n 2);obtain⟨m,hm⟩:=az (l1 n 2);have eW:J (l0 n (2+1)=min l (n 2)):=(by show _=_;rw[←aj];rfl);have dn:J (l1 n (2+1)=max m (n 2)):=(by show _=_;rw[←hm];rfl);obtain⟨u,hu⟩:=az (n 2);rw[hu] at f5 qf eW dn;have aN:l0 n (2 *1+0)=l:=aj;have aR:l1 n (2 *1+0)=m:=hm;rw[aN,aR];clear aj hm hu aN aR;by_cases aI:u<l<;>by_cases c2:u > m
   ·have ld:J (l0 n (2+1)=u):=(by show _=_;rw[eW.out];omega);have kr:J (l1 n (2+1)=u):=(by show _=_;rw[dn.out];omega);go_wp2_with fail;go_round<;>first|exact⟨0+1,_,rfl,rfl,by omega,by rw[←ld.out],by rw[←kr.out],rfl,by go_num⟩|(simp[intOf]<;>omega)
   ·have ld:J (l0 n (2+1)=u):=(by show _=_;rw[eW.out];omega);have kr:J (l1 n (2+1)=m):=(by show _=_;rw[dn.out];omega);go_wp2_with fail;go_round<;>first|exact⟨0+1,_,rfl,rfl,by omega,by rw[←ld.out],by rw[←kr.out],rfl,by go_num⟩|(simp[intOf]<;>omega)
   ·have ld:J (l0 n (2+1)=l):=(by show _=_;rw[eW.out];omega);have kr:J (l1 n (2+1)=u):=(by show _=_;rw[dn.out];omega);go_wp2_with fail;go_round<;>first|exact⟨0+1,_,rfl,rfl,by omega,by rw[←ld.out],by rw[←kr.out],rfl,by go_num⟩|(simp[intOf]<;>omega)
   ·have ld:J (l0 n (2+1)=l):=(by show _=_;rw[eW.out];omega);have kr:J (l1 n (2+1)=m):=(by show _=_;rw[dn.out];omega);go_wp2_with fail;go_round<;>first|exact⟨0+1,_,rfl,rfl,by omega,by rw[←ld.out],by rw[←kr.out],rfl,by go_num⟩|(simp[intOf]<;>omega)
  ·
   obtain rfl:y2=1:=(by omega);have oh:∀w,(Instr.index 172 (.agg #[I bX,I b3]) (I 1)).run Tryz.prog w=.ok (I b3) w:=fun w=>Rp bX b3 1 (by decide) w;obtain⟨f1,f2,f3,f4,f5⟩:=aE.out b3 a' (by have:=h0.out;omega) (by have:=h0.out;omega);have qf:b3 *(255 *cells-al *a')+65536 *c *(al *a')=n 3:=(by rw[←a1.out];rfl);rw[qf] at f5;obtain⟨l,aj⟩:=az (l0 n 3);obtain⟨m,hm⟩:=az (l1 n 3);have eW:J (l0 n (3+1)=min l (n 3)):=(by show _=_;rw[←aj];rfl);have dn:J (l1 n (3+1)=max m (n 3)):=(by show _=_;rw[←hm];rfl);obtain⟨u,hu⟩:=az (n 3);rw[hu] at f5 qf eW dn;have aN:l0 n (2 *1+1)=l:=aj;have aR:l1 n (2 *1+1)=m:=hm;rw[aN,aR];clear aj hm hu aN aR;by_cases aI:u<l<;>by_cases c2:u > m
   ·have ld:J (l0 n (3+1)=u):=(by show _=_;rw[eW.out];omega);have kr:J (l1 n (3+1)=u):=(by show _=_;rw[dn.out];omega);go_wp2_with fail;go_round<;>first|exact⟨1+1,_,rfl,rfl,by omega,by rw[←ld.out],by rw[←kr.out],rfl,by go_num⟩|(simp[intOf]<;>omega)
   ·have ld:J (l0 n (3+1)=u):=(by show _=_;rw[eW.out];omega);have kr:J (l1 n (3+1)=m):=(by show _=_;rw[dn.out];omega);go_wp2_with fail;go_round<;>first|exact⟨1+1,_,rfl,rfl,by omega,by rw[←ld.out],by rw[←kr.out],rfl,by go_num⟩|(simp[intOf]<;>omega)
   ·have ld:J (l0 n (3+1)=l):=(by show _=_;rw[eW.out];omega);have kr:J (l1 n (3+1)=u):=(by show _=_;rw[dn.out];omega);go_wp2_with fail;go_round<;>first|exact⟨1+1,_,rfl,rfl,by omega,by rw[←ld.out],by rw[←kr.out],rfl,by go_num⟩|(simp[intOf]<;>omega)
   ·have ld:J (l0 n (3+1)=l):=(by show _=_;rw[eW.out];omega);have kr:J (l1 n (3+1)=m):=(by show _=_;rw[dn.out];omega);go_wp2_with fail;go_round<;>first|exact⟨1+1,_,rfl,rfl,by omega,by rw[←ld.out],by rw[←kr.out],rfl,by go_num⟩|(simp[intOf]<;>omega)
  ·
   obtain rfl:y2=2:=(by omega);go_wp2_with fail;go_round<;>first|exact⟨1+1,_,rfl,rfl,by omega,rfl,rfl,rfl,by go_num⟩|(simp[intOf]<;>omega)
 ·
  obtain rfl:uP=2:=(by omega);obtain⟨L,lU⟩:=az (l0 n (2 *2));obtain⟨M,na⟩:=az (l1 n (2 *2));obtain⟨D,bZ⟩:=az (255 *cells);have ago:CC (bX,b3) c al (a0,a') cells=L:=(by rw[←lU,←a1.out];rfl);have agp:CD (bX,b3) c al (a0,a') cells=M:=(by rw[←na,←a1.out];rfl);have atx:0≤L∧L≤34910031052800:=(by have aQ:=gw.out 0;have aa:=gw.out 1;have ah:=gw.out 2;have ax:=gw.out 3;rw[←lU];show 0≤min (min (min (n 0) (n 1)) (n 2)) (n 3)∧min (min (min (n 0) (n 1)) (n 2)) (n 3)≤_;omega);have agq:0≤M∧M≤34910031052800:=(by have aQ:=gw.out 0;have aa:=gw.out 1;have ah:=gw.out 2;have ax:=gw.out 3;rw[←na];show 0≤max (max (max (n 0) (n 1)) (n 2)) (n 3)∧max (max (max (n 0) (n 1)) (n 2)) (n 3)≤_;omega);have aty:255≤D∧D≤1044480:=(by omega);have bE:bT (M+D)=M+D:=b4 _ (by omega);have cr:bT (M+D-1)=M+D-1:=b4 _ (by omega);have t1:L.tdiv D=L/D:=CW (by omega);have t2:(M+D-1).tdiv D=(M+D-1)/ D:=CW (by omega);have ar:0≤L/D∧L/D≤L:=⟨Xa (by omega) (by omega),Int.ediv_le_self _ (by omega)⟩;have gY:0≤(M+D-1)/ D∧(M+D-1)/ D≤M+D-1:=⟨Xa (by omega) (by omega),Int.ediv_le_self _ (by omega)⟩;have dJ:bT (L/D)=L/D:=b4 _ (by omega);have cb:bT ((M+D-1)/ D)=(M+D-1)/ D:=b4 _ (by omega);have axZ:¬D=0:=(by omega);have atz:=U ago;have atA:=U agp;have Bp:=U bZ;rw[lU,na,bZ];clear bZ lU na ago agp atx agq aty ar gY ats atr;obtain⟨u0,u1⟩:=pa Xk.out;have fu:=cP Xk.out;go_upto_region 21 with fail;go_region
  all_goals
   go_wp2_with fail;have hO:=me [I (L/D),I ((M+D-1)/ D)] Xk.out rfl;have wa:=pt (m:=0) (b:=w.heap.size+1+1) (show w.heap.size≤w.heap.size+1+1 by omega) [I (L/D),I ((M+D-1)/ D)] atv.out;exact dH (nK rfl _ _ (w.heap.size+1+1) _ _ _ _ rfl hO Tryz.underlying107 rfl (by kernel_rfl)) rfl ⟨by rw[atz.out,atA.out,Bp.out];rfl,wa.drew⟩
abbrev kl:TypeId:=107
abbrev GH:TypeId:=54
abbrev Xm:Value:=.agg #[I 0,I 0]
theorem atB:(Tryz.prog.info? kl).map (fun i=>(i.zero,i.size,i.bytes))=some (some Xm,2,16):=by kernel_rfl
theorem PK:(Tryz.prog.info? 5).map (fun i=>(i.zero,i.size,i.bytes))=some (some (.int .u8 0),1,1):=by kernel_rfl
theorem Rq{l:List jY}{i:Nat}(hi:i<l.length):(jd l)[i *2]?=some (I l[i].1)∧(jd l)[i *2+1]?=some (I l[i].2):=KM hi
theorem agr:∀(l:List jY) (j:Nat) (t:jY),jd (l.set j t)=((jd l).set (j *2) (I t.1)).set (j *2+1) (I t.2)
 |[],_,_=>rfl
 |a::l,0,t=>rfl
 |a::l,j+1,t=>by have e:jd (a::l)=I a.1::I a.2::jd l:=rfl;have aR:jd ((a::l).set (j+1) t)=I a.1::I a.2::jd (l.set j t):=rfl;rw[aR,e,agr l j t,show (j+1) *2=j *2+1+1 by omega];rfl
variable{w x y:bTo}{B D:Nat}
theorem ags{K n c i bn:Nat}{e:aui}{xs:bTv}{u:ada}(h:w.ownsRow B e bn (bG K 0 n c) n xs)(hi:i<n *bn):(w.setCell (ag K i) u).ownsRow B e bn (bG K 0 n c) n (xs.set i u):=by
 refine⟨by rw[Ln];exact h.1,?_⟩;rcases h.2 with ⟨aS,_⟩|⟨k,cap,cur,ab,bJ,aF,aa,ah,ax,bg⟩
 ·cases aS
 ·injection ab with eA _ ga;injection eA with eA;injection eA with eA;subst eA ga;refine .inr ⟨K,c,cur.setIfInBounds i u,rfl,bJ,c4 u aF,aa,ah,by rw[AN];exact ax,?_⟩;rw[Px,Py,bg]
theorem atC{g n c:Nat}{ts:List jY}(h:w.ownsRow B kl 2 (bG g 0 n c) n (jd ts)){j:Nat}(cB:j<n)(t:jY):((w.setCell (ag g (j *2)) (I t.1)).setCell (ag g (j *2+1)) (I t.2)).ownsRow B kl 2 (bG g 0 n c) n (jd (ts.set j t)):=by rw[agr];exact ags (ags h (by omega)) (by omega)
structure oD(w:bTo)(D:Nat)(pW:agv)(x:bTo):Prop where
 aY:av w w x
 j:bo x D pW lj
 jU:bo x (D+1) (#[I 0,I 0,ai false,ay 0]) GH
 fO:bo x (D+1+1) (#[I 0,I 0,I 0,I 0]) gG
theorem oD.below{pW:agv}(h:oD w D pW x)(af:av x x y):oD w D pW y:=⟨h.aY.trans (af.mono h.aY.size),aO h.j af,aO h.jU af,aO h.fO af⟩
theorem oD.keep{pW:agv}(h:oD w D pW x)(bZ:w.heap.size≤D)(bJ:D+1+1<B)(ab:aL (fun k=>k<B) x y):oD w D pW y:=⟨h.aY.trans (ab.below _ h.aY.size fun k ab=>by omega),ab.get (show D<B by omega) h.j,ab.get (show D+1<B by omega) h.jU,ab.get (show D+1+1<B by omega) h.fO⟩
theorem oD.Xn{G:Nat}{pW:agv}(h:oD w D pW x)(bZ:w.heap.size≤D)(wG:D+1+1<G)(ab:aL (fun k=>k≠G) x y):oD w D pW y:=⟨h.aY.trans (ab.below _ h.aY.size fun k ab=>by omega),ab.get (show D≠G by omega) h.j,ab.get (show D+1≠G by omega) h.jU,ab.get (show D+1+1≠G by omega) h.fO⟩
theorem agt{W:bTo}{pW:agv}(h:oD w D pW W)(bZ:w.heap.size≤D)(a0 a' a2 a3 bX b3 bc ev:ada):
  ((((((((W.setCell (ag (D+1) 0) a0).setCell (ag (D+1) 1) a').setCell (ag (D+1) 2) a2).setCell (ag (D+1) 3) a3).setCell (ag (D+1+1) 0) bX).setCell (ag (D+1+1) 1) b3).setCell (ag (D+1+1) 2) bc).setCell (ag (D+1+1) 3) ev).heap[D+1]?=some (.cells #[a0,a',a2,a3] GH)∧((((((((W.setCell (ag (D+1) 0) a0).setCell (ag (D+1) 1) a').setCell (ag (D+1) 2) a2).setCell (ag (D+1) 3) a3).setCell (ag (D+1+1) 0) bX).setCell (ag (D+1+1) 1) b3).setCell (ag (D+1+1) 2) bc).setCell (ag (D+1+1) 3) ev).heap[D+1+1]?=some (.cells #[bX,b3,bc,ev] gG)∧av w w ((((((((W.setCell (ag (D+1) 0) a0).setCell (ag (D+1) 1) a').setCell (ag (D+1) 2) a2).setCell (ag (D+1) 3) a3).setCell (ag (D+1+1) 0) bX).setCell (ag (D+1+1) 1) b3).setCell (ag (D+1+1) 2) bc).setCell (ag (D+1+1) 3) ev)∧aL (fun k=>k≠D+1∧k≠D+1+1) W ((((((((W.setCell (ag (D+1) 0) a0).setCell (ag (D+1) 1) a').setCell (ag (D+1) 2) a2).setCell (ag (D+1) 3) a3).setCell (ag (D+1+1) 0) bX).setCell (ag (D+1+1) 1) b3).setCell (ag (D+1+1) 2) bc).setCell (ag (D+1+1) 3) ev):=by
 have aa:=B7 h.jU a0 a' a2 a3;have bP:aL (fun k=>k≠D+1∧k≠D+1+1) W ((((W.setCell (ag (D+1) 0) a0).setCell (ag (D+1) 1) a').setCell (ag (D+1) 2) a2).setCell (ag (D+1) 3) a3):=Au (fun ab=>ab.1 rfl) a0 a' a2 a3;have atD:aL (fun k=>k≠D+1) W ((((W.setCell (ag (D+1) 0) a0).setCell (ag (D+1) 1) a').setCell (ag (D+1) 2) a2).setCell (ag (D+1) 3) a3):=Au (fun ab=>ab rfl) a0 a' a2 a3;have ah:=atD.get (show D+1+1≠D+1 by omega) h.fO;have a8:aL (fun k=>k≠D+1∧k≠D+1+1) ((((W.setCell (ag (D+1) 0) a0).setCell (ag (D+1) 1) a').setCell (ag (D+1) 2) a2).setCell (ag (D+1) 3) a3) ((((((((W.setCell (ag (D+1) 0) a0).setCell (ag (D+1) 1) a').setCell (ag (D+1) 2) a2).setCell (ag (D+1) 3) a3).setCell (ag (D+1+1) 0) bX).setCell (ag (D+1+1) 1) b3).setCell (ag (D+1+1) 2) bc).setCell (ag (D+1+1) 3) ev):=Au (fun ab=>ab.2 rfl) bX b3 bc ev;have atE:aL (fun k=>k≠D+1+1) ((((W.setCell (ag (D+1) 0) a0).setCell (ag (D+1) 1) a').setCell (ag (D+1) 2) a2).setCell (ag (D+1) 3) a3) ((((((((W.setCell (ag (D+1) 0) a0).setCell (ag (D+1) 1) a').setCell (ag (D+1) 2) a2).setCell (ag (D+1) 3) a3).setCell (ag (D+1+1) 0) bX).setCell (ag (D+1+1) 1) b3).setCell (ag (D+1+1) 2) bc).setCell (ag (D+1+1) 3) ev):=Au (fun ab=>ab rfl) bX b3 bc ev;exact⟨atE.get (show D+1≠D+1+1 by omega) aa,B7 ah bX b3 bc ev,h.aY.trans ((bP.trans a8).below _ h.aY.size fun k ab=>by omega),bP.trans a8⟩
variable{v:iZ}
theorem atF(h:qa v=true):AU v≤4096:=by
 obtain⟨⟨aQ,c0⟩,_⟩:=Gt h;unfold AU;have ea:v.depth.toNat≤6:=by omega
 have eO:(4:Nat)^ v.depth.toNat≤4^6:=vU (by decide) ea;have e:((4^v.depth.toNat:Nat):Int)=4^v.depth.toNat:=by push_cast;rfl
 rw[←e];have fG:(4:Nat)^ 6=4096:=by decide
 rw[fG] at eO;omega
theorem atG{Fm bn n:Nat}{e:aui}{v:ada}{xs:bTv}(h:w.ownsRow B e bn v n xs)(bJ:Fm≤B):w.ownsRow Fm e bn v n xs:=by
 refine⟨h.1,?_⟩;rcases h.2 with aa|⟨g,cap,cur,aN,ah,ax⟩
 ·exact .inl aa
 ·exact .inr ⟨g,cap,cur,aN,dX bJ ah,ax⟩
theorem agu(a b c:Int)(j:Nat)(cB:j<3)(w:bTo):(Instr.index 30 (.agg #[I a,I b,I c]) (I j)).run Tryz.prog w=.ok (I (if j=0 then a else if j=1 then b else c)) w:=by rcases (show j=0∨j=1∨j=2 by omega) with rfl|rfl|rfl<;>simp[Instr.index,jT Tryz.underlying30,asIntOf,go_sem,part]
def xq(v:iZ)(an:Int):List pU→Nat→List jY→Int→Except (Int×Int×Int×Int) (List jY)
 |[],_,ts,_=>.ok ts
 |y::l,k,ts,m=>match pV k v m (mV y.t.data.toList an) with
  |⟨none,a,b,c,d,_⟩=>.error (a,b,c,d)
  |⟨some cv,_,_,_,_,cQ⟩=>xq v an l (k+1) (layAll y.r y.g y.b y.al (AU v) cv 0 ts) cQ
def Nj(v:iZ)(an:Int)(y:pU)(l:List pU)(k:Nat)(ts:List jY):yZ→Except (Int×Int×Int×Int) (List jY)
 |⟨none,a,b,c,d,_⟩=>.error (a,b,c,d)
 |⟨some cv,_,_,_,_,cQ⟩=>xq v an l (k+1) (layAll y.r y.g y.b y.al (AU v) cv 0 ts) cQ
theorem ayG(v:iZ)(an:Int)(y:pU)(l:List pU)(k:Nat)(ts:List jY)(m:Int):xq v an (y::l) k ts m=Nj v an y l k ts (pV k v m (mV y.t.data.toList an)):=by unfold xq Nj;split<;>rfl
def uk(ak aq e1 al:Int)(cells:Int)(v:eV)(i:Nat):Nat→List jY→List jY
 |0,ts=>ts
 |n+1,ts=>(uk ak aq e1 al cells v i n ts).set (3 *i+n) (GG ((uk ak aq e1 al cells v i n ts).getD (3 *i+n) (0,0)) (if n=0 then ak else if n=1 then aq else e1) al v cells)
theorem Xo(ak aq e1 al:Int)(cells:Int)(v:eV)(i:Nat)(ts:List jY):∀n,(uk ak aq e1 al cells v i n ts).length=ts.length
 |0=>rfl
 |n+1=>by unfold uk;rw[Ln,Xo]
theorem Xp{ak aq e1 al cells:Int}{v:eV}{i:Nat}{ts:List jY}(h:y1 ts)(aQ:0≤ak∧ak≤255)(aa:0≤aq∧aq≤255)(ah:0≤e1∧e1≤255)(ha:0≤al∧al≤255)(aS:pT cells v)(hc:1≤cells):∀n,y1 (uk ak aq e1 al cells v i n ts)
 |0=>h
 |n+1=>by
  unfold uk;have k:=Xp (i:=i) h aQ aa ah ha aS hc n;refine atp k _ (ato (age k _) ?_ ha aS hc);split
  ·exact aQ
  ·split
   ·exact aa
   ·exact ah
theorem atH{m:Int}{f:List ec×Nat×Nat}{cv:List eV}{a b c d cQ:Int}(hm:0≤m)(h:pV k v m f=⟨some cv,a,b,c,d,cQ⟩):(∀c∈cv,pT (4^v.depth.toNat) c)∧cv.length=v.h.toNat *v.w.toNat∧0≤cQ∧cQ≤m:=by
 obtain⟨o,i,e⟩:=f;unfold pV at h;simp only at h;split at h
 ·simp at h
 ·split at h
  ·simp at h
  ·rename_i l m1 hr;simp only[yZ.mk.injEq,mv] at h;obtain⟨rfl,_,_,_,_,rfl⟩:=h;exact agc hm hr
theorem atI{m:Int}{f:List ec×Nat×Nat}{a b c d cQ:Int}(h:pV k v m f=⟨none,a,b,c,d,cQ⟩):d≠0:=by
 obtain⟨o,i,e⟩:=f;unfold pV at h;simp only at h;split at h
 ·rename_i he;simp only[yZ.mk.injEq] at h;obtain⟨_,_,_,_,rfl,_⟩:=h;omega
 ·split at h
  ·simp only[yZ.mk.injEq] at h;obtain⟨_,_,_,_,rfl,_⟩:=h;decide
  ·simp at h
def GI(w:bTo)(fz fJ:Int)(T:Except (Int×Int×Int×Int) (List jY))(e:Ending)(w':bTo):Prop:=Below w.heap.size w w'∧match T with
 |.error (a,b,c,d)=>e=bb (.tuple #[.agg #[I 0,I 0,ai false,ay 0],oC a b c d])
 |.ok ts=>∃q cp,e=bb (.tuple #[.agg #[I fz,I fJ,ai true,ad q ts.length cp],oC 0 0 0 0])∧w'.ownsRow w.heap.size 5 1 (ad q ts.length cp) ts.length (ts.map fun t=>.int .u8 (sk t))
def agw(an:Int)(ls:List pU):Prop:=∀y∈ls,y.yY=false∧yU y.t an∧∀x∈(mV y.t.data.toList an).1,Plain x.2∧qI x.2
end dE
