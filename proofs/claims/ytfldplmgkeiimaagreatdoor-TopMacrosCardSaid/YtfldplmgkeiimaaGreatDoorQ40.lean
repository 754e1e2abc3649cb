/- Lemmas. -/
import Derived.Test.YtfldplmgkeiimaaGreatDoorQ39
import Derived.ProofKit
set_option linter.all false
set_option maxRecDepth 100000
set_option maxHeartbeats 12800000
namespace Go.Proofs.YtfldplmgkeiimaaGreatDoor
namespace c4
open Go.RowKit dH
theorem Jn(n:Int):0≤bits BinOp.and IntKind.i64 n 255∧bits BinOp.and IntKind.i64 n 255≤255:=by rw[Bits.aj9];omega
theorem and_3(n:Int):0≤bits BinOp.and IntKind.i64 n 3∧bits BinOp.and IntKind.i64 n 3≤3:=by rw[Bits.aj8];omega
structure Jo(x y p w h d a b c:Int):Prop where
 x:-6400000≤x∧x≤6350000
 y:-6400000≤y∧y≤6350000
 p:∃n,1≤n∧n≤256∧p=n *40000 *2^d.toNat
 w:1≤w∧w≤4
 h:1≤h∧h≤4
 d:0≤d∧d≤3
 a:0≤a∧a≤255
 b:0≤b∧b≤255
 c:0≤c∧c≤255
abbrev avH(b:Nat)(x v:Int)(Z:aeo):Prop:=Calls Tryz.prog 34 #[I x,ah b 0] Z fun e w'=>e=ab (I v)∧w'=Z
theorem avI(p:Ja)(l:List Int)(c:Nat)(aA:l.length≤9223372036854775807)(w:aeo)(bn:af (yR w.heap.size w p l)):
  Calls Tryz.prog 15 #[dr,dr,ad p l.length c] w fun e w'=>Below w.heap.size w w'∧∃x y kH W H d bQ bU a7,Jo x y kH W H d bQ bU a7∧e=ab (.agg #[I x,I y,I kH,I W,I H,I d,dr,dr,I bQ,I bU,I a7,I 300,I 4000]):=by
 go_enter Tryz.func15,Tryz.ntmps15;go_upto_region 2 with fail;refine UR (P:=Code.wp _ _ _ _) fun W ay cr bL=>?_;have aO:=aq bL;have df:=aq cr;have DH:af (∀(k:Nat) (x:Int),x=(k:Int)→k≤1000→∀Z,ao W W Z→avH w.heap.size x (l.getD k 0) Z):=fun k x hx ax Z eG=>by rw[hx];exact avG k ax w.heap.size w.heap.size p l c aA Z (aq (bn.out.below (bL.trans (eG.mono bL.size)))) (cell_of (i:=0) (aU ay eG) rfl) _ (aq rfl)
 clear bL ay cr;have W5:=aq (DH.out 0 0 rfl (by decide) W (Below.refl _ _));have gq:=aq (DH.out 1 1 rfl (by decide) W (Below.refl _ _));have hW:=aq (DH.out 2 2 rfl (by decide) W (Below.refl _ _));have lK:=aq (DH.out 3 3 rfl (by decide) W (Below.refl _ _));generalize l.getD 0 0=v0 at W5;generalize l.getD 1 0=v1 at gq;generalize l.getD 2 0=v2 at hW;generalize l.getD 3 0=v3 at lK;have hd:=and_3 v0;have av:=Jn v1;have az:=and_3 v2;have aF:=and_3 v3;obtain⟨d,qb⟩:=ar (bits BinOp.and IntKind.i64 v0 3);obtain⟨dy,kg⟩:=ar (bits BinOp.and IntKind.i64 v1 255);obtain⟨eU,gS⟩:=ar (bits BinOp.and IntKind.i64 v2 3);obtain⟨n3,yf⟩:=ar (bits BinOp.and IntKind.i64 v3 3);rw[qb] at hd;rw[kg] at av;rw[gS] at az;rw[yf] at aF;have p7:1≤(2:Int)^ d.toNat∧(2:Int)^ d.toNat≤8:=by rcases (show d=0∨d=1∨d=2∨d=3 by omega) with rfl|rfl|rfl|rfl<;>decide
 obtain⟨kH,Bw⟩:=ar ((dy+1) *40000 *2^d.toNat);have avJ:wrap64 ((dy+1) *40000 *2^d.toNat)=kH:=by have bE:=JJ p7.2 (show 0≤(dy+1) *40000 by omega);have a2:=gW (show 0≤(dy+1) *40000 by omega) (show 0≤(2:Int)^ d.toNat by omega);rw[Bm _ (by omega)];exact Bw
 have avK:af (∃n,1≤n∧n≤256∧kH=n *40000 *2^d.toNat):=⟨dy+1,by omega,by omega,Bw.symm⟩;clear Bw p7;go_upto_region 4 with (first|(go_at_call 34;(first|(with_reducible refine W5.out.mono ?_)|(with_reducible refine gq.out.mono ?_)|(with_reducible refine hW.out.mono ?_)|(with_reducible refine lK.out.mono ?_));rintro e bY ⟨rfl,rfl⟩)|fail);have di:=aq (And.intro hd (And.intro az aF));clear avJ av qb kg gS yf W5 gq hW lK;refine LL (P:=Code.wp _ _ _ _) fun cm aH dA=>?_;have rm:=aq (DH.out 4 4 rfl (by decide) cm dA);have W6:=aq (DH.out 5 5 rfl (by decide) cm dA);have Mf:=aq dA;have bd:=aq aH;have ja:=aq (aU df.out dA);clear aH dA;generalize l.getD 4 0=v4 at rm;generalize l.getD 5 0=v5 at W6;have bk:=Jn v4;have b9:=Jn v5;obtain⟨n4,ahd⟩:=ar (bits BinOp.and IntKind.i64 v4 255);obtain⟨D8,ahe⟩:=ar (bits BinOp.and IntKind.i64 v5 255);rw[ahd] at bk;rw[ahe] at b9;obtain⟨fm,bW,cj,eb,gi,ju,fh,mb,iL,pM,yt,Q4,Jp⟩:=nt bd.out;have Gr:=cR bd.out;have Bl:=lt_of_heap bd.out;go_upto_region 5 with (first|(go_at_call 34;(first|(with_reducible refine rm.out.mono ?_)|(with_reducible refine W6.out.mono ?_));rintro e dp ⟨rfl,rfl⟩)|fail);refine ao1 (P:=Code.wp _ _ _ _) bd.out fun dt aH ax=>?_;have IC:=aq (ax.aZ Mf.out (bx _) Mf.out.size);have CA:af ((-6400000≤(n4-128) *50000∧(n4-128) *50000≤6350000)∧-6400000≤(D8-128) *50000∧(D8-128) *50000≤6350000):=by show _∧_;omega
 have xF:af (an dt bY.heap.size (#[I ((n4-128) *50000),I ((D8-128) *50000),I kH,I (eU+1),I (n3+1),I d,dr,dr,I 0,I 0,I 0,I 300,I 4000]) kX):=aH;have ahf:=aq (DH.out 9 9 rfl (by decide) dt IC.out);have G3:=aq (aU df.out IC.out);clear aH ax fm bW cj eb gi ju fh mb iL pM yt Q4 Jp Gr Bl bk b9 ahd ahe rm W6 ja bd DH;generalize (n4-128) *50000=x at CA xF;generalize (D8-128) *50000=y at CA xF;go_wp2_with fail
 go_loopw [10] (fun i wr=>i=I 0∧wr=dt) (fun _ _=>0)
 case atStart=>exact⟨rfl,rfl⟩
 case round=>
 obtain⟨rfl,rfl⟩:=hrel;go_wp2_with fail
 go_loopw [12] (fun i gy=>i=I 0∧gy=wr) (fun _ _=>0)
 case atStart=>exact⟨rfl,rfl⟩
 case round=>
 obtain⟨rfl,rfl⟩:=hrel;generalize l.getD 9 0=v9 at ahf;go_upto_region 15 with (first|(go_at_call 34;(with_reducible refine ahf.out.mono ?_);rintro e cA ⟨rfl,rfl⟩)|fail);obtain⟨fm,bW,cj,eb,gi,ju,fh,mb,iL,pM,yt,Q4,Jp⟩:=nt xF.out;have Gr:=cR xF.out;have Bl:=lt_of_heap xF.out;go_upto_region 16 with fail;refine ao2 (P:=Code.wp _ _ _ _) xF.out fun gO aH ax=>?_;have g0:=Jn v9;have g1:=Jn (v9/256);have g2:=Jn (v9/65536);have Me:=aq (ax.aZ IC.out (bx _) IC.out.size);have BN:=aq (aU df.out Me.out);generalize bits BinOp.and IntKind.i64 v9 255=bQ at g0 aH;generalize bits BinOp.and IntKind.i64 (v9/256) 255=bU at g1 aH;generalize bits BinOp.and IntKind.i64 (v9/65536) 255=a7 at g2 aH;have avL:af (an gO bY.heap.size (#[I x,I y,I kH,I (eU+1),I (n3+1),I d,dr,dr,I bQ,I bU,I a7,I 300,I 4000]) kX):=aH;have e0:af (Jo x y kH (eU+1) (n3+1) d bQ bU a7):=⟨CA.out.1,CA.out.2,avK.out,by have:=di.out;omega,by have:=di.out;omega,di.out.1,g0,g1,g2⟩;clear aH ax fm bW cj eb gi ju fh mb iL pM yt Q4 Jp Gr Bl g0 g1 g2;obtain⟨fm,bW,cj,eb,gi,ju,fh,mb,iL,pM,yt,Q4,Jp⟩:=nt avL.out;obtain⟨gZ,fM,kO,p5,tc,td,p6,uG,uH,lC,ay6,ay7,ay8⟩:=nt BN.out;have ay9:=cR BN.out;go_wp2_with fail;refine qi (P:=bodyPost _ _ _ _ _) [I x,I y,I kH,I (eU+1),I (n3+1),I d,dr,dr,I bQ,I bU,I a7,I 300,I 4000] BN.out rfl fun et g5 g6=>?_;exact dC (pD rfl _ _ (w.heap.size+1) _ _ _ _ rfl g5 Tryz.underlying32 rfl (by kernel_rfl)) rfl ⟨g6.aZ (aO.out.trans (Me.out.mono aO.out.size)) (by omega) (dB aO.out.size Me.out.size),_,_,_,_,_,_,_,_,_,e0.out,rfl⟩
end c4
namespace c4
open Go.RowKit dH
open Go.ChangeShapes Go.WideShapes Go.ChangeAt Go.WideMaps Go.WideElems
abbrev hH(v:Nat):ByteArray:=⟨(fN v).toArray⟩
theorem Na{S T:Ua}(h:S.data.toList=T.data.toList):S=T:=by cases S;cases T;exact fK ByteArray.mk (Array.ext' h)
theorem DI(S T:Ua):(S++T).data.toList=S.data.toList++T.data.toList:=by simp
variable{w:aeo}
theorem avM{a:Addr}{u:ada}(h:w.cell? a=some u):a.block<w.heap.size:=by
 rcases RY a.block w.heap.size with e3|e3
 ·exact e3
 ·simp[World.cell?,D4 e3] at h
theorem ahg{H:Type}{enc:TypeId×Value→H}{P:Program}{r:Reach}{cy:Nat}{t e:aai}(bB:P.underlying t=some (.slice e))(he:P.underlying e=some (.int .i64))(hc:P.cellsOf e=1){W:aeo}{v:ada}{d:DataW H}{p:List MemPlace}
  (aS:Value.okWide P W r cy t v) (h:DataW.Trod enc P W 0 (fun _=>true) true t v d p):
  ∃(a:Ja) (cap:Nat) (l:List Int),v=ad a l.length cap∧l.length≤cap∧cap≤maxLen∧yR W.heap.size W a l:=by
 obtain⟨a,len,cap,rfl⟩:=okWide_slice bB aS;obtain⟨fuel,hf⟩:=h;have jo:(Value.slice a len cap).cells.toList=[ad a len cap]:=by simp[Value.cells]
 rw[jo] at hf;rcases open_ints bB he hc hf with ⟨gm,_⟩|⟨hq,Nb,mn,AP,gm,_,aA,hm,bn,_,p2,Hz⟩
 ·simp only[Hr,Ku] at gm;exact⟨none,0,[],gm,bx _,eE _,fun h=>absurd h (oP _)⟩
 ·simp only[Hr,Ku] at gm;simp only[sZ] at bn;have hlen:(AP.take Nb).length=Nb:=(by simp;omega);refine⟨some hq,mn,AP.take Nb,by rw[hlen];exact gm,by omega,hm,fun aT=>?_⟩;have F3:∀i (h:i<(AP.take Nb).length),W.cell? (hq.add i)=some (I (AP.take Nb)[i]):=(by intro i h;rw[p2 i (by omega)];have:i<AP.length:=(by omega);simp[List.getD,this]);obtain⟨b,o,q⟩:=hq;cases q with
  | none=>exact ⟨b,o,rfl,by have:=avM (F3 0 aT);simpa[Addr.add] using this,fun i h=>by
    have:=F3 i h;by_cases aT:i=0
    ·subst aT;simpa[Addr.add] using this
    ·simpa[Addr.add,aT] using this⟩
  |some q=>
   exfalso;have:=F3 0 aT;simp only[World.cell?,Addr.add,sZ] at this;split at this<;>simp at this
theorem BJ.ahh{l:List eM}{a b c d m:Int}{e:Ending}{w':aeo}(h:BJ w ⟨some l,a,b,c,d,m⟩ e w'):∃sv,e=ab (.tuple #[sv,oF 0 0 0 0])∧Jb (fun k=>w.heap.size≤k) w' sv l:=h.2
theorem ahi{B g n c:Nat}{l:List eM}(h:w.ownsRow B oE 2 (ag g 0 n c) n (iM l))(hn:n=l.length){k:Nat}(ax:k<l.length):ak w g (k *2) (I l[k].1)∧ak w g (k *2+1) (I l[k].2):=by obtain⟨av,az⟩:=QT ax;exact⟨(h.cellAt (k *2) (by omega)).trans av,(h.cellAt (k *2+1) (by omega)).trans az⟩
theorem Jo.view{x y p w h d a b c:Int}(H:Jo x y p w h d a b c):pZ ⟨x,y,p,w,h,d⟩=true∧0<p:=by
 obtain⟨⟨av,az⟩,⟨aF,bk⟩,⟨n,b9,cW,eN⟩,⟨ff,hJ⟩,⟨g1,g2⟩,⟨g3,g4⟩,_,_,_⟩:=H;have p7:1≤(2:Int)^ d.toNat∧(2:Int)^ d.toNat≤8:=by rcases (show d=0∨d=1∨d=2∨d=3 by omega) with rfl|rfl|rfl|rfl<;>decide
 have bE:=JJ p7.2 (show 0≤n *40000 by omega);have a2:=JJ p7.1 (show 0≤n *40000 by omega);have hm:p%2^d.toNat=0:=by rw[eN];exact Int.mul_emod_left _ _
 have hp:40000≤p∧p≤81920000:=by rw[eN];omega
 have m1:w *p≤4 *81920000:=MA hJ hp.2 (by omega) (by decide);have m2:h *p≤4 *81920000:=MA g2 hp.2 (by omega) (by decide);have m3:0≤w *p:=gW (by omega) (by omega);have m4:0≤h *p:=gW (by omega) (by omega);refine⟨?_,by omega⟩;unfold pZ;simp only;rw[aR (by omega),aR (by rw[hm];omega),aR (by omega),aR (by omega)];simp only[okB,sP,ix,iO];omega
end c4
namespace uy
open dH bS c4
open gT (eW)
variable{bu:Int}{l:List cz}{x y:Nat}
variable{p:cz}
theorem avN(h:p.e7):s4 (GZ p):=by
 have av:=h.w;have az:=h.h;unfold GZ;split
 ·exact YB (by omega) (by decide)
 ·exact YC (by unfold ka;omega)
theorem avO{x y:Nat}:k1 {h1 with eL:=(1000 *((x+10000 *p.a:Nat):Int),1000 *((y+10000 *p.b:Nat):Int))} (GZ p)=cz.cF (1000 *x) (1000 *y) p:=by
 unfold GZ cz.cF;split
 ·rw[Yx]
  congr 1
  simp only[fS];omega
 ·rw[Yy]
  congr 2
  unfold lX;simp only[Hr,fS,Ku];omega
theorem avP{ms:List jz}{ap:Int→Option ks}{pk:Int}{at_:bK}{os:List dx}{m:Int}{i:Nat}(h:p.e7)(hx:x<4096)(hy:y<4096)(ha:ap (20+i)=some (uA p))(hm:m<min (max bu 0) 100000)(r:List C)(k:Nat):lr ((uz i).2::(jk (fN (x+10000 *p.a)) (fN (y+10000 *p.b)) 51).2::r) k (fO bu ms ap pk at_ os m)=lr r (k+1+1) (fO bu ms ap (20+i) (1000 *((x+10000 *p.a:Nat):Int),1000 *((y+10000 *p.b:Nat):Int)) (os++[(true,gX (cz.cF (1000 *x) (1000 *y) p))]) (m+1)):=by have aF:=h.a;have bk:=h.b;have hs:=GP h (rg hx hy);rw[Au (show j' _ (uz i).2=_ from Zb (n:=20+i) (by rw[ha];rfl)),Au (Zc (a:=uA p) (by omega) (by omega) ha rfl (YA avO (avN h) hs) hs.ok hm)]
theorem ahj{ms:List jz}{ap:Int→Option ks}(hx:x<4096)(hy:y<4096):∀(l:List cz) (i k:Nat) (pk:Int) (at_:bK) (os:List dx) (m:Int) (r:List C),(∀p∈l,p.e7)→(∀(j:Nat) p,l[j]?=some p→ap (20+((i+j:Nat):Int))=some (uA p))→m+l.length≤min (max bu 0) 100000→∃Q5 at',lr ((mW x y i l).map Prod.snd++r) k (fO bu ms ap pk at_ os m)=lr r (k+2 *l.length) (fO bu ms ap Q5 at' (os++vq x y l) (m+l.length))
 |[],i,k,pk,at_,os,m,r,_,_,_=>⟨pk,at_,by simp[mW,vq]⟩
 |p::l,i,k,pk,at_,os,m,r,h,ha,hm=>by simp only[eP] at hm;have e:=avP (bu:=bu) (ms:=ms) (pk:=pk) (at_:=at_) (os:=os) (h p (by simp)) hx hy (i:=i) (ha 0 p rfl) (m:=m) (by omega) ((mW x y (i+1) l).map Prod.snd++r) k;obtain⟨Q5,at',a6⟩:=ahj hx hy l (i+1) (k+1+1) (20+i) (1000 *((x+10000 *p.a:Nat):Int),1000 *((y+10000 *p.b:Nat):Int)) (os++[(true,gX (cz.cF (1000 *x) (1000 *y) p))]) (m+1) r (fun q aH=>h q (by simp[aH])) (fun j q aH=>by have:=ha (j+1) q (by simpa using aH);rw[show i+(j+1)=i+1+j by omega] at this;exact this) (by omega);refine⟨Q5,at',?_⟩;show lr ((uz i).2::(jk (fN (x+10000 *p.a)) (fN (y+10000 *p.b)) 51).2::((mW x y (i+1) l).map Prod.snd++r)) k _=_;rw[e,a6,eP];have ch:vq x y (p::l)=(true,gX (cz.cF (1000 *x) (1000 *y) p))::vq x y l:=rfl;rw[ch,List.append_assoc,show k+1+1+2 *l.length=k+2 *(l.length+1) by omega,show m+1+(l.length:Int)=m+((l.length+1:Nat):Int) by omega];rfl
theorem avQ(ay:100≤bu)(hx:x<4096)(hy:y<4096)(h:∀p∈l,p.e7)(aA:l.length≤6):xn ((vZ x y l).map Prod.snd) bu=(vq x y l,0,0):=by
 have e:(vZ x y l).map Prod.snd=(head l).map Prod.snd++(jC.2::((mW x y 0 l).map Prod.snd++[b4 5])):=by unfold vZ;rw[nb,oH,nb];rfl
 unfold xn;obtain⟨Q5,at',a6⟩:=ahj (bu:=bu) (ms:=IS l) (ap:=aeq l) hx hy l 0 (3+l.length+1) 0 (0,0) [] 0 [b4 5] h (fun j p cr=>by have av:=Y' l 0 (fun _=>none) j p cr;unfold aeq za;rw[aR (by omega)];exact av) (by omega);rw[e,VH h,Au (Za (aep l) (VG h aA)),a6,aer];rfl
theorem ahk:∀{l r:List C} {p q:cH} {i:Nat},(∀c∈l,Mj c)→lr l i p=.ok q→qQ r q→qQ (l++r) p
 |[],r,p,q,i,_,h,hr=>by have e:p=q:=(by injection h);rw[e];exact hr
 |c::l,r,p,q,i,hc,h,hr=>by refine⟨fun ax w0 Z B nq mK hn=>hc c (by simp) ax w0 Z B nq mK _ _ hn,fun iH aH=>?_⟩;have az:lr l (i+1) iH=.ok q:=(by rw[←h,Au aH]);exact ahk (fun d hd=>hc d (by simp[hd])) az hr
theorem avR{p:cH}{s:dK}{r:List C}(h:∀p∈l,p.e7)(aA:l.length≤6)(hu:p.unit=1)(hm:p.fB=IS l)(hr:∀c∈r,Mj c):qQ (jC.2::r) p:=by refine⟨fun ax w0 Z B nq mK hn VY eK bD ay d' Bs tY=>?_,fun q _=>qQ.of q hr⟩;rw[hu];rw[hm] at d' Bs⊢;rw[show j9 jC.2.t jC.2.b6 1 (IS l)=.ok (Ml l,0) from VG h aA];have e:=aqu (l.map yB) (aen h) (by rw[e6];exact aA) nq mK eK bD w0.heap.size w0 VY d' (by rw[aem];exact Bs) tY;rw[VF] at e;exact e
theorem ahl(h:∀p∈l,p.e7)(aA:l.length≤6):∀z∈head l,qS z.2=true:=by
 have key:∀(l:List cz) (i:Nat),∀z∈n8 i l,(∀p∈l,p.e7)→qS z.2=true:=by
  intro l
  induction l with
  |nil=>intro i z bn _;cases bn
  |cons p l cT=>
   intro i z bn h;rcases List.mem_cons.1 bn with rfl|bn
   ·have av:=(h p (by simp)).w;have az:=(h p (by simp)).h;have dy:-4611686018427387904≤ku p.w∧ku p.w≤4611686018427387904:=(by unfold ku;omega);have eU:-4611686018427387904≤ku p.h∧ku p.h≤4611686018427387904:=(by unfold ku;omega);unfold mV py D7;split<;>simp[qS,b4,aN,yz,dy,eU,VX]
   ·exact cT (i+1) z bn fun q aH=>h q (by simp[aH])
 intro z bn;unfold head at bn;rcases List.mem_append.1 bn with bn|bn
 ·exact List.all_eq_true.1 (show D9.all (fun z=>qS z.2)=true by decide+kernel) z bn
 ·rcases List.mem_cons.1 bn with rfl|bn
  ·simp[rP,qS,b4,aN,yz]
  ·exact key l 0 z bn h
theorem ahm{x y:Nat}(hx:x<500000)(hy:y<500000):qS (jk (fN x) (fN y) 51).2=true:=by
 have av:(fN x).length≤1000000:=by have:=(Ce (v:=x) (by omega)).2;omega
 have az:(fN y).length≤1000000:=by have:=(Ce (v:=y) (by omega)).2;omega
 have aF:sT [68,48,51]=3:=by decide+kernel
 simp[jk,qS,b4,aN,av,az,aF,yz]
theorem ahn(hx:x<4096)(hy:y<4096):∀(l:List cz) (i:Nat),(∀p∈l,p.e7)→∀z∈mW x y i l,qS z.2=true
 |[],_,_,z,bn=>by cases bn
 |p::l,i,h,z,bn=>by
  have aF:=(h p (by simp)).a;have bk:=(h p (by simp)).b;rcases List.mem_cons.1 bn with rfl|bn
  ·simp[uz,xy,qS,b4,aN,yz]
  ·rcases List.mem_cons.1 bn with rfl|bn
   ·exact ahm (by omega) (by omega)
   ·exact ahn hx hy l (i+1) (fun q aH=>h q (by simp[aH])) z bn
theorem avS:qS d10.2=true:=by decide+kernel
theorem aho:qS s5.2=true:=by decide+kernel
theorem avT:Dl jC.2:=⟨by decide,by decide,by decide,fun i=>by
 have e:nk jC.2.x jC.2.y jC.2.i jC.2.j i=[]:=by unfold nk;split<;>rfl
 rw[e];decide⟩
theorem ahp{xs:List (gv×C)}(h:∀z∈xs,qS z.2=true):∀c∈xs.map Prod.snd,Mj c:=fun c hc=>by obtain⟨z,bn,rfl⟩:=List.mem_map.1 hc;exact (Mx (h z bn)).2
theorem ahq{r:List (gv×C)}(h:∀p∈l,p.e7)(aA:l.length≤6)(hr:∀z∈r,qS z.2=true):(∀c∈(head l++(jC::r)).map Prod.snd,Dl c)∧qQ ((head l++(jC::r)).map Prod.snd) (qZ bu):=by
 refine⟨fun c hc=>?_,?_⟩
 ·obtain⟨z,bn,rfl⟩:=List.mem_map.1 hc;rcases List.mem_append.1 bn with bn|bn
  ·exact (Mx (ahl h aA z bn)).1
  ·rcases List.mem_cons.1 bn with rfl|bn
   ·exact avT
   ·exact (Mx (hr z bn)).1
 ·rw[nb];have e:=VH (bu:=bu) h [];rw[List.append_nil] at e;exact ahk (ahp (ahl h aA)) e (avR (s:=Rt) h aA rfl rfl (ahp hr))
theorem avU{z:gv×C}(h:mm z.1 z.2):z.1.t.length≤10004 *(1+z.1.ep.length):=by
 have av:=h.1.2.2
 have hs:∀ep:List (List UInt8),(∀q∈ep,GO q)→(nx ep).length≤10001 *ep.length:=by
  intro ep
  induction ep with
  |nil=>intro _;simp[nx]
  |cons q ep cT=>
   intro aH;have:=cT fun iH e3=>aH iH (by simp[e3]);have az:=(aH q (by simp)).2.2;have e:nx (q::ep)=(q++[42])++nx ep:=rfl;rw[e];simp only[hl,eP,rC];omega
 have:=hs z.1.ep h.2.1;unfold gv.t;split<;>simp only[hl,eP,rC]<;>omega
theorem W7:∀xs:List (gv×C),(∀z∈xs,mm z.1 z.2)→(h3 xs).length≤10004 *h4 xs
 |[],_=>by simp[h3]
 |z::xs,h=>by have av:=avU (h z (by simp));have az:=W7 xs fun q aH=>h q (by simp[aH]);have e:h3 (z::xs)=z.1.t++h3 xs:=rfl;have a6:h4 (z::xs)=1+z.1.ep.length+h4 xs:=(by simp[h4]);rw[e,a6,hl];omega
theorem Q6(x y:List (gv×C)):h4 (x++y)=h4 x+h4 y:=by simp[h4]
theorem BO(x y:List (gv×C)):h3 (x++y)=h3 x++h3 y:=by simp[h3]
theorem ahr:∀(l:List cz) (i:Nat),h4 (n8 i l)=l.length
 |[],_=>rfl
 |p::l,i=>by have e:h4 (n8 i (p::l))=1+h4 (n8 (i+1) l):=(by simp[h4,n8,mV,py]);rw[e,ahr l (i+1),eP];omega
theorem ahs:∀(l:List cz) (i:Nat),h4 (mW x y i l)=2 *l.length
 |[],_=>rfl
 |p::l,i=>by have e:h4 (mW x y i (p::l))=1+(1+h4 (mW x y (i+1) l)):=(by simp[h4,mW,uz,xy,jk]);rw[e,ahs l (i+1),eP];omega
theorem aht:h4 (head l)=3+2 *l.length:=by
 unfold head;rw[Q6];have e:h4 (rP l::n8 0 l)=1+l.length+h4 (n8 0 l):=by simp[h4,rP]
 rw[e,ahr,show h4 D9=2 from rfl];omega
theorem ahu:h4 (vY x y l)=7+2 *l.length:=by unfold vY;rw[Q6,aht];show _+4=_;omega
theorem Hq:h4 (vZ x y l)=5+4 *l.length:=by
 unfold vZ;rw[Q6,aht];have e:h4 (jC::(mW x y 0 l++[s5]))=1+h4 (mW x y 0 l++[s5]):=by simp[h4,jC,py]
 rw[e,Q6,ahs,show h4 [s5]=1 from rfl];omega
theorem ahv:∀xs:List (gv×C),xs.length≤h4 xs
 |[]=>bx _
 |z::xs=>by have:=ahv xs;have a6:h4 (z::xs)=1+z.1.ep.length+h4 xs:=(by simp[h4]);rw[a6,eP];omega
theorem ahw{xs:List (gv×C)}{S:Ua}{b:Int}(hS:S.data.toList=h3 xs)(h:∀z∈xs,mm z.1 z.2)(hc:h4 xs≤40)(ax:(∀c∈xs.map Prod.snd,Dl c)∧qQ (xs.map Prod.snd) (qZ b)):w5 S b:=by
 have aA:=W7 xs h;obtain⟨l,av,az⟩:=Yo xs h (by omega) (by omega);have uY:l.length=xs.length:=by simpa using fK List.length az
 have FC:=ahv xs;have gK:S.size≤1000000:=by have:S.data.toList.length=S.size:=(by rw[Array.length_toList];rfl);rw[←this,hS];omega
 unfold w5;rw[hS,av];simp only;rw[az];refine⟨gK,⟨fun x hx=>ax.1 x.2 ?_,ax.2⟩,by omega⟩;rw[←az];exact List.mem_map_of_mem hx
theorem ahx{xs:List (gv×C)}{b:Int}{o:List dx}(h:∀z∈xs,mm z.1 z.2)(hc:h4 xs≤40)(hp:xn (xs.map Prod.snd) b=(o,0,0)):mQ (h3 xs) b=(o,0,0):=by obtain⟨l,av,az⟩:=Yo xs h (by omega) (by have:=W7 xs h;omega);unfold mQ;rw[av];simp only;rw[aR (by decide),az,hp];rfl
variable{S:Ua}
theorem avV(hx:x<4096)(hy:y<4096)(h:∀p∈l,p.e7)(aA:l.length≤6)(hS:S.data.toList=h3 (vY x y l))(bu:Int):w5 S bu:=by
 refine ahw hS (Y4 hx hy h aA) (by rw[ahu];omega) (ahq h aA fun z bn=>?_);simp only[vU,vV,uj] at bn;rcases bn with rfl|rfl|rfl
 ·exact avS
 ·exact ahm (by omega) (by omega)
 ·exact aho
theorem ahy(hx:x<4096)(hy:y<4096)(h:∀p∈l,p.e7)(aA:l.length≤6)(hS:S.data.toList=h3 (vZ x y l))(bu:Int):w5 S bu:=by
 refine ahw hS (Y5 hx hy h aA) (by rw[Hq];omega) (ahq h aA fun z bn=>?_);rcases List.mem_append.1 bn with bn|bn
 ·exact ahn hx hy l 0 h z bn
 ·rw[List.mem_singleton.1 bn];exact aho
theorem avW(ay:100≤bu)(hx:x<4096)(hy:y<4096)(h:∀p∈l,p.e7)(aA:l.length≤6):mQ (h3 (vY x y l)) bu=(IU x y l,0,0):=ahx (Y4 hx hy h aA) (by rw[ahu];omega) (arX (by omega) hx hy h aA)
theorem QA(ay:100≤bu)(hx:x<4096)(hy:y<4096)(h:∀p∈l,p.e7)(aA:l.length≤6):mQ (h3 (vZ x y l)) bu=(vq x y l,0,0):=ahx (Y5 hx hy h aA) (by rw[Hq];omega) (avQ ay hx hy h aA)
theorem ahz(p:cz)(x y:Int):∀c∈(cz.cF x y p).l,0<c.length:=by
 unfold cz.cF;split
 ·intro c hc;simp[k4,gu] at hc
 ·intro c hc;simp only[j8,Rj] at hc;rw[hc];simp[lX]
theorem ahA:∀(l:List cJ),(∀b∈l,∀c∈b.l,0<c.length)→KP (ft l)
 |[],_=>trivial
 |b::l,h=>⟨h b (by simp),trivial,ahA l fun c hc=>h c (by simp[hc])⟩
theorem ahB(p:cz)(x y:Int):xO (cz.cF x y p):=by unfold cz.cF xO;split<;>(simp only[k4,j8,gu];omega)
theorem ahC:∀(l:List cJ),(∀b∈l,xO b)→ti (ft l)
 |[],_=>trivial
 |b::l,h=>⟨h b (by simp),trivial,ahC l fun c hc=>h c (by simp[hc])⟩
theorem ahD:∀(l:List cJ),(ft l).count=l.length
 |[]=>rfl
 |b::l=>by show 0+(ft l).count+1=_;rw[ahD l,eP];omega
theorem avX(aA:l.length≤6):∀o∈IU x y l,Plain o.2∧qE o.2:=by
 intro o bl;unfold IU at bl;rw[List.mem_singleton.1 bl];refine⟨⟨⟨by simp[ew,gu],ahA _ fun b ay=>?_⟩,?_⟩,⟨by unfold xO ew;simp only[gu];omega,ahC _ fun b ay=>?_⟩⟩
 ·obtain⟨p,_,rfl⟩:=List.mem_map.1 ay;exact ahz p _ _
 ·show (ft _).count≤_;rw[ahD,e6];omega
 ·obtain⟨p,_,rfl⟩:=List.mem_map.1 ay;exact ahB p _ _
theorem avY:∀o∈vq x y l,Plain o.2∧qE o.2:=by intro o bl;unfold vq at bl;obtain⟨p,_,rfl⟩:=List.mem_map.1 bl;exact⟨⟨⟨ahz p _ _,trivial⟩,eE _⟩,ahB p _ _,trivial⟩
theorem avZ(hx:x<4096)(hy:y<4096)(h:∀p∈l,p.e7)(aA:l.length≤6){cM cN p w e3 pj bQ bU a7:Int}(H:Jo cM cN p w e3 pj bQ bU a7):∃(r:List eM) (m:Int),r.length≤1000000∧(∀k,pR k ⟨cM,cN,p,w,e3,pj⟩ 100000 (IU x y l,0,0)=⟨some r,0,0,0,0,m⟩)∧∀k,pR k ⟨cM,cN,p,w,e3,pj⟩ 100000 (vq x y l,0,0)=⟨some r,0,0,0,0,m⟩:=by
 have hw:=H.w;have aJ:=H.h;have hd:=H.d;have hc:cost pj.toNat≤85:=by rcases (show pj.toNat=0∨pj.toNat=1∨pj.toNat=2∨pj.toNat=3 by omega) with e|e|e|e<;>rw[e]<;>decide
 have aT:=JO pj.toNat;have av:(w.toNat:Int) *cost pj.toNat≤4 *85:=MA (by omega) hc (by omega) (by decide);have az:0≤(w.toNat:Int) *cost pj.toNat:=gW (by omega) (by omega);have aF:(e3.toNat:Int) *((w.toNat:Int) *cost pj.toNat)≤4 *(4 *85):=MA (by omega) av az (by decide);obtain⟨r,m,hr⟩:=aja (IU x y l) ⟨cM,cN,p,w,e3,pj⟩ 100000 (by simp only;omega);have su:sX (vq x y l) ⟨cM,cN,p,w,e3,pj⟩ 100000=(some r,m):=by rw[←hr];exact (ajE h aA (rg hx hy) H.view.2 (by simp only;omega) 100000).symm
 have hlen:=(XU (by decide) hr).2.1;simp only at hlen;have hm:e3.toNat *w.toNat≤4 *4:=Wc (by omega) (by omega);refine⟨r,m,by omega,fun k=>?_,fun k=>?_⟩
 ·unfold pR;simp only;rw[aR (by decide),hr]
 ·unfold pR;simp only;rw[aR (by decide),su]
end uy
namespace c4
open Go.RowKit dH uy
open bS (h3 cz dg nx gv C rP)
theorem BP(v:Nat)(aS:v<500000)(x:Int)(hx:x=(v:Int))(w:aeo):Calls Tryz.prog 18 #[I x] w fun e w'=>e=ab (aa (hH v))∧w'=w:=by
 have bz:=aq (px.aj6 v 1 1 rfl (by decide) x (aq hx) (by omega) (by omega) (hH v) (aq rfl));generalize hH v=S at bz⊢;clear hx aS;go_enter Tryz.func18,Tryz.ntmps18;go_wp2_with fail;with_reducible refine (bz.out _).mono ?_
 rintro e bY ⟨rfl,rfl⟩;go_wp2_with fail;go_ret;exact⟨rfl,rfl⟩
def z'(v:Int):cz:=⟨decide (v%2=0),(v/16%8+1).toNat,(v/256%8+1).toNat,(v/4096%8).toNat,(v/65536%8).toNat⟩
theorem ahE(v:Int):(z' v).e7:=by refine⟨?_,?_,?_,?_⟩<;>(unfold z';simp only;omega)
def xc(l:List Int)(k:Nat):List cz:=(l.take k).map z'
theorem av0(l:List Int)(k:Nat):∀p∈xc l k,p.e7:=fun p hp=>by obtain⟨v,_,rfl⟩:=List.mem_map.1 hp;exact ahE v
theorem ahF{l:List Int}{k:Nat}(h:k≤l.length):(xc l k).length=k:=by unfold xc;rw[e6,kj];omega
theorem av1{l:List Int}{k:Nat}(h:k<l.length):xc l (k+1)=xc l k++[z' l[k]]:=by unfold xc;rw[P2,nb,l8 h];rfl
abbrev hP(l:au):ByteArray:=⟨l.toArray⟩
def BQ(ps:List cz):ByteArray:=hP ([37,65,77,84,42] ++nx (ps.map cz.t))
def BR(ps:List cz):ByteArray:=hP (h3 (n8 0 ps))
def Jq(x y:Nat)(ps:List cz):ByteArray:=hP (h3 (mW x y 0 ps))
theorem Aa{v:Nat}(h:v<9):fN v=[dg v]:=by rcases (show v=0∨v=1∨v=2∨v=3∨v=4∨v=5∨v=6∨v=7∨v=8 by omega) with rfl|rfl|rfl|rfl|rfl|rfl|rfl|rfl|rfl<;>decide+kernel
theorem W8{i:Nat}(h:i<6):fN (20+i)=[50,dg i]:=by rcases (show i=0∨i=1∨i=2∨i=3∨i=4∨i=5 by omega) with rfl|rfl|rfl|rfl|rfl|rfl<;>decide+kernel
theorem W9:∀(l:List cz) (i:Nat) (p:cz),n8 i (l++[p])=n8 i l++[mV (i+l.length) p]
 |[],i,p=>rfl
 |q::l,i,p=>by show mV i q::n8 (i+1) (l++[p])=mV i q::(n8 (i+1) l++[mV (i+(l.length+1)) p]);rw[W9 l (i+1) p,show i+1+l.length=i+(l.length+1) by omega]
theorem ahG(x y:Nat):∀(l:List cz) (i:Nat) (p:cz),mW x y i (l++[p])=mW x y i l++[uz (i+l.length),jk (fN (x+10000 *p.a)) (fN (y+10000 *p.b)) 51]
 |[],i,p=>rfl
 |q::l,i,p=>by show uz i::jk _ _ 51::mW x y (i+1) (l++[p])=uz i::jk _ _ 51::(mW x y (i+1) l++[uz (i+(l.length+1)),_]);rw[ahG x y l (i+1) p,show i+1+l.length=i+(l.length+1) by omega]
theorem ahH(a b:List (List UInt8)):nx (a++b)=nx a++nx b:=by simp[nx]
variable{ps:List cz}{p:cz}{i:Nat}
theorem av2(h:p.e7)(hd:p.d=true):BQ (ps++[p])=((((((BQ ps++hP [49,44,49,44])++hH p.w)++hP [44])++hH p.a)++hP [44])++hH p.b)++hP [42]:=by have av:=h.w;have aF:=h.a;have bk:=h.b;refine Na ?_;unfold BQ;rw[nb,ahH];simp only[DI];simp[nx,cz.t,bS.cz.t,hd,bS.D0,Aa (show p.w<9 by omega),Aa (show p.a<9 by omega),Aa (show p.b<9 by omega)]
theorem av3(h:p.e7)(hd:p.d=false):BQ (ps++[p])=((((((((BQ ps++hP [50,49,44,49,44])++hH p.w)++hP [44])++hH p.h)++hP [44])++hH p.a)++hP [44])++hH p.b)++hP [44,48,42]:=by have av:=h.w;have az:=h.h;have aF:=h.a;have bk:=h.b;refine Na ?_;unfold BQ;rw[nb,ahH];simp only[DI];simp[nx,cz.t,bS.cz.t,hd,bS.D1,Aa (show p.w<9 by omega),Aa (show p.h<9 by omega),Aa (show p.a<9 by omega),Aa (show p.b<9 by omega)]
theorem av4(h:p.e7)(hd:p.d=true)(hi:ps.length=i)(cW:i<6):BR (ps++[p])=((((BR ps++hP [37,65,68,68])++hH (20+i))++hP [67,44])++hH p.w)++hP [42,37]:=by have av:=h.w;refine Na ?_;unfold BR;rw[W9,BO,hi,kr];simp only[DI];simp[h3,mV,NS,py,bS.gv.t,nx,hd,W8 cW,Aa (show p.w<9 by omega)]
theorem av5(h:p.e7)(hd:p.d=false)(hi:ps.length=i)(cW:i<6):BR (ps++[p])=((((((BR ps++hP [37,65,68,68])++hH (20+i))++hP [82,44])++hH p.w)++hP [88])++hH p.h)++hP [42,37]:=by have av:=h.w;have az:=h.h;refine Na ?_;unfold BR;rw[W9,BO,hi,kr];simp only[DI];simp[h3,mV,NS,py,bS.gv.t,nx,hd,W8 cW,Aa (show p.w<9 by omega),Aa (show p.h<9 by omega)]
variable{x y:Nat}
theorem av6(h:p.e7)(hx:x<4096)(hy:y<4096)(hi:ps.length=i)(cW:i<6):Jq x y (ps++[p])=((((((Jq x y ps++hP [68])++hH (20+i))++hP [42,88])++hH (x+10000 *p.a))++hP [89])++hH (y+10000 *p.b))++hP [68,48,51,42]:=by have aF:=h.a;have bk:=h.b;have dy:=GY (v:=x+10000 *p.a) (by omega);have eU:=GY (v:=y+10000 *p.b) (by omega);refine Na ?_;unfold Jq;rw[ahG,BO,hi,kr];simp only[DI];simp[h3,uz,xy,jk,ux,bS.gv.t,W8 cW,dy,eU]
def Q7(ps:List cz):ByteArray:=(((hP [37,70,83,76,65,88,50,52,89,50,52,42,37,37,77,79,77,77,42,37] ++BQ ps)++hP [37])++BR ps)++hP [37,65,68,68,49,48,84,42,37]
theorem ahI(ps:List cz):(Q7 ps).data.toList=h3 (head ps++[jC]):=by unfold Q7 head;rw[BO,BO,show rP ps::n8 0 ps=[rP ps] ++n8 0 ps from rfl,BO];simp only[DI];simp[BQ,BR,h3,D9,rP,jC,py,bS.gv.t,nx]
theorem av7(hx:x<4096)(hy:y<4096):(((((Q7 ps++hP [68,49,48,42,88])++hH x)++hP [89])++hH y)++hP [68,48,51,42,77,48,50,42]).data.toList=h3 (vY x y ps):=by have dy:=GY (v:=x) (by omega);have eU:=GY (v:=y) (by omega);unfold vY;rw[show head ps++jC::[d10,jk (fN x) (fN y) 51,s5]=(head ps++[jC])++[d10,jk (fN x) (fN y) 51,s5] by simp,BO,←ahI];simp only[DI];simp[h3,d10,s5,xy,jk,ux,bS.gv.t,dy,eU]
theorem av8:((Q7 ps++Jq x y ps)++hP [77,48,50,42]).data.toList=h3 (vZ x y ps):=by unfold vZ;rw[show head ps++jC::(mW x y 0 ps++[s5])=(head ps++[jC])++(mW x y 0 ps++[s5]) by simp,BO (head ps++[jC]),BO (mW x y 0 ps),←ahI];simp only[DI];simp[Jq,h3,s5,xy,bS.gv.t]
end c4
namespace TopMacros
open Go.ChangeShapes Go.WideShapes Go.ChangeAt Go.WideMaps Go.WideElems Go.RowKit
open dH c4 uy
open bS (h3 cz)
abbrev lay(pT mI:Ua):Array Value:= #[aa pT,I 255,I 0,I 0,I 255,U false,aa mI,I 255,I 0,I 0,I 255,U false]
theorem ahJ{w:aeo}{k:Nat}{pT mI:Ua}(h:an w k (lay pT mI) mh):ua (fun _=>True) w (some (aj k 0)) [⟨pT,255,0,0,255,false⟩,⟨mI,255,0,0,255,false⟩]:=by refine⟨by show 2≤1000000000;decide,fun _=>⟨k,0,_,rfl,trivial,h,fun i hi=>?_⟩⟩;have acS:i<2:=hi;rcases (show i=0∨i=1 by omega) with rfl|rfl<;>rfl
theorem ahK{x y p w h d a b c:Int}(H:Jo x y p w h d a b c)(pT mI:Ua):BI ⟨x,y,p,w,h,d⟩ [⟨pT,255,0,0,255,false⟩,⟨mI,255,0,0,255,false⟩] 0 a b c=true:=by have av:=H.a;have az:=H.b;have aF:=H.c;simp[BI,H.view.1,zX,iN,av,az,aF]
theorem ahL(l:Array UInt8):(⟨l⟩:Ua).size=l.size:=rfl
theorem walk(ahM:Ja)(lc:Nat)(iK:List Int)(av9:iK.length≤lc)(FC:lc≤maxLen)(aD:Int)(awa:-9223372036854775808≤aD)(awb:aD≤9223372036854775807)(aC:Int)(awc:-9223372036854775808≤aC)(awd:aC≤9223372036854775807)(kL:Ja)(Q8:Nat)(nl:List Int)(awe:nl.length≤Q8)(JR:Q8≤maxLen)(w:aeo)(ahN:yR w.heap.size w ahM iK)(bn:yR w.heap.size w kL nl):
  Calls Tryz.prog 4 #[ad ahM iK.length lc,I aD,I aC,ad kL nl.length Q8] w fun e w'=>e=ab (U true)∧ao w w w':=by
 have gF:nl.length≤9223372036854775807:=by unfold maxLen at JR;omega
 have awf:iK.length≤9223372036854775807:=by unfold maxLen at FC;omega
 have bM:=aq (fun Z (eG:ao w w Z)=>avI kL nl Q8 gF Z (aq (fun h=>by obtain⟨b,o,e,bL,hc⟩:=(yR.below bn eG) h;exact⟨b,o,e,jN bL eG.size,hc⟩)));have W':=aq ahN;obtain⟨n,hn⟩:=ar iK.length;have bf:=aq hn;rw[hn] at awf⊢;clear av9 FC awa awb awc awd awe JR gF bn ahN hn;obtain⟨x,dd⟩:∃a:Nat,bits BinOp.and IntKind.i64 aD 4095=(a:Int):=⟨(bits BinOp.and IntKind.i64 aD 4095).toNat,by rw[Bits.NQ];omega⟩;obtain⟨y,lj⟩:∃a:Nat,bits BinOp.and IntKind.i64 aC 4095=(a:Int):=⟨(bits BinOp.and IntKind.i64 aC 4095).toNat,by rw[Bits.NQ];omega⟩;have hx:x<4096:=by have h:=Bits.NQ aD;omega
 have hy:y<4096:=by have h:=Bits.NQ aC;omega
 go_enter Tryz.func4,Tryz.ntmps4;go_wp2_with fail
 go_loopw [10,11,12,13] (fun m o a i wr=>∃(k:Nat) (aK:aeo) (M O A:Ua),aK=wr∧k≤n∧k≤6∧m=aa M∧o=aa O∧a=aa A∧i=I k∧M.size≤5+100 *k∧O.size≤100 *k∧A.size≤100 *k∧af (M=BQ (xc iK k)∧O=Jq x y (xc iK k)∧A=BR (xc iK k))∧af (ao w w aK)) (fun _ _ _ i _=>6 -(intOf i).toNat)
 case atStart=>exact⟨0,_,_,_,_,rfl,by omega,by omega,rfl,rfl,rfl,rfl,by decide,by decide,by decide,⟨rfl,rfl,rfl⟩,Below.refl _ _⟩
 case round=>
 obtain⟨k,aK,M,O,A,rfl,ax,kK,rfl,rfl,rfl,rfl,awg,awh,awi,b7,cC⟩:=hrel;by_cases b1:k<n∧k<6
 ·obtain⟨oO,C6⟩:=b1
  ·have ou:(k:Int)<(n:Int):=(by omega);have aza:(k:Int)<6:=(by omega);have BS:k<iK.length:=(by rw[bf.out];exact oO);obtain⟨bo,cO,rfl,_,mY⟩:=(yR.below W'.out cC.out) (by rw[bf.out];omega);have aN:=mY k BS;have bN:=aq (And.intro (av1 BS) (ahF (tn BS)));obtain⟨v,aS⟩:=ar (iK[k]);rw[aS] at aN bN;have bz:af (∀Z,ao w w Z→ak Z bo (cO+k) (I v)):=(fun Z eG=>by obtain⟨fk,fl,ch,_,awj⟩:=(yR.below W'.out eG) (by rw[bf.out];omega);have gw:=awj k BS;rw[aS] at gw;injection ch with ch;injection ch with na js;rw[←na,←js] at gw;exact gw);obtain⟨p,hp⟩:=ar (z' v);have eC:=ahE v;have br:bits BinOp.and IntKind.i64 (v/16) 7+1=(p.w:Int):=(by rw[Bits.GX,←hp];unfold z';simp only;omega);have ahO:bits BinOp.and IntKind.i64 (v/256) 7+1=(p.h:Int):=(by rw[Bits.GX,←hp];unfold z';simp only;omega);have hA:bits BinOp.and IntKind.i64 (v/4096) 7=(p.a:Int):=(by rw[Bits.GX,←hp];unfold z';simp only;omega);have bL:bits BinOp.and IntKind.i64 (v/65536) 7=(p.b:Int):=(by rw[Bits.GX,←hp];unfold z';simp only;omega);rw[hp] at eC bN;have di:af (bits BinOp.and IntKind.i64 v 1=if p.d=true then 0 else 1):=(by show _=_;rw[Bits.aj7,←hp];unfold z';simp only[iO];split<;>omega);have ahP:bits BinOp.and IntKind.i64 (v/16) 7≤7∧0≤bits BinOp.and IntKind.i64 (v/16) 7∧bits BinOp.and IntKind.i64 (v/256) 7≤7∧0≤bits BinOp.and IntKind.i64 (v/256) 7:=(by rw[Bits.GX,Bits.GX];omega);have av:=eC.w;have az:=eC.h;have aF:=eC.a;have bk:=eC.b;have nP:=aq eC;clear mY BS aS hp eC;go_wp2_with fail
   go_quiet (fail)
   have Bc:=aq (cC.out.trans ((jQ (Below.refl _ _) nq).mono cC.out.size));obtain⟨cD,Hz⟩:=ar (aK.drewN nq);rw[Hz] at Bc⊢;have aL:=bz.out _ Bc.out;have bG:∀v,v<500000→(hH v).size≤6:=fun v aS=>(Ce (by omega)).2;have z1:=bG (20+k) (by omega);have z2:=bG p.w (by omega);have z3:=bG p.h (by omega);have z4:=bG p.a (by omega);have z5:=bG p.b (by omega);have hZ:=bG (x+10000 *p.a) (by omega);have hO:=bG (y+10000 *p.b) (by omega);have pT:=aq (BP (20+k) (by omega) (20+(k:Int)) (by omega));have mI:=aq (BP p.w (by omega) p.w rfl);have Xa:=aq (BP p.h (by omega) p.h rfl);have Q9:=aq (BP p.a (by omega) p.a rfl);have LA:=aq (BP p.b (by omega) p.b rfl);have Q':=aq (BP (x+10000 *p.a) (by omega) ((x:Int)+10000 *(p.a:Int)) (by omega));have Ra:=aq (BP (y+10000 *p.b) (by omega) ((y:Int)+10000 *(p.b:Int)) (by omega));obtain⟨mC,Jr,DJ⟩:=b7.out;obtain⟨kA,lD⟩:=bN.out;have jb:=aq (av6 nP.out hx hy lD C6);rw[←Jr,←kA] at jb;cases hd:p.d with
   |true=>
    have gd:=aq (av2 (ps:=xc iK k) nP.out hd);have jc:=aq (av4 nP.out hd lD C6);rw[←mC,←kA] at gd;rw[←DJ,←kA] at jc;have ay:bits BinOp.and IntKind.i64 v 1=0:=(by rw[di.out,hd];rfl);generalize hH (20+k)=awk at pT z1 gd jc jb;generalize hH p.w=awl at mI z2 gd jc jb;generalize hH p.h=iw at Xa z3 gd jc jb;generalize hH p.a=awm at Q9 z4 gd jc jb;generalize hH p.b=awn at LA z5 gd jc jb;generalize hH (x+10000 *p.a)=awo at Q' hZ gd jc jb;generalize hH (y+10000 *p.b)=awp at Ra hO gd jc jb;clear mC Jr DJ kA lD bG Hz aN br ahO hA bL hd di bz b7 bN cC ahP;go_wp2_with (first|(go_at_call 18;(first|(with_reducible refine (pT.out _).mono ?_)|(with_reducible refine (mI.out _).mono ?_)|(with_reducible refine (Q9.out _).mono ?_)|(with_reducible refine (LA.out _).mono ?_)|(with_reducible refine (Q'.out _).mono ?_)|(with_reducible refine (Ra.out _).mono ?_));rintro e bY ⟨rfl,rfl⟩)|fail);refine⟨⟨k+1,_,_,_,_,rfl,by omega,by omega,rfl,rfl,rfl,by go_num,?_,?_,?_,⟨gd.out.symm,jb.out.symm,jc.out.symm⟩,Bc.out⟩,by simp only[intOf];omega⟩<;>(simp only[NI,ahL];simp;omega)
   |false=>
    have gd:=aq (av3 (ps:=xc iK k) nP.out hd);have jc:=aq (av5 nP.out hd lD C6);rw[←mC,←kA] at gd;rw[←DJ,←kA] at jc;have ay:bits BinOp.and IntKind.i64 v 1=1:=(by rw[di.out,hd];rfl);generalize hH (20+k)=awk at pT z1 gd jc jb;generalize hH p.w=awl at mI z2 gd jc jb;generalize hH p.h=iw at Xa z3 gd jc jb;generalize hH p.a=awm at Q9 z4 gd jc jb;generalize hH p.b=awn at LA z5 gd jc jb;generalize hH (x+10000 *p.a)=awo at Q' hZ gd jc jb;generalize hH (y+10000 *p.b)=awp at Ra hO gd jc jb;clear mC Jr DJ kA lD bG Hz aN br ahO hA bL hd di bz b7 bN cC ahP;go_wp2_with (first|(go_at_call 18;(first|(with_reducible refine (pT.out _).mono ?_)|(with_reducible refine (mI.out _).mono ?_)|(with_reducible refine (Xa.out _).mono ?_)|(with_reducible refine (Q9.out _).mono ?_)|(with_reducible refine (LA.out _).mono ?_)|(with_reducible refine (Q'.out _).mono ?_)|(with_reducible refine (Ra.out _).mono ?_));rintro e bY ⟨rfl,rfl⟩)|fail);refine⟨⟨k+1,_,_,_,_,rfl,by omega,by omega,rfl,rfl,rfl,by go_num,?_,?_,?_,⟨gd.out.symm,jb.out.symm,jc.out.symm⟩,Bc.out⟩,by simp only[intOf];omega⟩<;>(simp only[NI,ahL];simp;omega)
 have gm:¬k<n∨(k<n∧¬k<6):=by omega
 clear b1;rcases gm with oO|⟨oO,C6⟩
 all_goals (
  have ou:(k:Int)<(n:Int)↔k<n:=(by omega);have xz:min (n:Int) 6=(k:Int):=(by omega);have oS:=aq (And.intro (ahF (l:=iK) (k:=k) (by rw[bf.out];exact ax)) (av0 iK k));obtain⟨ps,iF⟩:=ar (xc iK k);rw[iF] at b7 oS;obtain⟨mC,Jr,DJ⟩:=b7.out;have Dn:=aq (BP x (by omega) x rfl);have Xb:=aq (BP y (by omega) y rfl);have ahQ:(hH x).size≤6:=(Ce (by omega)).2;have ahR:(hH y).size≤6:=(Ce (by omega)).2;obtain⟨pT,Xc⟩:∃T:Ua,(((((((((hP [37,70,83,76,65,88,50,52,89,50,52,42,37,37,77,79,77,77,42,37] ++M)++hP [37])++A)++hP [37,65,68,68,49,48,84,42,37])++hP [68,49,48,42,88])++hH x)++hP [89])++hH y)++hP [68,48,51,42,77,48,50,42])=T:=⟨_,rfl⟩;obtain⟨mI,zA⟩:∃T:Ua,(((((hP [37,70,83,76,65,88,50,52,89,50,52,42,37,37,77,79,77,77,42,37] ++M)++hP [37])++A)++hP [37,65,68,68,49,48,84,42,37])++O)++hP [77,48,50,42]=T:=⟨_,rfl⟩;have sD:af (pT.data.toList=h3 (vY x y ps)):=(by show _=_;rw[←Xc,mC,DJ];exact av7 hx hy);have mD:af (mI.data.toList=h3 (vZ x y ps)):=(by show _=_;rw[←zA,mC,DJ,Jr];exact av8);have pO:=aq Xc;have qo:=aq zA;generalize hH x=azb at Dn ahQ pO;generalize hH y=azc at Xb ahR pO;clear Xc zA mC Jr DJ b7 iF ou W';go_upto_region 16 with fail;go_upto_region 17 with (first|(go_at_call 15;(with_reducible refine (bM.out _ cC.out).mono ?_);rintro e dp ⟨eA,cM,cN,kH,W,H,pj,bQ,bU,a7,Jm,rfl⟩)|fail);have Xd:=aq Jm;refine LL (P:=Code.wp _ _ _ _) fun dG cr iU=>?_;have e4:=aq (cC.out.trans ((eA.trans (iU.mono eA.size)).mono cC.out.size));have zZ:=aq cr;have Xe:af (w.heap.size≤dp.heap.size):=dB cC.out.size eA.size;obtain⟨Gq,ahS⟩:=ar dp.heap.size;rw[ahS] at zZ Xe⊢;clear eA cr iU Jm ahS bM cC;have Jp:=cell_of (i:=12) zZ.out rfl;have Gr:=cR zZ.out;have Bl:=lt_of_heap zZ.out;go_upto_region 18 with fail;refine ac2 (P:=Code.wp _ _ _ _) zZ.out fun gO cr ax=>?_;have dX:=aq (ax.aZ e4.out Xe.out e4.out.size);have BN:=aq cr;clear cr ax Jp Gr Bl e4 zZ;have fh:=cell_of (i:=6) BN.out rfl;have Gr:=cR BN.out;have Bl:=lt_of_heap BN.out;go_upto_region 19 with (first|(go_at_call 18;(first|(with_reducible refine (Dn.out _).mono ?_)|(with_reducible refine (Xb.out _).mono ?_));rintro e bt ⟨rfl,rfl⟩)|fail);rw[pO.out,qo.out];refine ao0 (P:=fun X=>Code.wp _ _ _ _ (X.alloc (ai (lay pT mI) mh))) BN.out fun gh cr ax hs=>?_;rw[←hs] at cr⊢;have mv:=aq (ax.aZ dX.out Xe.out dX.out.size);have ahU:=aq cr;clear cr ax hs fh Gr Bl dX BN;refine LL (P:=Code.wp _ _ _ _) fun dc aA wU=>?_;have sy:=aq (mv.out.trans (wU.mono mv.out.size));have Rb:af (an dc Gq (#[I cM,I cN,I kH,I W,I H,I pj,ad (some (aj gh.heap.size 0)) 2 2,dr,I bQ,I bU,I a7,I 300,I 100000]) kX):=aU ahU.out wU;have Nc:=aq aA;obtain⟨L,Qu⟩:=ar gh.heap.size;rw[Qu] at Rb Nc⊢;clear aA wU Qu mv ahU pO qo Dn Xb ahQ ahR awg awh awi;obtain⟨ahV,p9⟩:=oS.out;have BT:ps.length≤6:=(by omega);obtain⟨r,ik,rV,At,DX⟩:=avZ hx hy p9 BT Xd.out;have Hu:af (∀Z,ao dc dc Z→Calls Tryz.prog 16 #[.agg #[I cM,I cN,I kH,I W,I H,I pj,ag L 0 2 2,J 0,I bQ,I bU,I a7,I 300,I 100000],I 0] Z (BJ Z ⟨some r,0,0,0,0,ik⟩)):=fun Z eG=>agr (fun _=>True) cM cN kH W H pj [⟨pT,255,0,0,255,false⟩,⟨mI,255,0,0,255,false⟩] (some (aj L 0)) 2 2 rfl none 0 bQ bU a7 300 100000 0 (ahK Xd.out pT mI) pT 255 0 0 255 rfl (avV hx hy p9 BT sD.out 300) _ 0 0 (by rw[sD.out];exact uy.avW (by decide) hx hy p9 BT) (avX BT) Z (aq (ahJ (aU Nc.out eG))) _ (aq (At 0));have Hv:af (∀Z,ao dc dc Z→Calls Tryz.prog 16 #[.agg #[I cM,I cN,I kH,I W,I H,I pj,ag L 0 2 2,J 0,I bQ,I bU,I a7,I 300,I 100000],I 1] Z (BJ Z ⟨some r,0,0,0,0,ik⟩)):=fun Z eG=>agr (fun _=>True) cM cN kH W H pj [⟨pT,255,0,0,255,false⟩,⟨mI,255,0,0,255,false⟩] (some (aj L 0)) 2 2 rfl none 0 bQ bU a7 300 100000 1 (ahK Xd.out pT mI) mI 255 0 0 255 rfl (ahy hx hy p9 BT mD.out 300) _ 0 0 (by rw[mD.out];exact uy.QA (by decide) hx hy p9 BT) avY Z (aq (ahJ (aU Nc.out eG))) _ (aq (DX 1));have ahW:af (∀Z,Calls Tryz.prog 19 #[aa mI,I 100] Z (IM Z (vq x y ps,0,0))):=(fun Z=>by obtain⟨f1,f2,f3⟩:=ahy hx hy p9 BT mD.out 100;exact ae4 mI f1 100 Z f2 f3 _ (by rw[mD.out];exact uy.QA (by decide) hx hy p9 BT));have awq:(vq x y ps).length=k:=(by unfold vq;rw[e6];exact ahV);clear At DX ahV p9 BT oS;obtain⟨ji,gM,gN,gD,gE,jj,jw,j0,j1,j2,j3,j4,jx⟩:=nt Rb.out;go_upto_region 20 with (first|(go_at_call 16;(with_reducible refine (Hu.out _ (Below.refl _ _)).mono ?_);intro e gR hr;have nr:=hr.aZ;obtain⟨sv,rfl,jS⟩:=hr.ahh)|fail);have BK:=aq (sy.out.trans (nr.mono sy.out.size));refine LL (P:=Code.wp _ _ _ _) fun gH hf I6=>?_;have kV:=aq (BK.out.trans (I6.mono BK.out.size));have Rc:=aq (nr.trans (I6.mono nr.size));have MT:=aq (aU Rb.out Rc.out);have ahX:=aq (aU Nc.out Rc.out);have Xf:=aq hf;obtain⟨QO,d',_⟩:=jS;obtain⟨e8,aL,rfl⟩:=jf d';have z8:=aq (e9 d' I6);obtain⟨azd,CO⟩:=ar gR.heap.size;rw[CO] at Xf⊢;clear hr nr hf I6 d' sy BK Rb Nc Hu CO ji gM gN gD gE jj jw j0 j1 j2 j3 j4 jx;obtain⟨ji,gM,gN,gD,gE,jj,jw,j0,j1,j2,j3,j4,jx⟩:=nt MT.out;go_upto_region 21 with (first|(go_at_call 16;(with_reducible refine (Hv.out _ Rc.out).mono ?_);intro e aze hr;have Xg:=hr.aZ;obtain⟨zz,rfl,jS⟩:=hr.ahh)|fail);refine LL (P:=Code.wp _ _ _ _) fun Ji hf Xh=>?_;have s7:=Xg.trans (Xh.mono Xg.size);have Xi:=aq (kV.out.trans (s7.mono kV.out.size));have yP:=aq (aU Xf.out s7);have ahY:=aq hf;obtain⟨azf,d',_⟩:=jS;obtain⟨dN,aI,rfl⟩:=jf d';have yQ:=aq (e9 z8.out s7);have Xj:=aq (e9 d' Xh);have ahZ:=aq (aU MT.out s7);have Gn:=aq (aU ahX.out s7);obtain⟨Nd,hn⟩:=ar r.length;have Xk:=aq hn;rw[hn] at yQ Xj rV⊢;clear hr Xg hf Xh s7 d' kV MT ahX Xf z8 Rc Hv hn ji gM gN gD gE jj jw j0 j1 j2 j3 j4 jx;have fh:=cell_of (i:=6) ahZ.out rfl;have Bb:=cell_of (i:=6) Gn.out rfl;go_upto_region 22 with (first|(go_at_call 19;(with_reducible refine (ahW.out _).mono ?_);rintro e ah0 ⟨Js,fD,od,rfl,_⟩;simp only[awq])|fail);have ah1:=aq (Xi.out.trans (Js.mono Xi.out.size));have awr:=aq (aU yP.out Js);have aws:=aq (aU ahY.out Js);have ah2:=aq (e9 yQ.out Js);have ah3:=aq (e9 Xj.out Js);clear Js Xi yP ahY yQ Xj ahZ Gn fh Bb ahW;obtain⟨f0,f1,f2,f3⟩:=nV awr.out;obtain⟨g0,g1,g2,g3⟩:=nV aws.out;go_upto_region 24 with fail;clear f0 f1 f2 f3 g0 g1 g2 g3;go_wp2_with fail
  all_goals (
   clear dd lj
   go_loopw [28] (fun i wr=>∃(k:Nat) (aK:aeo),aK=wr∧k≤Nd∧i=I k∧af (ao ah0 ah0 aK)) (fun i _=>Nd -(intOf i).toNat)
   case atStart=>exact⟨0,_,rfl,by omega,rfl,Below.refl _ _⟩
   case round=>
   obtain⟨k,aK,rfl,ax,rfl,cC⟩:=hrel;by_cases oO:k<Nd
   ·have ou:(k:Int)<(Nd:Int):=(by omega);have BS:k<r.length:=(by rw[Xk.out];exact oO);obtain⟨g1,azg,a1,_,_⟩:=ah2.out.form (by omega);obtain⟨g2,azh,a6,_,_⟩:=ah3.out.form (by omega);injection a1 with a1 _ ch;injection a6 with a6 _ gw;subst a1 a6 ch gw;obtain⟨aG,jL⟩:=ahi (e9 ah2.out cC.out) Xk.out.symm BS;obtain⟨aE,fJ⟩:=ahi (e9 ah3.out cC.out) Xk.out.symm BS;generalize r[k].1=u1 at aG aE;generalize r[k].2=u2 at jL fJ;clear BS;go_wp2_with fail
    go_quiet (fail)
    have Bc:=aq (cC.out.trans ((jQ (Below.refl _ _) nq).mono cC.out.size));go_wp2_with fail;go_round<;>first|exact⟨k+1,_,rfl,by omega,by go_num,Bc.out⟩|(simp[intOf]<;>omega)
   ·obtain rfl:k=Nd:=(by omega);have cc:=aq (avF aK);go_wp2_with (first|(go_at_call 17;(with_reducible refine cc.out.mono ?_);rintro e azi ⟨rfl,awt⟩)|fail);go_ret;have aH:=ah1.out.trans (cC.out.mono ah1.out.size);exact⟨rfl,aH.trans (awt.mono aH.size)⟩))
end TopMacros
