/- Lemmas. -/
import Derived.Test.YtfldplmgkeiimaaGreatDoorQ36
set_option linter.all false
set_option maxRecDepth 100000
set_option maxHeartbeats 25600000
namespace Go.Proofs.YtfldplmgkeiimaaGreatDoor
abbrev Rj:=@Int.mul_le_mul_of_nonneg_right
abbrev Rk:=@Int.mul_le_mul_of_nonneg_left
abbrev Xa:=@Int.ediv_nonneg
namespace dE
open Go.RowKit el
open cf (C ks)
abbrev gG:TypeId:=39
abbrev oC(a b c d:Int):Value:=.agg #[I a,I b,I c,I d]
structure yZ where
 At:Option (List eV)
 r0:Int
 n:Int
 at_:Int
 e:Int
 m:Int
def pV(k:Int)(v:iZ)(m:Int):List ec×Nat×Nat→yZ
 |(o,i,f)=>if f≠0 then⟨none,1,k,i,f,m⟩ else match uM o v m with
  |(none,cQ)=>⟨none,1,k,0,6,cQ⟩
  |(some l,cQ)=>⟨some l,0,0,0,0,cQ⟩
def te(bI:Nat)(cu:Int)(w:bTo)(r:yZ)(e:Ending)(w':bTo):Prop:=
 w'.heap[bI]?=some (hU cu (cu-r.m))∧aL (fun k=>k≠bI) w w'∧match r.At with
  |none=>e=bb (.tuple #[ay 0,oC r.r0 r.n r.at_ r.e])
  |some l=>∃sv,e=bb (.tuple #[sv,oC 0 0 0 0])∧Jo (fun k=>w.heap.size≤k) w' sv l
variable{w w' x y:bTo}{k bI D:Nat}
theorem n5{a b c d:ada}{t:aui}(h:bo w k (#[a,b,c,d]) t):aw w k 0 a∧aw w k 1 b∧aw w k 2 c∧aw w k 3 d:=by refine⟨?_,?_,?_,?_⟩<;>simp[World.cell?,h]
variable{cu m:Int}{e:Ending}
theorem xp.get{r:Option (List eV)× Int}(h:xp bI cu w r e w'):w'.heap[bI]?=some (hU cu (cu-r.2))∧aL (fun k=>k≠bI) w w':=⟨h.1,h.2.1⟩
theorem xp.no(h:xp bI cu w (none,m) e w'):e=bb (.tuple #[ay 0,I 6]):=h.2.2
theorem xp.yes{l:List eV}(h:xp bI cu w (some l,m) e w'):∃sv,e=bb (.tuple #[sv,I 0])∧Jo (fun k=>w.heap.size≤k) w' sv l:=h.2.2
structure GC(D L bI:Nat)(pW fO sQ mt:Obj)(x:bTo):Prop where
 j:x.heap[D]?=some pW
 f:x.heap[D+1]?=some fO
 l:x.heap[L]?=some sQ
 g:x.heap[bI]?=some mt
theorem GC.keep{S:Jp}{L:Nat}{pW fO sQ mt:Obj}(h:GC D L bI pW fO sQ mt x)(ab:aL S x y)(aa:S D)(ah:S (D+1))(ax:S L)(bg:S bI):GC D L bI pW fO sQ mt y:=⟨ab.get aa h.j,ab.get ah h.f,ab.get ax h.l,ab.get bg h.g⟩
theorem B7{a b c d:ada}{t:aui}(h:bo w k (#[a,b,c,d]) t)(h2 bd c' fQ:ada):((((w.setCell (ag k 0) h2).setCell (ag k 1) bd).setCell (ag k 2) c').setCell (ag k 3) fQ).heap[k]?=some (.cells #[h2,bd,c',fQ] t):=by have:=c4 (i:=3) fQ (c4 (i:=2) c' (c4 (i:=1) bd (c4 (i:=0) h2 h)));exact this
theorem Au{S:Jp}(h:¬S k)(a b c d:ada):aL S w ((((w.setCell (ag k 0) a).setCell (ag k 1) b).setCell (ag k 2) c).setCell (ag k 3) d):=
 (((aL.set (a:=⟨k,0,none⟩) h a).trans (aL.set (a:=⟨k,1,none⟩) h b)).trans (aL.set (a:=⟨k,2,none⟩) h c)).trans (aL.set (a:=⟨k,3,none⟩) h d)
theorem afW(S:Jp)(de df cD cz dI c8:Int)(aS:qa ⟨de,df,cD,cz,dI,c8⟩=true)(ls:List pU)(pl:aya)(nl cl:Nat)(hn:nl=ls.length)(fY:aya)(bC fZ:Nat)(b6 bP a8 an st:Int)(k:Nat)(t:aia)(h8 h9 eL al:Int)(hy:ls[k]?=some ⟨t,h8,h9,eL,al,false⟩)(ff:yU t an)(o:List ec)(i f:Nat)(Nd:mV t.data.toList an=(o,i,f))(oH:∀x∈o,Plain x.2∧qI x.2)
  (bI:Nat) (cu m:Int) (hm:0≤m∧m≤cu∧cu≤100000000) (w:bTo) (H:J (ui S w pl ls)) (bB:J (w.heap[bI]?=some (hU cu (cu-m)))) (r:yZ) (hr:J (pV k ⟨de,df,cD,cz,dI,c8⟩ m (o,i,f)=r)):
  Calls Tryz.prog 37 #[.agg #[I de,I df,I cD,I cz,I dI,I c8,ad pl nl cl,ad fY bC fZ,I b6,I bP,I a8,I an,I st],I (k:Int),ay 0,dv bI 0] w fun e w'=>te bI cu w r e w':=by
 obtain⟨ab,afX⟩:=List.getElem?_eq_some_iff.1 hy;have cd:=U aS;have rW:=U ff;have atg:=U Nd;have rm:=U oH;have cq:=U afX;have adj:=U ab;have axS:k<nl:=by rw[hn];exact ab
 have ri:nl≤1000000000:=by rw[hn];exact H.out.1
 have nR:(0:Int)≤(k:Int):=by omega
 have eA:(k:Int)<(nl:Int):=by omega
 have Jh:=lt_of_heap bB.out;clear aS hn hy ff Nd oH afX;go_enter Tryz.func37,Tryz.ntmps37;go_upto_region 1 with fail;obtain⟨W,a6⟩:=az ((w.alloc (aD (#[I de,I df,I cD,I cz,I dI,I c8,ad pl nl cl,ad fY bC fZ,I b6,I bP,I a8,I an,I st]) lj)).alloc (aD (#[I 0,I 0,I 0,I 0]) gG));have aH:J (av w w W):=by show Below _ _ _;rw[←a6];exact (ba _ _).trans ((ba _ _).mono (ba _ _).size)
 have dA:J (bo W w.heap.size (#[I de,I df,I cD,I cz,I dI,I c8,ad pl nl cl,ad fY bC fZ,I b6,I bP,I a8,I an,I st]) lj):=by show _=_;rw[←a6];exact aO (cw w _) (ba _ _)
 have aE:J (bo W (w.heap.size+1) (#[I 0,I 0,I 0,I 0]) gG):=by show _=_;rw[←a6,show w.heap.size+1=(w.alloc (aD (#[I de,I df,I cD,I cz,I dI,I c8,ad pl nl cl,ad fY bC fZ,I b6,I bP,I a8,I an,I st]) lj)).heap.size from (qo _).symm];exact cw _ _
 rw[a6];clear a6;obtain⟨D,bZ⟩:=az w.heap.size;have ht:=U bZ;rw[bZ] at dA aE Jh⊢;clear bZ;obtain⟨hY,lK,rfl,ak,aq,e1,y3,y4,oo⟩:=(H.out.below aH.out).at ab cq.out;obtain⟨jx,gL,gM,gC,gD,jy,jN,kg,kh,ki,kj,kk,jO⟩:=ny dA.out;go_upto_region 2 with fail;have gK:J (GC D W.heap.size bI (aD (#[I de,I df,I cD,I cz,I dI,I c8,ad (some (ag hY lK)) nl cl,ad fY bC fZ,I b6,I bP,I a8,I an,I st]) lj) (aD (#[I 0,I 0,I 0,I 0]) gG) (aD (#[au t,I h8,I h9,I eL,I al,ai false]) mu) (hU cu (cu-m)) (W.alloc (aD (#[au t,I h8,I h9,I eL,I al,ai false]) mu))):=⟨aO dA.out (ba _ _),aO aE.out (ba _ _),cw _ _,aO (aO bB.out aH.out) (ba _ _)⟩;have c1:J (av w w (W.alloc (aD (#[au t,I h8,I h9,I eL,I al,ai false]) mu))):=aH.out.trans ((ba _ _).mono aH.out.size);have y0:J (D+1<W.heap.size∧W.heap.size<(W.alloc (aD (#[au t,I h8,I h9,I eL,I al,ai false]) mu)).heap.size):=⟨lt_of_heap aE.out,by rw[show (W.alloc (aD (#[au t,I h8,I h9,I eL,I al,ai false]) mu)).heap.size=W.heap.size+1 from qo _];exact Eo _⟩;clear ak aq e1 y3 y4 oo jx gL gM gC gD jy jN kg kh ki kj kk jO dA aE aH bB;generalize W.alloc (.cells #[au t,I h8,I h9,I eL,I al,ai false] mu)=ct at gK c1 y0⊢;obtain⟨L,lU⟩:=az W.heap.size;rw[lU] at gK y0⊢;clear lU;have HG:=cell_of (i:=0) gK.out.l rfl;have kk:=cell_of (i:=11) gK.out.j rfl;have LB:=ar4 t an ct;have afY:(ct.alloc (aD (rX t an 0 0 0 0 (ay 0) 0 0) q1)).heap[ct.heap.size]?=some (.cells (rX t an 0 0 0 0 (ay 0) 0 0) q1):=cw _ _;have afZ:=ar1 ct.heap.size t an rW.out o (fun x hx=>(rm.out x hx).1) i f atg.out _ afY;have eb:=ba ct (aD (rX t an 0 0 0 0 (ay 0) 0 0) q1);have mg:(ct.alloc (aD (rX t an 0 0 0 0 (ay 0) 0 0) q1)).heap.size=ct.heap.size+1:=qo _;go_upto_region 3 with (first|(go_at_call 22;refine LB.mono ?_;rintro e w' ⟨rfl,rfl⟩)|(go_at_call 26;refine afZ.mono ?_;rintro e cb ⟨eG,d,rfl,IZ,zi⟩));have af0:J (aL (fun k=>k≠ct.heap.size) ct cb):=(aL.dM eb).trans zi;have V3:J (iD (fun k=>ct.heap.size≤k) cb eG o):=IZ.mono fun k _ ab=>by have aa:_≤k:=ab;rw[mg] at aa;omega
 have iL:J (GC D L bI (aD (#[I de,I df,I cD,I cz,I dI,I c8,ad (some (ag hY lK)) nl cl,ad fY bC fZ,I b6,I bP,I a8,I an,I st]) lj) (aD (#[I 0,I 0,I 0,I 0]) gG) (aD (#[au t,I h8,I h9,I eL,I al,ai false]) mu) (hU cu (cu-m)) cb):=gK.out.keep af0.out (by have:=y0.out;omega) (by have:=y0.out;omega) (by have:=y0.out;omega) (by have:=y0.out;omega);have Ai:J (aL (fun k=>k<D) w cb):=(aL.dM c1.out).trans (af0.out.mono fun k _ ab=>by have aa:k<D:=ab;have:=y0.out;omega);clear HG kk LB afY afZ eb mg IZ zi gK;by_cases nE:f=0
 ·subst nE;obtain⟨⟨At,m2⟩,af1⟩:=az (uM o ⟨de,df,cD,cz,dI,c8⟩ m);have D4:=U af1;have ath:¬ct.heap.size≤bI:=(by have:=y0.out;omega);have nu:Calls Tryz.prog 60 #[ad eG o.length d,.agg #[I de,I df,I cD,I cz,I dI,I c8],dv bI 0] cb (xp bI cu cb (At,m2)):=asR (fun k=>ct.heap.size≤k) o (fun x hx=>(rm.out x hx).2) eG o.length d rfl ⟨de,df,cD,cz,dI,c8⟩ cd.out bI ath cu m hm cb V3 (U iL.out.g) (At,m2) D4;have axT:=Ai.out.size;have gU:D≤ct.heap.size:=(by have:=y0.out;omega);have Q7:=cell_of (i:=5) iL.out.l rfl;obtain⟨jx,gL,gM,gC,gD,jy,_,_,_,_,_,_,_⟩:=ny iL.out.j;clear af1;cases At with
  |none=>
   go_upto_region 8 with (first|(go_at_call 60;(with_reducible refine nu.mono ?_);intro e cX kE;obtain⟨GD,lJ⟩:=xp.get kE;obtain rfl:=xp.no kE)|fail);have BH:=U lJ;have ati:=U GD;have oI:J (GC D L bI (aD (#[I de,I df,I cD,I cz,I dI,I c8,ad (some (ag hY lK)) nl cl,ad fY bC fZ,I b6,I bP,I a8,I an,I st]) lj) (aD (#[I 0,I 0,I 0,I 0]) gG) (aD (#[au t,I h8,I h9,I eL,I al,ai false]) mu) (hU cu (cu-m2)) cX):=⟨lJ.get (show D≠bI by omega) iL.out.j,lJ.get (show D+1≠bI by omega) iL.out.f,lJ.get (show L≠bI by have:=y0.out;omega) iL.out.l,GD⟩;clear Q7 jx gL gM gC gD jy nu kE lJ GD;have br:J (⟨none,1,k,0,6,m2⟩=r):=(by rw[←hr.out];unfold pV;simp only;rw[aK (by decide),D4.out];exact rfl);obtain⟨a0,a',a2,a3⟩:=n5 oI.out.f;have g0:=cP oI.out.f 0;have g1:=cP oI.out.f 1;have g2:=cP oI.out.f 2;have g3:=cP oI.out.f 3;go_wp2_with fail;have pA:J (((((cX.setCell (ag (D+1) 0) (I 1)).setCell (ag (D+1) 1) (I (k:Int))).setCell (ag (D+1) 2) (I 0)).setCell (ag (D+1) 3) (I 6)).heap[D+1]?=some (.cells #[I 1,I (k:Int),I 0,I 6] gG)):=B7 oI.out.f (I 1) (I (k:Int)) (I 0) (I 6);have kC:J (aL (fun k=>k≠D+1) cX ((((cX.setCell (ag (D+1) 0) (I 1)).setCell (ag (D+1) 1) (I (k:Int))).setCell (ag (D+1) 2) (I 0)).setCell (ag (D+1) 3) (I 6))):=Au (fun ab=>ab rfl) (I 1) (I (k:Int)) (I 0) (I 6);clear a0 a' a2 a3 g0 g1 g2 g3;generalize (((cX.setCell (ag (D+1) 0) (I 1)).setCell (ag (D+1) 1) (I (k:Int))).setCell (ag (D+1) 2) (I 0)).setCell (ag (D+1) 3) (I 6)=fR at pA kC⊢;obtain⟨cJ,aN,aR,cA⟩:=n5 pA.out;rw[←br.out];refine dH (v:=.tuple #[ay 0,oC 1 (k:Int) 0 6]) (by simp[results,Tryz.results37,go_sem,cJ,aN,aR,cA]) rfl ⟨?_,?_,?_⟩
   ·exact kC.out.get (show bI≠D+1 by omega) oI.out.g
   ·exact ((Ai.out.mono (R:=fun k=>k<D∧k≠bI∧k≠D+1) fun k _ ab=>ab.1).trans ((BH.out.mono (R:=fun k=>k<D∧k≠bI∧k≠D+1) fun k _ ab=>ab.2.1).trans (kC.out.mono (R:=fun k=>k<D∧k≠bI∧k≠D+1) fun k _ ab=>ab.2.2))).mono fun k ab hne=>⟨by have:=ht.out;omega,hne,by have:=ht.out;omega⟩
   ·exact rfl
  |some lc=>
   go_upto_region 8 with (first|(go_at_call 60;(with_reducible refine nu.mono ?_);intro e cX kE;obtain⟨GD,lJ⟩:=xp.get kE;obtain⟨sv,rfl,pM⟩:=xp.yes kE)|fail);have BH:=U lJ;have ati:=U GD;have oI:J (GC D L bI (aD (#[I de,I df,I cD,I cz,I dI,I c8,ad (some (ag hY lK)) nl cl,ad fY bC fZ,I b6,I bP,I a8,I an,I st]) lj) (aD (#[I 0,I 0,I 0,I 0]) gG) (aD (#[au t,I h8,I h9,I eL,I al,ai false]) mu) (hU cu (cu-m2)) cX):=⟨lJ.get (show D≠bI by omega) iL.out.j,lJ.get (show D+1≠bI by omega) iL.out.f,lJ.get (show L≠bI by have:=y0.out;omega) iL.out.l,GD⟩;have B8:=U pM;clear Q7 jx gL gM gC gD jy nu kE lJ GD pM;have br:J (⟨some lc,0,0,0,0,m2⟩=r):=(by rw[←hr.out];unfold pV;simp only;rw[aK (by decide),D4.out];exact rfl);obtain⟨a0,a',a2,a3⟩:=n5 oI.out.f;have g0:=cP oI.out.f 0;have g1:=cP oI.out.f 1;have g2:=cP oI.out.f 2;have g3:=cP oI.out.f 3;go_wp2_with fail;have pA:J (((((cX.setCell (ag (D+1) 0) (I 0)).setCell (ag (D+1) 1) (I 0)).setCell (ag (D+1) 2) (I 0)).setCell (ag (D+1) 3) (I 0)).heap[D+1]?=some (.cells #[I 0,I 0,I 0,I 0] gG)):=B7 oI.out.f (I 0) (I 0) (I 0) (I 0);have kC:J (aL (fun k=>k≠D+1) cX ((((cX.setCell (ag (D+1) 0) (I 0)).setCell (ag (D+1) 1) (I 0)).setCell (ag (D+1) 2) (I 0)).setCell (ag (D+1) 3) (I 0))):=Au (fun ab=>ab rfl) (I 0) (I 0) (I 0) (I 0);clear a0 a' a2 a3 g0 g1 g2 g3;generalize (((cX.setCell (ag (D+1) 0) (I 0)).setCell (ag (D+1) 1) (I 0)).setCell (ag (D+1) 2) (I 0)).setCell (ag (D+1) 3) (I 0)=fR at pA kC⊢;obtain⟨cJ,aN,aR,cA⟩:=n5 pA.out;rw[←br.out];refine dH (v:=.tuple #[sv,oC 0 0 0 0]) (by simp[results,Tryz.results37,go_sem,cJ,aN,aR,cA]) rfl ⟨?_,?_,?_⟩
   ·exact kC.out.get (show bI≠D+1 by omega) oI.out.g
   ·exact ((Ai.out.mono (R:=fun k=>k<D∧k≠bI∧k≠D+1) fun k _ ab=>ab.1).trans ((BH.out.mono (R:=fun k=>k<D∧k≠bI∧k≠D+1) fun k _ ab=>ab.2.1).trans (kC.out.mono (R:=fun k=>k<D∧k≠bI∧k≠D+1) fun k _ ab=>ab.2.2))).mono fun k ab hne=>⟨by have:=ht.out;omega,hne,by have:=ht.out;omega⟩
   ·refine⟨sv,rfl,?_⟩;obtain⟨B9,yX,Nf⟩:=B8.out;exact⟨B9,ke yX kC.out (fun k e=>by have aa:cb.heap.size≤k:=Nf k e;have ah:=lt_of_heap iL.out.f;show k≠D+1;omega),fun k e=>by have aa:cb.heap.size≤k:=Nf k e;show w.heap.size≤k;omega⟩
 ·have lI:(((f:Int) !=0):Bool)=true:=(by rw[tt];omega);have br:J (⟨none,1,k,i,f,m⟩=r):=(by rw[←hr.out];unfold pV;simp only;rw[aT nE];exact rfl);obtain⟨a0,a',a2,a3⟩:=n5 iL.out.f;have g0:=cP iL.out.f 0;have g1:=cP iL.out.f 1;have g2:=cP iL.out.f 2;have g3:=cP iL.out.f 3;go_wp2_with fail;have pA:J (((((cb.setCell (ag (D+1) 0) (I 1)).setCell (ag (D+1) 1) (I (k:Int))).setCell (ag (D+1) 2) (I (i:Int))).setCell (ag (D+1) 3) (I (f:Int))).heap[D+1]?=some (.cells #[I 1,I (k:Int),I (i:Int),I (f:Int)] gG)):=B7 iL.out.f (I 1) (I (k:Int)) (I (i:Int)) (I (f:Int));have kC:J (aL (fun k=>k≠D+1) cb ((((cb.setCell (ag (D+1) 0) (I 1)).setCell (ag (D+1) 1) (I (k:Int))).setCell (ag (D+1) 2) (I (i:Int))).setCell (ag (D+1) 3) (I (f:Int)))):=Au (fun ab=>ab rfl) (I 1) (I (k:Int)) (I (i:Int)) (I (f:Int));clear a0 a' a2 a3 g0 g1 g2 g3;generalize (((cb.setCell (ag (D+1) 0) (I 1)).setCell (ag (D+1) 1) (I (k:Int))).setCell (ag (D+1) 2) (I (i:Int))).setCell (ag (D+1) 3) (I (f:Int))=fR at pA kC⊢;obtain⟨cJ,aN,aR,cA⟩:=n5 pA.out;rw[←br.out];refine dH (v:=.tuple #[ay 0,oC 1 (k:Int) (i:Int) (f:Int)]) (by simp[results,Tryz.results37,go_sem,cJ,aN,aR,cA]) rfl ⟨?_,?_,rfl⟩
  ·exact kC.out.get (show bI≠D+1 by omega) iL.out.g
  ·exact ((Ai.out.mono (R:=fun k=>k<D∧k≠D+1) fun k _ ab=>ab.1).trans (kC.out.mono (R:=fun k=>k<D∧k≠D+1) fun k _ ab=>ab.2)).mono fun k ab hne=>⟨by have:=ht.out;omega,by have:=ht.out;omega⟩
def Av(l:pU):Bool:=je l.r&&(je l.g&&(je l.b&&je l.al))
def B'(v:iZ)(ls:List pU)(bC:Nat)(b6 bP a8:Int):Bool:=qa v&&(decide (ls.length≤32)&&(decide (bC≤32)&&(ls.all Av&&(je b6&&(je bP&&je a8)))))
theorem af2(S:Jp)(de df cD cz dI c8:Int)(ls:List pU)(pl:aya)(nl cl:Nat)(hn:nl=ls.length)(fY:aya)(bC fZ:Nat)(b6 bP a8 an st:Int)(w:bTo)(H:J (ui S w pl ls))(f:Bool)(hf:J (B' ⟨de,df,cD,cz,dI,c8⟩ ls bC b6 bP a8=f)):
  Calls Tryz.prog 35 #[.agg #[I de,I df,I cD,I cz,I dI,I c8,ad pl nl cl,ad fY bC fZ,I b6,I bP,I a8,I an,I st]] w fun e w'=>e=bb (ai f)∧av w w w':=by
 have a1:=U hn;have mw:nl≤1000000000:=by rw[hn];exact H.out.1
 obtain⟨Xb,KE⟩:=az (qa ⟨de,df,cD,cz,dI,c8⟩);have Tp:=U KE;have aE:J ((Xb&&(decide (nl≤32)&&(decide (bC≤32)&&(ls.all Av&&(je b6&&(je bP&&je a8))))))=f):=by show _=_;rw[←hf.out,←KE,hn];rfl
 clear hn KE hf;go_enter Tryz.func35,Tryz.ntmps35;go_upto_region 1 with fail;have dA:J ((w.alloc (aD (#[I de,I df,I cD,I cz,I dI,I c8,ad pl nl cl,ad fY bC fZ,I b6,I bP,I a8,I an,I st]) lj)).heap[w.heap.size]?=some (.cells #[I de,I df,I cD,I cz,I dI,I c8,ad pl nl cl,ad fY bC fZ,I b6,I bP,I a8,I an,I st] lj)):=cw _ _;have aH:J (av w w (w.alloc (aD (#[I de,I df,I cD,I cz,I dI,I c8,ad pl nl cl,ad fY bC fZ,I b6,I bP,I a8,I an,I st]) lj))):=ba _ _;generalize w.alloc (.cells #[I de,I df,I cD,I cz,I dI,I c8,ad pl nl cl,ad fY bC fZ,I b6,I bP,I a8,I an,I st] lj)=W at dA aH⊢;obtain⟨jx,gL,gM,gC,gD,jy,jN,kg,kh,ki,kj,kk,jO⟩:=ny dA.out;go_wp2_with fail;go_fit (Q9 ⟨de,df,cD,cz,dI,c8⟩ Xb Tp _);rintro e bQ ⟨rfl,af⟩;have af3:=U (aO dA.out af);have cm:J (av w w bQ):=aH.out.trans (af.mono aH.out.size);clear jx gL gM gC gD jy jN kg kh ki kj kk jO af dA aH;obtain⟨jx,gL,gM,gC,gD,jy,jN,kg,kh,ki,kj,kk,jO⟩:=ny af3.out;cases Xb with
 |false=>
  have br:J (false=f):=aE.out;go_wp2_with fail;go_ret;exact⟨ej br.out,cm.out⟩
 |true=>
  by_cases aI:nl≤32
  case neg=>
   have br:J (false=f):=(by show _=_;rw[←aE.out,eD aI];rfl);have atj:(nl:Int)> 32:=(by omega);go_wp2_with fail
   all_goals
    go_ret;exact⟨ej br.out,cm.out⟩
  have atj:¬(nl:Int)> 32:=(by omega);by_cases c2:bC≤32
  case neg=>
   have br:J (false=f):=(by show _=_;rw[←aE.out,eH aI,eD c2];rfl);have atk:(bC:Int)> 32:=(by omega);go_wp2_with fail
   all_goals
    go_ret;exact⟨ej br.out,cm.out⟩
  have atk:¬(bC:Int)> 32:=(by omega);have e9:J (((ls.drop 0).all Av&&(je b6&&(je bP&&je a8)))=f):=(by show _=_;rw[←aE.out,eH aI,eH c2];rfl);clear aI c2;go_wp2_with fail;clear jx gL gM gC gD jy jN kg kh ki kj kk jO
  go_loopw [24] (fun i wr=>∃(j:Nat) (aG:bTo),aG=wr∧j≤nl∧i=I j∧J (((ls.drop j).all Av&&(je b6&&(je bP&&je a8)))=f)∧J (av bQ bQ aG)) (fun i _=>nl -(intOf i).toNat)
  case atStart=>exact⟨0,_,rfl,eC _,rfl,e9.out,Below.refl _ _⟩
  case round=>
  obtain⟨j,aG,rfl,cB,rfl,fv,cq⟩:=hrel;have kL:J (av w w aG):=cm.out.trans (cq.out.mono cm.out.size);by_cases b0:j<nl
  ·have fs:j<ls.length:=(by rw[←a1.out];exact b0);have ib:(j:Int)<(nl:Int):=(by omega);obtain⟨y,hy⟩:=az (ls[j]);obtain⟨hY,lK,rfl,ak,aq,e1,y3,y4,oo⟩:=(H.out.below kL.out).at fs hy;obtain⟨b3,e5⟩:=az (je y.r);obtain⟨bc,eb⟩:=az (je y.g);obtain⟨ev,e6⟩:=az (je y.b);obtain⟨F1,gB⟩:=az (je y.al);have BL:J (((b3&&(bc&&(ev&&F1)))&&((ls.drop (j+1)).all Av&&(je b6&&(je bP&&je a8))))=f):=(by show _=_;rw[←fv.out,l3 fs,hy,AG,Av,e5,eb,e6,gB];exact (Bool.and_assoc _ _ _).symm);have D3:=U e5;have Rd:=U eb;have Xc:=U e6;have atl:=U gB;have Bu:=U (cq.out.trans ((ba aG (aD (#[au y.t,I y.r,I y.g,I y.b,I y.al,ai y.yY]) mu)).mono cq.out.size));have nH:J (av w w (aG.alloc (aD (#[au y.t,I y.r,I y.g,I y.b,I y.al,ai y.yY]) mu))):=cm.out.trans (Bu.out.mono cm.out.size);have iO:J ((aG.alloc (aD (#[au y.t,I y.r,I y.g,I y.b,I y.al,ai y.yY]) mu)).heap[aG.heap.size]?=some (.cells #[au y.t,I y.r,I y.g,I y.b,I y.al,ai y.yY] mu)):=cw _ _;clear e5 eb e6 gB hy;go_upto_region 6 with fail;generalize aG.alloc (.cells #[au y.t,I y.r,I y.g,I y.b,I y.al,ai y.yY] mu)=axU at Bu nH iO⊢;obtain⟨D,bZ⟩:=az aG.heap.size;rw[bZ] at iO⊢;clear bZ ak aq e1 y3 y4 oo;have aq:=cell_of (i:=1) iO.out rfl;have e1:=cell_of (i:=2) iO.out rfl;have y3:=cell_of (i:=3) iO.out rfl;have y4:=cell_of (i:=4) iO.out rfl;go_wp2_with fail;go_fit (GB y.r b3 D3 _);rintro e Cq ⟨rfl,rfl⟩;cases b3 with
   |false=>
    have br:J (false=f):=(by show _=_;rw[←BL.out];simp);go_wp2_with fail;go_ret;exact⟨ej br.out,nH.out⟩
   |true=>
    go_wp2_with fail;go_fit (GB y.g bc Rd _);rintro e Cq ⟨rfl,rfl⟩;cases bc with
    |false=>
     have br:J (false=f):=(by show _=_;rw[←BL.out];simp);go_wp2_with fail;go_ret;exact⟨ej br.out,nH.out⟩
    |true=>
     go_wp2_with fail;go_fit (GB y.b ev Xc _);rintro e Cq ⟨rfl,rfl⟩;cases ev with
     |false=>
      have br:J (false=f):=(by show _=_;rw[←BL.out];simp);go_wp2_with fail;go_ret;exact⟨ej br.out,nH.out⟩
     |true=>
      go_wp2_with fail;go_fit (GB y.al F1 atl _);rintro e Cq ⟨rfl,rfl⟩;cases F1 with
      |false=>
       have br:J (false=f):=(by show _=_;rw[←BL.out];simp);go_wp2_with fail;go_ret;exact⟨ej br.out,nH.out⟩
      |true=>
       have J1:J (((ls.drop (j+1)).all Av&&(je b6&&(je bP&&je a8)))=f):=BL.out;go_wp2_with fail;go_round<;>first|exact⟨j+1,_,rfl,by omega,by go_num,J1.out,Bu.out⟩|(simp[intOf]<;>omega)
  ·have iH:j=nl:=(by omega);have Ng:J ((je b6&&(je bP&&je a8))=f):=(by show _=_;rw[←fv.out,n7 (by rw[←a1.out];omega)];rfl);subst iH;obtain⟨b3,e5⟩:=az (je b6);obtain⟨bc,eb⟩:=az (je bP);obtain⟨ev,e6⟩:=az (je a8);rw[e5,eb,e6] at Ng;have D3:=U e5;have Rd:=U eb;have Xc:=U e6;clear e5 eb e6;have Rl:=U (aO af3.out cq.out);obtain⟨jx,gL,gM,gC,gD,jy,jN,kg,kh,ki,kj,kk,jO⟩:=ny Rl.out;go_wp2_with fail;go_fit (GB b6 b3 D3 _);rintro e Cq ⟨rfl,rfl⟩;cases b3 with
   |false=>
    have br:J (false=f):=(by show _=_;rw[←Ng.out];simp);go_wp2_with fail;go_ret;exact⟨ej br.out,kL.out⟩
   |true=>
    go_wp2_with fail;go_fit (GB bP bc Rd _);rintro e Cq ⟨rfl,rfl⟩;cases bc with
    |false=>
     have br:J (false=f):=(by show _=_;rw[←Ng.out];simp);go_wp2_with fail;go_ret;exact⟨ej br.out,kL.out⟩
    |true=>
     go_wp2_with fail;go_fit (GB a8 ev Xc _);rintro e Cq ⟨rfl,rfl⟩;cases ev with
     |false=>
      have br:J (false=f):=(by show _=_;rw[←Ng.out];simp);go_wp2_with fail;go_ret;exact⟨ej br.out,kL.out⟩
     |true=>
      have br:J (true=f):=Ng.out;go_wp2_with fail;go_ret;exact⟨ej br.out,kL.out⟩
theorem af4(de df cD cz dI c8:Int)(pl:aya)(nl cl:Nat)(fY:aya)(fZ:Nat)(b6 bP a8 an st:Int)(w:bTo):
  Calls Tryz.prog 36 #[.agg #[I de,I df,I cD,I cz,I dI,I c8,ad pl nl cl,ad fY 0 fZ,I b6,I bP,I a8,I an,I st]] w fun e w'=>e=bb (.tuple #[ay 0,oC 0 0 0 0])∧av w w w':=by
 go_enter Tryz.func36,Tryz.ntmps36;go_upto_region 1 with fail;obtain⟨W,a6⟩:=az ((w.alloc (aD (#[I de,I df,I cD,I cz,I dI,I c8,ad pl nl cl,ad fY 0 fZ,I b6,I bP,I a8,I an,I st]) lj)).alloc (aD (#[I 0,I 0,I 0,I 0]) gG));have aH:J (av w w W):=by show Below _ _ _;rw[←a6];exact (ba _ _).trans ((ba _ _).mono (ba _ _).size)
 have dA:J (bo W w.heap.size (#[I de,I df,I cD,I cz,I dI,I c8,ad pl nl cl,ad fY 0 fZ,I b6,I bP,I a8,I an,I st]) lj):=by show _=_;rw[←a6];exact aO (cw w _) (ba _ _)
 have aE:J (bo W (w.heap.size+1) (#[I 0,I 0,I 0,I 0]) gG):=by show _=_;rw[←a6,show w.heap.size+1=(w.alloc (aD (#[I de,I df,I cD,I cz,I dI,I c8,ad pl nl cl,ad fY 0 fZ,I b6,I bP,I a8,I an,I st]) lj)).heap.size from (qo _).symm];exact cw _ _
 rw[a6];clear a6;obtain⟨D,bZ⟩:=az w.heap.size;have ht:=U bZ;rw[bZ] at dA aE⊢;clear bZ;have kg:=cell_of (i:=7) dA.out rfl;go_wp2_with fail;clear kg
 go_loopw [4,13] (fun aS i wr=>aS=ay 0∧i=I 0∧wr=W) (fun _ _ _=>0)
 case atStart=>exact⟨rfl,rfl,rfl⟩
 case round=>
 obtain⟨rfl,rfl,rfl⟩:=hrel;obtain⟨a0,a',a2,a3⟩:=n5 aE.out;have g0:=cP aE.out 0;have g1:=cP aE.out 1;have g2:=cP aE.out 2;have g3:=cP aE.out 3;go_wp2_with fail;have pA:J (((((wr.setCell (ag (D+1) 0) (I 0)).setCell (ag (D+1) 1) (I 0)).setCell (ag (D+1) 2) (I 0)).setCell (ag (D+1) 3) (I 0)).heap[D+1]?=some (.cells #[I 0,I 0,I 0,I 0] gG)):=B7 aE.out _ _ _ _;have D5:J (av w w ((((wr.setCell (ag (D+1) 0) (I 0)).setCell (ag (D+1) 1) (I 0)).setCell (ag (D+1) 2) (I 0)).setCell (ag (D+1) 3) (I 0))):=(((aH.out.setCell (p:=⟨D+1,0,none⟩) (by have:=ht.out;show _≤D+1;omega) _).setCell (p:=⟨D+1,1,none⟩) (by have:=ht.out;show _≤D+1;omega) _).setCell (p:=⟨D+1,2,none⟩) (by have:=ht.out;show _≤D+1;omega) _).setCell (p:=⟨D+1,3,none⟩) (by have:=ht.out;show _≤D+1;omega) _;clear a0 a' a2 a3 g0 g1 g2 g3;generalize (((wr.setCell (ag (D+1) 0) (I 0)).setCell (ag (D+1) 1) (I 0)).setCell (ag (D+1) 2) (I 0)).setCell (ag (D+1) 3) (I 0)=fR at pA D5⊢;obtain⟨cJ,aN,aR,cA⟩:=n5 pA.out;exact dH (v:=.tuple #[ay 0,oC 0 0 0 0]) (by simp[results,Tryz.results36,go_sem,cJ,aN,aR,cA]) rfl ⟨rfl,D5.out⟩
structure Rm(D:Nat)(pW:agv)(v0 v1 v2 v3:ada)(x:bTo):Prop where
 j:bo x D pW lj
 f:bo x (D+1) (#[v0,v1,v2,v3]) gG
abbrev Aw(D:Nat)(aJ aI c2 c3 bF c5 b1 b5 bS bf cy dq sX:ada)(x:bTo):Prop:=
 x.cell? ⟨D,0,none⟩=some aJ∧aw x D 1 aI∧aw x D 2 c2∧aw x D 3 c3∧aw x D 4 bF∧aw x D 5 c5∧aw x D 6 b1∧aw x D 7 b5∧aw x D 8 bS∧aw x D 9 bf∧aw x D 10 cy∧aw x D 11 dq∧aw x D 12 sX∧
 aw x (D+1) 0 (j3 x (D+1) 0)∧x.frozen? ⟨D+1,0,none⟩=false∧aw x (D+1) 1 (j3 x (D+1) 1)∧x.frozen? ⟨D+1,1,none⟩=false∧aw x (D+1) 2 (j3 x (D+1) 2)∧x.frozen? ⟨D+1,2,none⟩=false∧aw x (D+1) 3 (j3 x (D+1) 3)∧x.frozen? ⟨D+1,3,none⟩=false∧
 ∃v0 v1 v2 v3,Rm D #[aJ,aI,c2,c3,bF,c5,b1,b5,bS,bf,cy,dq,sX] v0 v1 v2 v3 x
variable{aJ aI c2 c3 bF c5 b1 b5 bS bf cy dq sX:ada}
theorem Nh{v0 v1 v2 v3:ada}(h:Rm D #[aJ,aI,c2,c3,bF,c5,b1,b5,bS,bf,cy,dq,sX] v0 v1 v2 v3 x):Aw D aJ aI c2 c3 bF c5 b1 b5 bS bf cy dq sX x:=by obtain⟨jx,gL,gM,gC,gD,jy,jN,kg,kh,ki,kj,kk,jO⟩:=ny h.j;obtain⟨a0,a',a2,a3⟩:=n5 h.f;exact⟨jx,gL,gM,gC,gD,jy,jN,kg,kh,ki,kj,kk,jO,my a0,cP h.f 0,my a',cP h.f 1,my a2,cP h.f 2,my a3,cP h.f 3,_,_,_,_,h⟩
theorem Xd(h:Aw D aJ aI c2 c3 bF c5 b1 b5 bS bf cy dq sX x):∃v0 v1 v2 v3,Rm D #[aJ,aI,c2,c3,bF,c5,b1,b5,bS,bf,cy,dq,sX] v0 v1 v2 v3 x:=h.2.2.2.2.2.2.2.2.2.2.2.2.2.2.2.2.2.2.2.2.2
theorem Xe(af:av x x y)(h:Aw D aJ aI c2 c3 bF c5 b1 b5 bS bf cy dq sX x):Aw D aJ aI c2 c3 bF c5 b1 b5 bS bf cy dq sX y:=by obtain⟨_,_,_,_,h⟩:=Xd h;exact Nh ⟨aO h.j af,aO h.f af⟩
theorem af5(aa:D≠bI)(ah:D+1≠bI)(ab:aL (fun k=>k≠bI) x y)(h:Aw D aJ aI c2 c3 bF c5 b1 b5 bS bf cy dq sX x):Aw D aJ aI c2 c3 bF c5 b1 b5 bS bf cy dq sX y:=by obtain⟨_,_,_,_,h⟩:=Xd h;exact Nh ⟨ab.get aa h.j,ab.get ah h.f⟩
theorem af6{u0 u1 u2 u3:ada}(h:Aw D aJ aI c2 c3 bF c5 b1 b5 bS bf cy dq sX x):Aw D aJ aI c2 c3 bF c5 b1 b5 bS bf cy dq sX ((((x.setCell (ag (D+1) 0) u0).setCell (ag (D+1) 1) u1).setCell (ag (D+1) 2) u2).setCell (ag (D+1) 3) u3):=by obtain⟨_,_,_,_,h⟩:=Xd h;exact Nh ⟨(Au (S:=fun k=>k≠D+1) (fun ab=>ab rfl) _ _ _ _).get (by omega) h.j,B7 h.f _ _ _ _⟩
def Ca(w:bTo)(r:yZ)(e:Ending)(w':bTo):Prop:=Below w.heap.size w w'∧match r.At with
 |none=>e=bb (.tuple #[ay 0,oC r.r0 r.n r.at_ r.e])
 |some l=>∃sv,e=bb (.tuple #[sv,oC 0 0 0 0])∧Jo (fun k=>w.heap.size≤k) w' sv l
theorem te.get{r:yZ}(h:te bI cu w r e w'):w'.heap[bI]?=some (hU cu (cu-r.m))∧aL (fun k=>k≠bI) w w':=⟨h.1,h.2.1⟩
theorem te.no{r0 n a j8:Int}(h:te bI cu w ⟨none,r0,n,a,j8,m⟩ e w'):e=bb (.tuple #[ay 0,oC r0 n a j8]):=h.2.2
theorem te.yes{r0 n a j8:Int}{l:List eV}(h:te bI cu w ⟨some l,r0,n,a,j8,m⟩ e w'):∃sv,e=bb (.tuple #[sv,oC 0 0 0 0])∧Jo (fun k=>w.heap.size≤k) w' sv l:=h.2.2
theorem af7(S:Jp)(de df cD cz dI c8:Int)(ls:List pU)(pl:aya)(nl cl:Nat)(hn:nl=ls.length)(fY:aya)(fZ:Nat)(b6 bP a8 an st:Int)(k:Nat)(D6:B' ⟨de,df,cD,cz,dI,c8⟩ ls 0 b6 bP a8=true)(t:aia)(h8 h9 eL al:Int)(hy:ls[k]?=some ⟨t,h8,h9,eL,al,false⟩)(ff:yU t an)(o:List ec)(i f:Nat)(Nd:mV t.data.toList an=(o,i,f))(oH:∀x∈o,Plain x.2∧qI x.2)(w:bTo)(H:J (ui S w pl ls))(r:yZ)(hr:J (pV k ⟨de,df,cD,cz,dI,c8⟩ (max 0 (min st 100000000)) (o,i,f)=r)):
  Calls Tryz.prog 16 #[.agg #[I de,I df,I cD,I cz,I dI,I c8,ad pl nl cl,ad fY 0 fZ,I b6,I bP,I a8,I an,I st],I (k:Int)] w fun e w'=>Ca w r e w':=by
 obtain⟨ko,_⟩:=List.getElem?_eq_some_iff.1 hy;have aS:qa ⟨de,df,cD,cz,dI,c8⟩=true:=by have h:=D6;unfold B' at h;rw[gy] at h;exact h.1
 have Xf:=U D6;have a1:=U hn;have Jr:=U (And.intro aS (And.intro hy (And.intro ff (And.intro Nd oH))));have nR:¬(k:Int)<0:=by omega
 have eA:¬(nl:Int)≤(k:Int):=by rw[hn];omega
 clear D6 hn aS hy ff Nd oH;go_enter Tryz.func16,Tryz.ntmps16;go_upto_region 1 with fail;obtain⟨W,a6⟩:=az ((w.alloc (aD (#[I de,I df,I cD,I cz,I dI,I c8,ad pl nl cl,ad fY 0 fZ,I b6,I bP,I a8,I an,I st]) lj)).alloc (aD (#[I 0,I 0,I 0,I 0]) gG));have aH:J (av w w W):=by show Below _ _ _;rw[←a6];exact (ba _ _).trans ((ba _ _).mono (ba _ _).size)
 have dA:J (bo W w.heap.size (#[I de,I df,I cD,I cz,I dI,I c8,ad pl nl cl,ad fY 0 fZ,I b6,I bP,I a8,I an,I st]) lj):=by show _=_;rw[←a6];exact aO (cw w _) (ba _ _)
 have aE:J (bo W (w.heap.size+1) (#[I 0,I 0,I 0,I 0]) gG):=by show _=_;rw[←a6,show w.heap.size+1=(w.alloc (aD (#[I de,I df,I cD,I cz,I dI,I c8,ad pl nl cl,ad fY 0 fZ,I b6,I bP,I a8,I an,I st]) lj)).heap.size from (qo _).symm];exact cw _ _
 rw[a6];clear a6;obtain⟨D,bZ⟩:=az w.heap.size;have ht:=U bZ;rw[bZ] at dA aE⊢;clear bZ;obtain⟨jx,gL,gM,gC,gD,jy,jN,kg,kh,ki,kj,kk,jO⟩:=ny dA.out;have uj:=af2 S de df cD cz dI c8 ls pl nl cl a1.out fY 0 fZ b6 bP a8 an st W (U (H.out.below aH.out)) true Xf;go_upto_region 3 with (go_at_call 35;(with_reducible refine uj.mono ?_);rintro e ct ⟨rfl,eb⟩;have jN:=bM eb jN);have c1:=U (aH.out.trans (eb.mono aH.out.size));have e9:=U (aO aE.out eb);have jn:=U (aO dA.out eb);have pz:J (D+1<ct.heap.size):=lt_of_heap e9.out;clear uj eb jx gL gM gC gD jy jN kg kh ki kj kk jO aH aE dA;obtain⟨jx,gL,gM,gC,gD,jy,jN,kg,kh,ki,kj,kk,jO⟩:=ny jn.out;have vE:=af4 de df cD cz dI c8 pl nl cl fY fZ b6 bP a8 an st ct;go_upto_region 4 with (go_at_call 36;(with_reducible refine vE.mono ?_);rintro e c6 ⟨rfl,e6⟩);have dx:J (av w w (c6.alloc (aD (#[I 0,I 0,I 0,I 0]) gG))):=(c1.out.trans (e6.mono c1.out.size)).trans ((ba _ _).mono (dX c1.out.size e6.size));have Ax:=U (aO (aO jn.out e6) (ba c6 (aD (#[I 0,I 0,I 0,I 0]) gG)));have sb:=U (aO (aO e9.out e6) (ba c6 (aD (#[I 0,I 0,I 0,I 0]) gG)));have GF:J ((c6.alloc (aD (#[I 0,I 0,I 0,I 0]) gG)).heap[c6.heap.size]?=some (.cells #[I 0,I 0,I 0,I 0] gG)):=cw _ _;have tZ:J (D+1<(c6.alloc (aD (#[I 0,I 0,I 0,I 0]) gG)).heap.size):=lt_of_heap sb.out;clear vE e6 jx gL gM gC gD jy jN kg kh ki kj kk jO c1 e9 jn pz;generalize c6.alloc (.cells #[I 0,I 0,I 0,I 0] gG)=ez at dx Ax sb GF tZ⊢;have z3:=cell_of (i:=3) GF.out rfl;have Ni:J (av w w ((ez.alloc (hU (max 0 (min st 100000000)) 0)).drew)):=(dx.out.alloc dx.out.size _).drew;have CH:=U (aO sb.out (ba ez (hU (max 0 (min st 100000000)) 0)).drew);have Js:J (D+1<ez.heap.size):=tZ.out;have af8:D≠ez.heap.size:=by have:=Js.out;omega
 have Rn:D+1≠ez.heap.size:=by have:=Js.out;omega
 have af9:J (((ez.alloc (hU (max 0 (min st 100000000)) 0)).drew).heap.size=ez.heap.size+1):=qo _;have B8:=U (afW S de df cD cz dI c8 Jr.out.1 ls pl nl cl a1.out fY 0 fZ b6 bP a8 an st k t h8 h9 eL al Jr.out.2.1 Jr.out.2.2.1 o i f Jr.out.2.2.2.1 Jr.out.2.2.2.2 ez.heap.size (max 0 (min st 100000000)) (max 0 (min st 100000000)) ⟨by omega,rk _,by omega⟩ ((ez.alloc (hU (max 0 (min st 100000000)) 0)).drew) (U (H.out.below Ni.out)) (U (by rw[Int.sub_self];exact cw ez _)) r hr);have rl:J (Rm D #[I de,I df,I cD,I cz,I dI,I c8,ad pl nl cl,ad fY 0 fZ,I b6,I bP,I a8,I an,I st] (I 0) (I 0) (I 0) (I 0) ez):=⟨Ax.out,sb.out⟩;have wN:=U (Nh rl.out);have fH:=U (Xe (Below.refl _ _).drew (Nh rl.out));obtain⟨At,r0,D7,at9,j8,m9⟩:=r;clear hr Jr Ax sb GF rl H;cases At with
 |none=>
  go_upto_region 6 with fail
  go_region_held3 (fun Z=>Aw D (I de) (I df) (I cD) (I cz) (I dI) (I c8) (ad pl nl cl) (ad fY 0 fZ) (I b6) (I bP) (I a8) (I an) (I st) Z) (first|with_reducible exact fH.out|with_reducible exact wN.out|with_reducible exact Xe (ba _ _) (by assumption)|with_reducible exact af5 af8 Rn (by assumption) (by assumption)|with_reducible exact af6 (by assumption)|assumption|fail) (first|(go_at_call 38;(go_fit (Wz st _));rintro e j7 ⟨rfl,rfl⟩)|(go_at_call 37;(go_fit (B8.out));intro e mZ yE;obtain⟨vN,lh⟩:=te.get yE;obtain rfl:=te.no yE)|fail)
  all_goals
   have wI:J (av w w mZ):=Ni.out.trans (lh.below _ Ni.out.size (fun k ab=>by have:=ht.out;have:=Js.out;omega));have Xg:J (bo mZ (D+1) (#[I 0,I 0,I 0,I 0]) gG):=lh.get Rn CH.out;go_wp2_with fail;have pA:J (((((mZ.setCell (ag (D+1) 0) (I r0)).setCell (ag (D+1) 1) (I D7)).setCell (ag (D+1) 2) (I at9)).setCell (ag (D+1) 3) (I j8)).heap[D+1]?=some (.cells #[I r0,I D7,I at9,I j8] gG)):=B7 Xg.out (I r0) (I D7) (I at9) (I j8);have kC:J (aL (fun k=>k≠D+1) mZ ((((mZ.setCell (ag (D+1) 0) (I r0)).setCell (ag (D+1) 1) (I D7)).setCell (ag (D+1) 2) (I at9)).setCell (ag (D+1) 3) (I j8))):=Au (fun ab=>ab rfl) (I r0) (I D7) (I at9) (I j8);have D5:J (av w w ((((mZ.setCell (ag (D+1) 0) (I r0)).setCell (ag (D+1) 1) (I D7)).setCell (ag (D+1) 2) (I at9)).setCell (ag (D+1) 3) (I j8))):=wI.out.trans (kC.out.below _ wI.out.size (fun k ab=>by have:=ht.out;omega));generalize (((mZ.setCell (ag (D+1) 0) (I r0)).setCell (ag (D+1) 1) (I D7)).setCell (ag (D+1) 2) (I at9)).setCell (ag (D+1) 3) (I j8)=fR at pA kC D5⊢;obtain⟨cJ,aN,aR,cA⟩:=n5 pA.out;exact dH (v:=.tuple #[ay 0,oC r0 D7 at9 j8]) (by simp[results,Tryz.results16,go_sem,cJ,aN,aR,cA]) rfl ⟨D5.out,rfl⟩
 |some lc=>
  go_upto_region 6 with fail
  go_region_held3 (fun Z=>Aw D (I de) (I df) (I cD) (I cz) (I dI) (I c8) (ad pl nl cl) (ad fY 0 fZ) (I b6) (I bP) (I a8) (I an) (I st) Z) (first|with_reducible exact fH.out|with_reducible exact wN.out|with_reducible exact Xe (ba _ _) (by assumption)|with_reducible exact af5 af8 Rn (by assumption) (by assumption)|with_reducible exact af6 (by assumption)|assumption|fail) (first|(go_at_call 38;(go_fit (Wz st _));rintro e j7 ⟨rfl,rfl⟩)|(go_at_call 37;(go_fit (B8.out));intro e mZ yE;obtain⟨vN,lh⟩:=te.get yE;obtain⟨sv,rfl,pM⟩:=te.yes yE)|fail)
  all_goals
   have wI:J (av w w mZ):=Ni.out.trans (lh.below _ Ni.out.size (fun k ab=>by have:=ht.out;have:=Js.out;omega));have Xg:J (bo mZ (D+1) (#[I 0,I 0,I 0,I 0]) gG):=lh.get Rn CH.out;go_wp2_with fail;have pA:J (((((mZ.setCell (ag (D+1) 0) (I 0)).setCell (ag (D+1) 1) (I 0)).setCell (ag (D+1) 2) (I 0)).setCell (ag (D+1) 3) (I 0)).heap[D+1]?=some (.cells #[I 0,I 0,I 0,I 0] gG)):=B7 Xg.out (I 0) (I 0) (I 0) (I 0);have kC:J (aL (fun k=>k≠D+1) mZ ((((mZ.setCell (ag (D+1) 0) (I 0)).setCell (ag (D+1) 1) (I 0)).setCell (ag (D+1) 2) (I 0)).setCell (ag (D+1) 3) (I 0))):=Au (fun ab=>ab rfl) (I 0) (I 0) (I 0) (I 0);have D5:J (av w w ((((mZ.setCell (ag (D+1) 0) (I 0)).setCell (ag (D+1) 1) (I 0)).setCell (ag (D+1) 2) (I 0)).setCell (ag (D+1) 3) (I 0))):=wI.out.trans (kC.out.below _ wI.out.size (fun k ab=>by have:=ht.out;omega));generalize (((mZ.setCell (ag (D+1) 0) (I 0)).setCell (ag (D+1) 1) (I 0)).setCell (ag (D+1) 2) (I 0)).setCell (ag (D+1) 3) (I 0)=fR at pA kC D5⊢;obtain⟨cJ,aN,aR,cA⟩:=n5 pA.out;obtain⟨B9,yX,Nf⟩:=pM;refine dH (v:=.tuple #[sv,oC 0 0 0 0]) (by simp[results,Tryz.results16,go_sem,cJ,aN,aR,cA]) rfl ⟨D5.out,sv,rfl,B9,ke yX kC.out (fun k e=>?_),fun k e=>?_⟩
   ·have aa:=Nf k e;have ah:=Js.out;have ax:=af9.out;show k≠D+1;omega
   ·have aa:=Nf k e;have ah:=Js.out;have ax:=af9.out;have bg:=ht.out;show w.heap.size≤k;omega
end dE
namespace el
theorem aga(v:iZ)(g:List eJ)(y:Nat):∀(k x:Nat) (acc:List eV) (m:Int) (r:List eV) (cQ:Int),0≤m→oM v g y k x acc m=(some r,cQ)→(∀c∈acc,pT (4^v.depth.toNat) c)→(∀c∈r,pT (4^v.depth.toNat) c)∧r.length=acc.length+k∧0≤cQ∧cQ≤m
 |0,x,acc,m,r,cQ,hm,h,ha=>by simp only[oM,gA,mv] at h;obtain⟨rfl,rfl⟩:=h;exact⟨ha,rfl,hm,rk _⟩
 |k+1,x,acc,m,r,cQ,hm,h,ha=>by
  unfold oM at h;split at h
  ·simp at h
  ·rename_i c m1 he;obtain⟨aa,ah,ax⟩:=Q8 _ _ _ _ _ _ he
   obtain ⟨g1,g2,g3,g4⟩:=aga v g y k (x+1) (acc++ [c]) m1 r cQ ah h (fun d hd=>by
    rcases List.mem_append.1 hd with hd|hd
    ·exact ha d hd
    ·rw[List.mem_singleton.1 hd];exact aa)
   refine⟨g1,?_,g3,by omega⟩;rw[g2,gh];simp only[I2];omega
theorem agb(v:iZ)(g:List eJ):∀(k y:Nat) (acc:List eV) (m:Int) (r:List eV) (cQ:Int),0≤m→ru v g k y acc m=(some r,cQ)→(∀c∈acc,pT (4^v.depth.toNat) c)→(∀c∈r,pT (4^v.depth.toNat) c)∧r.length=acc.length+k *v.w.toNat∧0≤cQ∧cQ≤m
 |0,y,acc,m,r,cQ,hm,h,ha=>by simp only[ru,gA,mv] at h;obtain⟨rfl,rfl⟩:=h;exact⟨ha,by omega,hm,rk _⟩
 |k+1,y,acc,m,r,cQ,hm,h,ha=>by
  unfold ru at h;split at h
  ·simp at h
  ·rename_i a m1 he;obtain⟨aa,ah,ax,bg⟩:=aga v _ y _ 0 acc m a m1 hm he ha;obtain⟨g1,g2,g3,g4⟩:=agb v g k (y+1) a m1 r cQ ax h aa;refine⟨g1,?_,g3,by omega⟩;rw[g2,ah,UN];omega
theorem agc{o:List ec}{v:iZ}{m:Int}{r:List eV}{cQ:Int}(hm:0≤m)(h:uM o v m=(some r,cQ)):(∀c∈r,pT (4^v.depth.toNat) c)∧r.length=v.h.toNat *v.w.toNat∧0≤cQ∧cQ≤m:=by obtain⟨aa,ah,ax,bg⟩:=agb v _ _ 0 [] m r cQ hm h (fun c hc=>absurd hc (by simp));exact⟨aa,by simpa using ah,ax,bg⟩
abbrev jY:=Int×Int
def GG(t:jY)(c al:Int)(v:eV)(cells:Int):jY:=(CC t c al v cells /(255 *cells),(CD t c al v cells+255 *cells-1)/(255 *cells))
def atm(ak aq e1 al:Int)(cells:Int)(v:eV)(i:Nat)(ts:List jY):List jY:=
 let a:=ts.set (3 *i) (GG (ts.getD (3 *i) (0,0)) ak al v cells);let b:=a.set (3 *i+1) (GG (a.getD (3 *i+1) (0,0)) aq al v cells)
 b.set (3 *i+2) (GG (b.getD (3 *i+2) (0,0)) e1 al v cells)
def layAll(ak aq e1 al:Int)(cells:Int):List eV→Nat→List jY→List jY
 |[],_,ts=>ts
 |v::l,i,ts=>layAll ak aq e1 al cells l (i+1) (atm ak aq e1 al cells v i ts)
def q3(b6 bP a8:Int):Nat→List jY
 |0=>[]
 |n+1=>q3 b6 bP a8 n++[nJ b6,nJ bP,nJ a8]
def y1(ts:List jY):Prop:=∀t∈ts,rv t=true
theorem agd(t:jY):rv t=true↔0≤t.1∧t.1≤t.2∧t.2≤16711680:=by unfold rv;simp only[gy,gH]
theorem atn(c:Int):rv (nJ c)=true:=by rw[agd];unfold nJ;simp only;omega
variable{cells:Int}
theorem Ro{t c al k:Int}(bH:0≤t∧t≤16711680)(hc:0≤c∧c≤255)(ha:0≤al∧al≤255)(ab:0≤k∧k≤cells):0≤uN t c al k cells∧uN t c al k cells≤16711680 *(255 *cells):=by
 unfold uN;have aQ:0≤al *k:=hL ha.1 ab.1;have aa:al *k≤255 *cells:=by have ah:al *k≤255 *k:=Rj ha.2 ab.1;have ax:255 *k≤255 *cells:=Rk ab.2 (by decide);omega
 generalize al *k=x at aQ aa⊢;generalize 255 *cells=y at aa⊢;have a':0≤t *(y-x):=hL bH.1 (by omega);have a2:t *(y-x)≤16711680 *(y-x):=Rj bH.2 (by omega);have a3:0≤65536 *c *x:=hL (by omega) aQ;have a4:65536 *c *x≤16711680 *x:=Rj (by omega) aQ;have a5:16711680 *(y-x)=16711680 *y-16711680 *x:=Int.mul_sub ..;omega
theorem ato{t:jY}{c al:Int}{v:eV}(bH:rv t=true)(hc:0≤c∧c≤255)(ha:0≤al∧al≤255)(aS:0≤v.1∧v.1≤v.2∧v.2≤cells)(aa:1≤cells):rv (GG t c al v cells)=true:=by
 rw[agd] at bH⊢;have b3:=Ro (t:=t.1) (c:=c) (al:=al) (k:=v.1) (cells:=cells) ⟨bH.1,by omega⟩ hc ha ⟨aS.1,by omega⟩;have bc:=Ro (t:=t.2) (c:=c) (al:=al) (k:=v.1) (cells:=cells) ⟨by omega,by omega⟩ hc ha ⟨aS.1,by omega⟩;have ev:=Ro (t:=t.1) (c:=c) (al:=al) (k:=v.2) (cells:=cells) ⟨bH.1,by omega⟩ hc ha ⟨by omega,by omega⟩;have F1:=Ro (t:=t.2) (c:=c) (al:=al) (k:=v.2) (cells:=cells) ⟨by omega,by omega⟩ hc ha ⟨by omega,by omega⟩;have hd:0<255 *cells:=by omega
 have aN:0≤CC t c al v cells∧CC t c al v cells≤CD t c al v cells∧CD t c al v cells≤16711680 *(255 *cells):=by unfold CC CD;omega
 obtain⟨aN,aR,cA⟩:=aN;unfold GG;simp only;generalize CC t c al v cells=a at aN aR⊢;generalize CD t c al v cells=b at aR cA⊢;generalize 255 *cells=y at hd cA⊢;refine⟨Xa aN (by omega),Int.ediv_le_ediv hd (by omega),?_⟩;have fG:(b+y-1)/ y<16711681:=Int.ediv_lt_of_lt_mul hd (by omega);exact Int.lt_add_one_iff.1 fG
theorem atp{ts:List jY}(h:y1 ts)(j:Nat){t:jY}(bH:rv t=true):y1 (ts.set j t):=fun x hx=>by
 rcases ZQ hx with hx|rfl
 ·exact h x hx
 ·exact bH
theorem age{ts:List jY}(h:y1 ts)(j:Nat):rv (ts.getD j (0,0))=true:=by
 rw[yt];cases cB:ts[j]? with
 |none=>rfl
 |some t=>exact h t (U6 cB)
theorem agf(b6 bP a8:Int):∀n,(q3 b6 bP a8 n).length=3 *n
 |0=>rfl
 |n+1=>by unfold q3;rw[gh,agf b6 bP a8 n];simp;omega
theorem agh(b6 bP a8:Int):∀n,y1 (q3 b6 bP a8 n)
 |0=>fun t h=>absurd h (by simp[q3])
 |n+1=>fun t h=>by
  unfold q3 at h;rcases List.mem_append.1 h with h|h
  ·exact agh b6 bP a8 n t h
  ·simp at h;rcases h with rfl|rfl|rfl<;>exact atn _
end el
