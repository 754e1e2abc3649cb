/- Lemmas. -/
import Derived.Test.YtfldplmgkeiimaaGreatDoorR34
set_option linter.all false
set_option maxRecDepth 100000
set_option maxHeartbeats 25600000
namespace Go.Proofs.YtfldplmgkeiimaaGreatDoor
abbrev Vj:=@Int.mul_le_mul_of_nonneg_right
abbrev Vk:=@Int.ediv_nonneg
namespace dd
open Go.RowKit ef
open ct (C k2)
abbrev eN:TypeId:=39
abbrev lU(a b c d:Int):Value:=.agg #[I a,I b,I c,I d]
structure zc where
 Cv:Option (List e3)
 EW:Int
 n:Int
 at_:Int
 e:Int
 m:Int
def ny(k:Int)(v:kH)(m:Int):List eu×Nat×Nat→zc
 |(o,i,f)=>if f≠0 then⟨none,1,k,i,f,m⟩ else match IL o v m with
  |(none,dj)=>⟨none,1,k,0,6,dj⟩
  |(some l,dj)=>⟨some l,0,0,0,0,dj⟩
def xW(bG:Nat)(b5:Int)(w:aeo)(r:zc)(e:Ending)(w':aeo):Prop:=
 w'.heap[bG]?=some (ib b5 (b5-r.m))∧aP (fun k=>k≠bG) w w'∧match r.Cv with
  |none=>e=ab (.tuple #[J 0,lU r.EW r.n r.at_ r.e])
  |some l=>∃sv,e=ab (.tuple #[sv,lU 0 0 0 0])∧Lb (fun k=>w.heap.size≤k) w' sv l
variable{w w':aeo}{k bG:Nat}
theorem jN{a b c d:ada}{t:aai}(h:an w k (#[a,b,c,d]) t):ak w k 0 a∧ak w k 1 b∧ak w k 2 c∧ak w k 3 d:=by refine⟨?_,?_,?_,?_⟩<;>simp[World.cell?,h]
variable{b5:Int}{e:Ending}
theorem wh.get{r:Option (List e3)× Int}(h:wh bG b5 w r e w'):w'.heap[bG]?=some (ib b5 (b5-r.2))∧aP (fun k=>k≠bG) w w':=⟨h.1,h.2.1⟩
theorem wh.no{m:Int}(h:wh bG b5 w (none,m) e w'):e=ab (.tuple #[J 0,I 6]):=h.2.2
theorem wh.yes{m:Int}{l:List e3}(h:wh bG b5 w (some l,m) e w'):∃sv,e=ab (.tuple #[sv,I 0])∧Lb (fun k=>w.heap.size≤k) w' sv l:=h.2.2
structure EX(D L bG:Nat)(mr eJ rW mt:Obj)(x:aeo):Prop where
 j:x.heap[D]?=some mr
 f:x.heap[D+1]?=some eJ
 l:x.heap[L]?=some rW
 g:x.heap[bG]?=some mt
theorem EX.keep{S:afp}{D L:Nat}{mr eJ rW mt:Obj}{x y:aeo}(h:EX D L bG mr eJ rW mt x)(ay:aP S x y)(av:S D)(az:S (D+1))(aC:S L)(bt:S bG):EX D L bG mr eJ rW mt y:=⟨ay.get av h.j,ay.get az h.f,ay.get aC h.l,ay.get bt h.g⟩
theorem Cw{a b c d:ada}{t:aai}(h:an w k (#[a,b,c,d]) t)(k3 bc c' fx:ada):((((w.setCell (aj k 0) k3).setCell (aj k 1) bc).setCell (aj k 2) c').setCell (aj k 3) fx).heap[k]?=some (.cells #[k3,bc,c',fx] t):=by have:=dt (i:=3) fx (dt (i:=2) c' (dt (i:=1) bc (dt (i:=0) k3 h)));exact this
theorem AM{S:afp}(h:¬S k)(a b c d:ada):aP S w ((((w.setCell (aj k 0) a).setCell (aj k 1) b).setCell (aj k 2) c).setCell (aj k 3) d):=
 (((aP.set (a:=⟨k,0,none⟩) h a).trans (aP.set (a:=⟨k,1,none⟩) h b)).trans (aP.set (a:=⟨k,2,none⟩) h c)).trans (aP.set (a:=⟨k,3,none⟩) h d)
theorem aqo(S:afp)(cm cq bQ bM cB ch:Int)(aY:rm ⟨cm,cq,bQ,bM,cB,ch⟩=true)(ls:List ly)(pl:Ja)(nl cl:Nat)(hn:nl=ls.length)(ew:Ja)(bn ec:Nat)(bJ bO ba aB st:Int)(k:Nat)(t:Ua)(ic ie ev al:Int)(hy:ls[k]?=some ⟨t,ic,ie,ev,al,false⟩)(eF:AD t aB)(o:List eu)(i f:Nat)(adz:jx t.data.toList aB=(o,i,f))(pX:∀x∈o,Plain x.2∧sD x.2)
  (bG:Nat) (b5 m:Int) (hm:0≤m∧m≤b5∧b5≤100000000) (w:aeo) (H:af (nY S w pl ls)) (bH:af (w.heap[bG]?=some (ib b5 (b5-m)))) (r:zc) (hr:af (ny k ⟨cm,cq,bQ,bM,cB,ch⟩ m (o,i,f)=r)):
  Calls Tryz.prog 37 #[.agg #[I cm,I cq,I bQ,I bM,I cB,I ch,ad pl nl cl,ad ew bn ec,I bJ,I bO,I ba,I aB,I st],I (k:Int),J 0,ah bG 0] w fun e w'=>xW bG b5 w r e w':=by
 obtain⟨ay,adA⟩:=List.getElem?_eq_some_iff.1 hy;have b0:=aq aY;have qT:=aq eF;have aqp:=aq adz;have qH:=aq pX;have c1:=aq adA;have adB:=aq ay;have axy:k<nl:=by rw[hn];exact ay
 have qt:nl≤1000000000:=by rw[hn];exact H.out.1
 have qi:(0:Int)≤(k:Int):=by omega
 have ej:(k:Int)<(nl:Int):=by omega
 have Hq:=lt_of_heap bH.out;clear aY hn hy eF adz pX adA;go_enter Tryz.func37,Tryz.ntmps37;go_upto_region 1 with fail;obtain⟨W,bo⟩:=ar ((w.alloc (ai (#[I cm,I cq,I bQ,I bM,I cB,I ch,ad pl nl cl,ad ew bn ec,I bJ,I bO,I ba,I aB,I st]) iX)).alloc (ai (#[I 0,I 0,I 0,I 0]) eN));have aI:af (ao w w W):=by show Below _ _ _;rw[←bo];exact (a6 _ _).trans ((a6 _ _).mono (a6 _ _).size)
 have cG:af (an W w.heap.size (#[I cm,I cq,I bQ,I bM,I cB,I ch,ad pl nl cl,ad ew bn ec,I bJ,I bO,I ba,I aB,I st]) iX):=by show _=_;rw[←bo];exact aU (bY w _) (a6 _ _)
 have aO:af (an W (w.heap.size+1) (#[I 0,I 0,I 0,I 0]) eN):=by show _=_;rw[←bo,show w.heap.size+1=(w.alloc (ai (#[I cm,I cq,I bQ,I bM,I cB,I ch,ad pl nl cl,ad ew bn ec,I bJ,I bO,I ba,I aB,I st]) iX)).heap.size from (sx _).symm];exact bY _ _
 rw[bo];clear bo;obtain⟨D,b2⟩:=ar w.heap.size;have kn:=aq b2;rw[b2] at cG aO Hq⊢;clear b2;obtain⟨ht,lg,rfl,aE,aH,gQ,y3,y4,nR⟩:=(H.out.below aI.out).at ay c1.out;obtain⟨jd,gH,gI,gz,gA,je,iY,jo,j2,j3,j4,jf,jq⟩:=pd cG.out;go_upto_region 2 with fail;have gl:af (EX D W.heap.size bG (ai (#[I cm,I cq,I bQ,I bM,I cB,I ch,ad (some (aj ht lg)) nl cl,ad ew bn ec,I bJ,I bO,I ba,I aB,I st]) iX) (ai (#[I 0,I 0,I 0,I 0]) eN) (ai (#[aa t,I ic,I ie,I ev,I al,U false]) c8) (ib b5 (b5-m)) (W.alloc (ai (#[aa t,I ic,I ie,I ev,I al,U false]) c8))):=⟨aU cG.out (a6 _ _),aU aO.out (a6 _ _),bY _ _,aU (aU bH.out aI.out) (a6 _ _)⟩;have c6:af (ao w w (W.alloc (ai (#[aa t,I ic,I ie,I ev,I al,U false]) c8))):=aI.out.trans ((a6 _ _).mono aI.out.size);have xX:af (D+1<W.heap.size∧W.heap.size<(W.alloc (ai (#[aa t,I ic,I ie,I ev,I al,U false]) c8)).heap.size):=⟨lt_of_heap aO.out,by rw[show (W.alloc (ai (#[aa t,I ic,I ie,I ev,I al,U false]) c8)).heap.size=W.heap.size+1 from sx _];exact FF _⟩;clear aE aH gQ y3 y4 nR jd gH gI gz gA je iY jo j2 j3 j4 jf jq cG aO aI bH;generalize W.alloc (.cells #[aa t,I ic,I ie,I ev,I al,U false] c8)=b4 at gl c6 xX⊢;obtain⟨L,jJ⟩:=ar W.heap.size;rw[jJ] at gl xX⊢;clear jJ;have UO:=cell_of (i:=0) gl.out.l rfl;have jf:=cell_of (i:=11) gl.out.j rfl;have JX:=ao1 t aB b4;have adC:(b4.alloc (ai (qU t aB 0 0 0 0 (J 0) 0 0) p')).heap[b4.heap.size]?=some (.cells (qU t aB 0 0 0 0 (J 0) 0 0) p'):=bY _ _;have adD:=aoY b4.heap.size t aB qT.out o (fun x hx=>(qH.out x hx).1) i f aqp.out _ adC;have dc:=a6 b4 (ai (qU t aB 0 0 0 0 (J 0) 0 0) p');have uf:(b4.alloc (ai (qU t aB 0 0 0 0 (J 0) 0 0) p')).heap.size=b4.heap.size+1:=sx _;go_upto_region 3 with (first|(go_at_call 22;refine JX.mono ?_;rintro e w' ⟨rfl,rfl⟩)|(go_at_call 26;refine adD.mono ?_;rintro e cW ⟨fF,d,rfl,G9,yl⟩));have adE:af (aP (fun k=>k≠b4.heap.size) b4 cW):=(aP.dW dc).trans yl;have T1:af (h8 (fun k=>b4.heap.size≤k) cW fF o):=G9.mono fun k _ ay=>by have av:_≤k:=ay;rw[uf] at av;omega
 have iN:af (EX D L bG (ai (#[I cm,I cq,I bQ,I bM,I cB,I ch,ad (some (aj ht lg)) nl cl,ad ew bn ec,I bJ,I bO,I ba,I aB,I st]) iX) (ai (#[I 0,I 0,I 0,I 0]) eN) (ai (#[aa t,I ic,I ie,I ev,I al,U false]) c8) (ib b5 (b5-m)) cW):=gl.out.keep adE.out (by have:=xX.out;omega) (by have:=xX.out;omega) (by have:=xX.out;omega) (by have:=xX.out;omega);have PO:af (aP (fun k=>k<D) w cW):=(aP.dW c6.out).trans (adE.out.mono fun k _ ay=>by have av:k<D:=ay;have:=xX.out;omega);clear UO jf JX adC adD dc uf G9 yl gl;by_cases l4:f=0
 ·subst l4;obtain⟨⟨Cv,m2⟩,adF⟩:=ar (IL o ⟨cm,cq,bQ,bM,cB,ch⟩ m);have Cx:=aq adF;have aqq:¬b4.heap.size≤bG:=(by have:=xX.out;omega);have mQ:Calls Tryz.prog 60 #[ad fF o.length d,.agg #[I cm,I cq,I bQ,I bM,I cB,I ch],ah bG 0] cW (wh bG b5 cW (Cv,m2)):=ap0 (fun k=>b4.heap.size≤k) o (fun x hx=>(qH.out x hx).2) fF o.length d rfl ⟨cm,cq,bQ,bM,cB,ch⟩ b0.out bG aqq b5 m hm cW T1 (aq iN.out.g) (Cv,m2) Cx;have axz:=PO.out.size;have gy:D≤b4.heap.size:=(by have:=xX.out;omega);have PA:=cell_of (i:=5) iN.out.l rfl;obtain⟨jd,gH,gI,gz,gA,je,_,_,_,_,_,_,_⟩:=pd iN.out.j;clear adF;cases Cv with
  |none=>
   go_upto_region 8 with (first|(go_at_call 60;(with_reducible refine mQ.mono ?_);intro e cN mn;obtain⟨EY,jt⟩:=wh.get mn;obtain rfl:=wh.no mn)|fail);have vN:=aq jt;have aqr:=aq EY;have oi:af (EX D L bG (ai (#[I cm,I cq,I bQ,I bM,I cB,I ch,ad (some (aj ht lg)) nl cl,ad ew bn ec,I bJ,I bO,I ba,I aB,I st]) iX) (ai (#[I 0,I 0,I 0,I 0]) eN) (ai (#[aa t,I ic,I ie,I ev,I al,U false]) c8) (ib b5 (b5-m2)) cN):=⟨jt.get (show D≠bG by omega) iN.out.j,jt.get (show D+1≠bG by omega) iN.out.f,jt.get (show L≠bG by have:=xX.out;omega) iN.out.l,EY⟩;clear PA jd gH gI gz gA je mQ mn jt EY;have bw:af (⟨none,1,k,0,6,m2⟩=r):=(by rw[←hr.out];unfold ny;simp only;rw[aW (by decide),Cx.out];exact rfl);obtain⟨a0,bA,a2,a3⟩:=jN oi.out.f;have g0:=cJ oi.out.f 0;have g1:=cJ oi.out.f 1;have g2:=cJ oi.out.f 2;have g3:=cJ oi.out.f 3;go_wp2_with fail;have o4:af (((((cN.setCell (aj (D+1) 0) (I 1)).setCell (aj (D+1) 1) (I (k:Int))).setCell (aj (D+1) 2) (I 0)).setCell (aj (D+1) 3) (I 6)).heap[D+1]?=some (.cells #[I 1,I (k:Int),I 0,I 6] eN)):=Cw oi.out.f (I 1) (I (k:Int)) (I 0) (I 6);have lS:af (aP (fun k=>k≠D+1) cN ((((cN.setCell (aj (D+1) 0) (I 1)).setCell (aj (D+1) 1) (I (k:Int))).setCell (aj (D+1) 2) (I 0)).setCell (aj (D+1) 3) (I 6))):=AM (fun ay=>ay rfl) (I 1) (I (k:Int)) (I 0) (I 6);clear a0 bA a2 a3 g0 g1 g2 g3;generalize (((cN.setCell (aj (D+1) 0) (I 1)).setCell (aj (D+1) 1) (I (k:Int))).setCell (aj (D+1) 2) (I 0)).setCell (aj (D+1) 3) (I 6)=e6 at o4 lS⊢;obtain⟨ek,a7,bf,cM⟩:=jN o4.out;rw[←bw.out];refine dU (v:=.tuple #[J 0,lU 1 (k:Int) 0 6]) (by simp[results,Tryz.results37,go_sem,ek,a7,bf,cM]) rfl ⟨?_,?_,?_⟩
   ·exact lS.out.get (show bG≠D+1 by omega) oi.out.g
   ·exact ((PO.out.mono (R:=fun k=>k<D∧k≠bG∧k≠D+1) fun k _ ay=>ay.1).trans ((vN.out.mono (R:=fun k=>k<D∧k≠bG∧k≠D+1) fun k _ ay=>ay.2.1).trans (lS.out.mono (R:=fun k=>k<D∧k≠bG∧k≠D+1) fun k _ ay=>ay.2.2))).mono fun k ay hne=>⟨by have:=kn.out;omega,hne,by have:=kn.out;omega⟩
   ·exact rfl
  |some lc=>
   go_upto_region 8 with (first|(go_at_call 60;(with_reducible refine mQ.mono ?_);intro e cN mn;obtain⟨EY,jt⟩:=wh.get mn;obtain⟨sv,rfl,AA⟩:=wh.yes mn)|fail);have vN:=aq jt;have aqr:=aq EY;have oi:af (EX D L bG (ai (#[I cm,I cq,I bQ,I bM,I cB,I ch,ad (some (aj ht lg)) nl cl,ad ew bn ec,I bJ,I bO,I ba,I aB,I st]) iX) (ai (#[I 0,I 0,I 0,I 0]) eN) (ai (#[aa t,I ic,I ie,I ev,I al,U false]) c8) (ib b5 (b5-m2)) cN):=⟨jt.get (show D≠bG by omega) iN.out.j,jt.get (show D+1≠bG by omega) iN.out.f,jt.get (show L≠bG by have:=xX.out;omega) iN.out.l,EY⟩;have HC:=aq AA;clear PA jd gH gI gz gA je mQ mn jt EY AA;have bw:af (⟨some lc,0,0,0,0,m2⟩=r):=(by rw[←hr.out];unfold ny;simp only;rw[aW (by decide),Cx.out];exact rfl);obtain⟨a0,bA,a2,a3⟩:=jN oi.out.f;have g0:=cJ oi.out.f 0;have g1:=cJ oi.out.f 1;have g2:=cJ oi.out.f 2;have g3:=cJ oi.out.f 3;go_wp2_with fail;have o4:af (((((cN.setCell (aj (D+1) 0) (I 0)).setCell (aj (D+1) 1) (I 0)).setCell (aj (D+1) 2) (I 0)).setCell (aj (D+1) 3) (I 0)).heap[D+1]?=some (.cells #[I 0,I 0,I 0,I 0] eN)):=Cw oi.out.f (I 0) (I 0) (I 0) (I 0);have lS:af (aP (fun k=>k≠D+1) cN ((((cN.setCell (aj (D+1) 0) (I 0)).setCell (aj (D+1) 1) (I 0)).setCell (aj (D+1) 2) (I 0)).setCell (aj (D+1) 3) (I 0))):=AM (fun ay=>ay rfl) (I 0) (I 0) (I 0) (I 0);clear a0 bA a2 a3 g0 g1 g2 g3;generalize (((cN.setCell (aj (D+1) 0) (I 0)).setCell (aj (D+1) 1) (I 0)).setCell (aj (D+1) 2) (I 0)).setCell (aj (D+1) 3) (I 0)=e6 at o4 lS⊢;obtain⟨ek,a7,bf,cM⟩:=jN o4.out;rw[←bw.out];refine dU (v:=.tuple #[sv,lU 0 0 0 0]) (by simp[results,Tryz.results37,go_sem,ek,a7,bf,cM]) rfl ⟨?_,?_,?_⟩
   ·exact lS.out.get (show bG≠D+1 by omega) oi.out.g
   ·exact ((PO.out.mono (R:=fun k=>k<D∧k≠bG∧k≠D+1) fun k _ ay=>ay.1).trans ((vN.out.mono (R:=fun k=>k<D∧k≠bG∧k≠D+1) fun k _ ay=>ay.2.1).trans (lS.out.mono (R:=fun k=>k<D∧k≠bG∧k≠D+1) fun k _ ay=>ay.2.2))).mono fun k ay hne=>⟨by have:=kn.out;omega,hne,by have:=kn.out;omega⟩
   ·refine⟨sv,rfl,?_⟩;obtain⟨EZ,AL,adG⟩:=HC.out;exact⟨EZ,nT AL lS.out (fun k e=>by have av:cW.heap.size≤k:=adG k e;have az:=lt_of_heap iN.out.f;show k≠D+1;omega),fun k e=>by have av:cW.heap.size≤k:=adG k e;show w.heap.size≤k;omega⟩
 ·have nK:(((f:Int) !=0):Bool)=true:=(by rw[wK];omega);have bw:af (⟨none,1,k,i,f,m⟩=r):=(by rw[←hr.out];unfold ny;simp only;rw[bb l4];exact rfl);obtain⟨a0,bA,a2,a3⟩:=jN iN.out.f;have g0:=cJ iN.out.f 0;have g1:=cJ iN.out.f 1;have g2:=cJ iN.out.f 2;have g3:=cJ iN.out.f 3;go_wp2_with fail;have o4:af (((((cW.setCell (aj (D+1) 0) (I 1)).setCell (aj (D+1) 1) (I (k:Int))).setCell (aj (D+1) 2) (I (i:Int))).setCell (aj (D+1) 3) (I (f:Int))).heap[D+1]?=some (.cells #[I 1,I (k:Int),I (i:Int),I (f:Int)] eN)):=Cw iN.out.f (I 1) (I (k:Int)) (I (i:Int)) (I (f:Int));have lS:af (aP (fun k=>k≠D+1) cW ((((cW.setCell (aj (D+1) 0) (I 1)).setCell (aj (D+1) 1) (I (k:Int))).setCell (aj (D+1) 2) (I (i:Int))).setCell (aj (D+1) 3) (I (f:Int)))):=AM (fun ay=>ay rfl) (I 1) (I (k:Int)) (I (i:Int)) (I (f:Int));clear a0 bA a2 a3 g0 g1 g2 g3;generalize (((cW.setCell (aj (D+1) 0) (I 1)).setCell (aj (D+1) 1) (I (k:Int))).setCell (aj (D+1) 2) (I (i:Int))).setCell (aj (D+1) 3) (I (f:Int))=e6 at o4 lS⊢;obtain⟨ek,a7,bf,cM⟩:=jN o4.out;rw[←bw.out];refine dU (v:=.tuple #[J 0,lU 1 (k:Int) (i:Int) (f:Int)]) (by simp[results,Tryz.results37,go_sem,ek,a7,bf,cM]) rfl ⟨?_,?_,rfl⟩
  ·exact lS.out.get (show bG≠D+1 by omega) iN.out.g
  ·exact ((PO.out.mono (R:=fun k=>k<D∧k≠D+1) fun k _ ay=>ay.1).trans (lS.out.mono (R:=fun k=>k<D∧k≠D+1) fun k _ ay=>ay.2)).mono fun k ay hne=>⟨by have:=kn.out;omega,by have:=kn.out;omega⟩
def AN(l:ly):Bool:=iW l.r&&(iW l.g&&(iW l.b&&iW l.al))
def wi(v:kH)(ls:List ly)(bn:Nat)(bJ bO ba:Int):Bool:=rm v&&(decide (ls.length≤32)&&(decide (bn≤32)&&(ls.all AN&&(iW bJ&&(iW bO&&iW ba)))))
theorem Vl(S:afp)(cm cq bQ bM cB ch:Int)(ls:List ly)(pl:Ja)(nl cl:Nat)(hn:nl=ls.length)(ew:Ja)(bn ec:Nat)(bJ bO ba aB st:Int)(w:aeo)(H:af (nY S w pl ls))(f:Bool)(hf:af (wi ⟨cm,cq,bQ,bM,cB,ch⟩ ls bn bJ bO ba=f)):
  Calls Tryz.prog 35 #[.agg #[I cm,I cq,I bQ,I bM,I cB,I ch,ad pl nl cl,ad ew bn ec,I bJ,I bO,I ba,I aB,I st]] w fun e w'=>e=ab (U f)∧ao w w w':=by
 have bd:=aq hn;have oa:nl≤1000000000:=by rw[hn];exact H.out.1
 obtain⟨Vm,Vn⟩:=ar (rm ⟨cm,cq,bQ,bM,cB,ch⟩);have aqs:=aq Vn;have aO:af ((Vm&&(decide (nl≤32)&&(decide (bn≤32)&&(ls.all AN&&(iW bJ&&(iW bO&&iW ba))))))=f):=by show _=_;rw[←hf.out,←Vn,hn];rfl
 clear hn Vn hf;go_enter Tryz.func35,Tryz.ntmps35;go_upto_region 1 with fail;have cG:af ((w.alloc (ai (#[I cm,I cq,I bQ,I bM,I cB,I ch,ad pl nl cl,ad ew bn ec,I bJ,I bO,I ba,I aB,I st]) iX)).heap[w.heap.size]?=some (.cells #[I cm,I cq,I bQ,I bM,I cB,I ch,ad pl nl cl,ad ew bn ec,I bJ,I bO,I ba,I aB,I st] iX)):=bY _ _;have aI:af (ao w w (w.alloc (ai (#[I cm,I cq,I bQ,I bM,I cB,I ch,ad pl nl cl,ad ew bn ec,I bJ,I bO,I ba,I aB,I st]) iX))):=a6 _ _;generalize w.alloc (.cells #[I cm,I cq,I bQ,I bM,I cB,I ch,ad pl nl cl,ad ew bn ec,I bJ,I bO,I ba,I aB,I st] iX)=W at cG aI⊢;obtain⟨jd,gH,gI,gz,gA,je,iY,jo,j2,j3,j4,jf,jq⟩:=pd cG.out;go_wp2_with fail;with_reducible refine (PC ⟨cm,cq,bQ,bM,cB,ch⟩ Vm aqs _).mono ?_
 rintro e b7 ⟨rfl,ax⟩;have adH:=aq (aU cG.out ax);have cC:af (ao w w b7):=aI.out.trans (ax.mono aI.out.size);clear jd gH gI gz gA je iY jo j2 j3 j4 jf jq ax cG aI;obtain⟨jd,gH,gI,gz,gA,je,iY,jo,j2,j3,j4,jf,jq⟩:=pd adH.out;cases Vm with
 |false=>
  have bw:af (false=f):=aO.out;go_wp2_with fail;go_ret;exact⟨dD bw.out,cC.out⟩
 |true=>
  by_cases aN:nl≤32
  case neg=>
   have bw:af (false=f):=(by show _=_;rw[←aO.out,ey aN];rfl);have aqt:(nl:Int)> 32:=(by omega);go_wp2_with fail
   all_goals
    go_ret;exact⟨dD bw.out,cC.out⟩
  have aqt:¬(nl:Int)> 32:=(by omega);by_cases aJ:bn≤32
  case neg=>
   have bw:af (false=f):=(by show _=_;rw[←aO.out,eL aN,ey aJ];rfl);have aqu:(bn:Int)> 32:=(by omega);go_wp2_with fail
   all_goals
    go_ret;exact⟨dD bw.out,cC.out⟩
  have aqu:¬(bn:Int)> 32:=(by omega);have fT:af (((ls.drop 0).all AN&&(iW bJ&&(iW bO&&iW ba)))=f):=(by show _=_;rw[←aO.out,eL aN,eL aJ];rfl);clear aN aJ;go_wp2_with fail;clear jd gH gI gz gA je iY jo j2 j3 j4 jf jq
  go_loopw [24] (fun i wr=>∃(j:Nat) (aM:aeo),aM=wr∧j≤nl∧i=I j∧af (((ls.drop j).all AN&&(iW bJ&&(iW bO&&iW ba)))=f)∧af (ao b7 b7 aM)) (fun i _=>nl -(intOf i).toNat)
  case atStart=>exact⟨0,_,rfl,dO _,rfl,fT.out,Below.refl _ _⟩
  case round=>
  obtain⟨j,aM,rfl,cd,rfl,e0,c1⟩:=hrel;have nM:af (ao w w aM):=cC.out.trans (c1.out.mono cC.out.size);by_cases bR:j<nl
  ·have fE:j<ls.length:=(by rw[←bd.out];exact bR);have gU:(j:Int)<(nl:Int):=(by omega);obtain⟨y,hy⟩:=ar (ls[j]);obtain⟨ht,lg,rfl,aE,aH,gQ,y3,y4,nR⟩:=(H.out.below nM.out).at fE hy;obtain⟨cS,er⟩:=ar (iW y.r);obtain⟨bq,dc⟩:=ar (iW y.g);obtain⟨fA,im⟩:=ar (iW y.b);obtain⟨GO,jE⟩:=ar (iW y.al);have tw:af (((cS&&(bq&&(fA&&GO)))&&((ls.drop (j+1)).all AN&&(iW bJ&&(iW bO&&iW ba))))=f):=(by show _=_;rw[←e0.out,lD fE,hy,List.all_cons,AN,er,dc,im,jE];exact (Bool.and_assoc _ _ _).symm);have PH:=aq er;have PJ:=aq dc;have Vo:=aq im;have aqv:=aq jE;have Ad:=aq (c1.out.trans ((a6 aM (ai (#[aa y.t,I y.r,I y.g,I y.b,I y.al,U y.te]) c8)).mono c1.out.size));have ng:af (ao w w (aM.alloc (ai (#[aa y.t,I y.r,I y.g,I y.b,I y.al,U y.te]) c8))):=cC.out.trans (Ad.out.mono cC.out.size);have hN:af ((aM.alloc (ai (#[aa y.t,I y.r,I y.g,I y.b,I y.al,U y.te]) c8)).heap[aM.heap.size]?=some (.cells #[aa y.t,I y.r,I y.g,I y.b,I y.al,U y.te] c8)):=bY _ _;clear er dc im jE hy;go_upto_region 6 with fail;generalize aM.alloc (.cells #[aa y.t,I y.r,I y.g,I y.b,I y.al,U y.te] c8)=axA at Ad ng hN⊢;obtain⟨D,b2⟩:=ar aM.heap.size;rw[b2] at hN⊢;clear b2 aE aH gQ y3 y4 nR;have aH:=cell_of (i:=1) hN.out rfl;have gQ:=cell_of (i:=2) hN.out rfl;have y3:=cell_of (i:=3) hN.out rfl;have y4:=cell_of (i:=4) hN.out rfl;go_wp2_with fail;with_reducible refine (EV y.r cS PH _).mono ?_
   rintro e Bf ⟨rfl,rfl⟩;cases cS with
   |false=>
    have bw:af (false=f):=(by show _=_;rw[←tw.out];simp);go_wp2_with fail;go_ret;exact⟨dD bw.out,ng.out⟩
   |true=>
    go_wp2_with fail;with_reducible refine (EV y.g bq PJ _).mono ?_
    rintro e Bf ⟨rfl,rfl⟩;cases bq with
    |false=>
     have bw:af (false=f):=(by show _=_;rw[←tw.out];simp);go_wp2_with fail;go_ret;exact⟨dD bw.out,ng.out⟩
    |true=>
     go_wp2_with fail;with_reducible refine (EV y.b fA Vo _).mono ?_
     rintro e Bf ⟨rfl,rfl⟩;cases fA with
     |false=>
      have bw:af (false=f):=(by show _=_;rw[←tw.out];simp);go_wp2_with fail;go_ret;exact⟨dD bw.out,ng.out⟩
     |true=>
      go_wp2_with fail;with_reducible refine (EV y.al GO aqv _).mono ?_
      rintro e Bf ⟨rfl,rfl⟩;cases GO with
      |false=>
       have bw:af (false=f):=(by show _=_;rw[←tw.out];simp);go_wp2_with fail;go_ret;exact⟨dD bw.out,ng.out⟩
      |true=>
       have Ix:af (((ls.drop (j+1)).all AN&&(iW bJ&&(iW bO&&iW ba)))=f):=tw.out;go_wp2_with fail;go_round<;>first|exact⟨j+1,_,rfl,by omega,by go_num,Ix.out,Ad.out⟩|(simp[intOf]<;>omega)
  ·have iH:j=nl:=(by omega);have Ll:af ((iW bJ&&(iW bO&&iW ba))=f):=(by show _=_;rw[←e0.out,mU (by rw[←bd.out];omega)];rfl);subst iH;obtain⟨cS,er⟩:=ar (iW bJ);obtain⟨bq,dc⟩:=ar (iW bO);obtain⟨fA,im⟩:=ar (iW ba);rw[er,dc,im] at Ll;have PH:=aq er;have PJ:=aq dc;have Vo:=aq im;clear er dc im;have aqw:=aq (aU adH.out c1.out);obtain⟨jd,gH,gI,gz,gA,je,iY,jo,j2,j3,j4,jf,jq⟩:=pd aqw.out;go_wp2_with fail;with_reducible refine (EV bJ cS PH _).mono ?_
   rintro e Bf ⟨rfl,rfl⟩;cases cS with
   |false=>
    have bw:af (false=f):=(by show _=_;rw[←Ll.out];simp);go_wp2_with fail;go_ret;exact⟨dD bw.out,nM.out⟩
   |true=>
    go_wp2_with fail;with_reducible refine (EV bO bq PJ _).mono ?_
    rintro e Bf ⟨rfl,rfl⟩;cases bq with
    |false=>
     have bw:af (false=f):=(by show _=_;rw[←Ll.out];simp);go_wp2_with fail;go_ret;exact⟨dD bw.out,nM.out⟩
    |true=>
     go_wp2_with fail;with_reducible refine (EV ba fA Vo _).mono ?_
     rintro e Bf ⟨rfl,rfl⟩;cases fA with
     |false=>
      have bw:af (false=f):=(by show _=_;rw[←Ll.out];simp);go_wp2_with fail;go_ret;exact⟨dD bw.out,nM.out⟩
     |true=>
      have bw:af (true=f):=Ll.out;go_wp2_with fail;go_ret;exact⟨dD bw.out,nM.out⟩
theorem aqx(cm cq bQ bM cB ch:Int)(pl:Ja)(nl cl:Nat)(ew:Ja)(ec:Nat)(bJ bO ba aB st:Int)(w:aeo):
  Calls Tryz.prog 36 #[.agg #[I cm,I cq,I bQ,I bM,I cB,I ch,ad pl nl cl,ad ew 0 ec,I bJ,I bO,I ba,I aB,I st]] w fun e w'=>e=ab (.tuple #[J 0,lU 0 0 0 0])∧ao w w w':=by
 go_enter Tryz.func36,Tryz.ntmps36;go_upto_region 1 with fail;obtain⟨W,bo⟩:=ar ((w.alloc (ai (#[I cm,I cq,I bQ,I bM,I cB,I ch,ad pl nl cl,ad ew 0 ec,I bJ,I bO,I ba,I aB,I st]) iX)).alloc (ai (#[I 0,I 0,I 0,I 0]) eN));have aI:af (ao w w W):=by show Below _ _ _;rw[←bo];exact (a6 _ _).trans ((a6 _ _).mono (a6 _ _).size)
 have cG:af (an W w.heap.size (#[I cm,I cq,I bQ,I bM,I cB,I ch,ad pl nl cl,ad ew 0 ec,I bJ,I bO,I ba,I aB,I st]) iX):=by show _=_;rw[←bo];exact aU (bY w _) (a6 _ _)
 have aO:af (an W (w.heap.size+1) (#[I 0,I 0,I 0,I 0]) eN):=by show _=_;rw[←bo,show w.heap.size+1=(w.alloc (ai (#[I cm,I cq,I bQ,I bM,I cB,I ch,ad pl nl cl,ad ew 0 ec,I bJ,I bO,I ba,I aB,I st]) iX)).heap.size from (sx _).symm];exact bY _ _
 rw[bo];clear bo;obtain⟨D,b2⟩:=ar w.heap.size;have kn:=aq b2;rw[b2] at cG aO⊢;clear b2;have jo:=cell_of (i:=7) cG.out rfl;go_wp2_with fail;clear jo
 go_loopw [4,13] (fun aY i wr=>aY=J 0∧i=I 0∧wr=W) (fun _ _ _=>0)
 case atStart=>exact⟨rfl,rfl,rfl⟩
 case round=>
 obtain⟨rfl,rfl,rfl⟩:=hrel;obtain⟨a0,bA,a2,a3⟩:=jN aO.out;have g0:=cJ aO.out 0;have g1:=cJ aO.out 1;have g2:=cJ aO.out 2;have g3:=cJ aO.out 3;go_wp2_with fail;have o4:af (((((wr.setCell (aj (D+1) 0) (I 0)).setCell (aj (D+1) 1) (I 0)).setCell (aj (D+1) 2) (I 0)).setCell (aj (D+1) 3) (I 0)).heap[D+1]?=some (.cells #[I 0,I 0,I 0,I 0] eN)):=Cw aO.out _ _ _ _;have uD:af (ao w w ((((wr.setCell (aj (D+1) 0) (I 0)).setCell (aj (D+1) 1) (I 0)).setCell (aj (D+1) 2) (I 0)).setCell (aj (D+1) 3) (I 0))):=(((aI.out.setCell (p:=⟨D+1,0,none⟩) (by have:=kn.out;show _≤D+1;omega) _).setCell (p:=⟨D+1,1,none⟩) (by have:=kn.out;show _≤D+1;omega) _).setCell (p:=⟨D+1,2,none⟩) (by have:=kn.out;show _≤D+1;omega) _).setCell (p:=⟨D+1,3,none⟩) (by have:=kn.out;show _≤D+1;omega) _;clear a0 bA a2 a3 g0 g1 g2 g3;generalize (((wr.setCell (aj (D+1) 0) (I 0)).setCell (aj (D+1) 1) (I 0)).setCell (aj (D+1) 2) (I 0)).setCell (aj (D+1) 3) (I 0)=e6 at o4 uD⊢;obtain⟨ek,a7,bf,cM⟩:=jN o4.out;exact dU (v:=.tuple #[J 0,lU 0 0 0 0]) (by simp[results,Tryz.results36,go_sem,ek,a7,bf,cM]) rfl ⟨rfl,uD.out⟩
end dd
namespace dd
open Go.RowKit ef
open pk (lf sz)
structure Cy(w:aeo)(D:Nat)(mr:ajv)(x:aeo):Prop where
 aX:ao w w x
 j:an x D mr iX
 eJ:an x (D+1) (#[I 0,I 0,I 0,I 0]) eN
variable{mr:ajv}
theorem Cy.below{w:aeo}{D:Nat}{x y:aeo}(h:Cy w D mr x)(ax:ao x x y):Cy w D mr y:=⟨h.aX.trans (ax.mono h.aX.size),aU h.j ax,aU h.eJ ax⟩
theorem Cy.keep{w:aeo}{D:Nat}{x y z:aeo}(h:Cy w D mr x)(ax:ao x x y)(ay:aP (fun k=>k≠x.heap.size) y z):Cy w D mr z:=by have az:=h.below ax;have aC:=h.aX.size;have bt:=lt_of_heap h.eJ;exact⟨az.aX.trans (ay.below _ az.aX.size fun k ay=>by omega),ay.get (by omega) az.j,ay.get (by omega) az.eJ⟩
theorem aqy{P:Program}{w:aeo}{ops:Array Oper}{rest:List Oper}{o:Oper}{a:Act}{Q:Exit→Act→aeo→Prop}(Ul:o.guard=none)(s x:Operand)(t:aai)
  (bm:o.op=.call {callee:=.builtin .append,args:= #[s,x],argTypes:= #[t,t]}) (v u:ada) (hs:a.eval s=v) (hx:a.eval x=u)
  (hr:(Builtin.append_ #[t,t] o.type #[v,u]).run P w=.ok v w) (h:wpList P ops Q rest (a.put o.dst v) w):wpList P ops Q (o::rest) a w:=by
 refine wpList_plain Ul fun _ hK=>?_;unfold Oper.wp execOp;simp only[bm,resolve,invoke,builtin,zV,MV,uZ,List.map_toArray,yh,yO,hs,hx,hr];exact hK _ _ h
theorem aqz(q:Ja)(w:aeo):(Builtin.append_ #[65,65] 65 #[J 0,ad q 0 0]).run Tryz.prog w=.ok (J 0) w:=by cases q<;>rfl
theorem aqA(cm cq bQ bM cB ch:Int)(pl:Ja)(nl cl:Nat)(b o ec:Nat)(bJ bO ba aB st:Int)(HD HE:Ua)(av:sz false 0 HD)(az:sz true 4 HE)(w:aeo)(ff:lf w)(aN:ak w b o (aa HD))(aJ:ak w b (o+1) (aa HE))(ax:b<w.heap.size):
  Calls Tryz.prog 36 #[.agg #[I cm,I cq,I bQ,I bM,I cB,I ch,ad pl nl cl,ag b o 2 ec,I bJ,I bO,I ba,I aB,I st]] w fun e w'=>e=ab (.tuple #[J 0,lU 2 1 4 4])∧ao w w w':=by
 have adI:=aq ff;have adJ:=aq (And.intro av az);have bC:=aq (fun Z (eY:ao w w Z)=>And.intro ((eY.cell (p:=⟨b,o,none⟩) ax).trans aN) ((eY.cell (p:=⟨b,o+1,none⟩) ax).trans aJ));clear ff av az aN aJ;go_enter Tryz.func36,Tryz.ntmps36;go_upto_region 1 with fail;refine ahv (P:=Code.wp _ _ _ _) fun W cd hf bK=>?_;have aI:=aq bK;have cG:=aq cd;have aO:=aq hf;obtain⟨D,b2⟩:=ar w.heap.size;have kn:=aq b2;rw[b2] at cG aO⊢;clear b2 cd hf bK;have jo:=cell_of (i:=7) cG.out rfl;go_wp2_with fail;clear jo;have pD:af (Cy w D #[I cm,I cq,I bQ,I bM,I cB,I ch,ad pl nl cl,ag b o 2 ec,I bJ,I bO,I ba,I aB,I st] W):=⟨aI.out,cG.out,aO.out⟩;clear aI cG aO
 go_loopw [4,13] (fun aY tQ wr=>∃(k:Nat) (dw:aeo),dw=wr∧k≤1∧aY=J 0∧tQ=I k∧af (Cy w D #[I cm,I cq,I bQ,I bM,I cB,I ch,ad pl nl cl,ag b o 2 ec,I bJ,I bO,I ba,I aB,I st] dw)) (fun _ tQ _=>2 -(intOf tQ).toNat)
 case atStart=>exact⟨0,_,rfl,by decide,rfl,rfl,pD.out⟩
 case round=>
 obtain⟨k,dw,rfl,ej,rfl,rfl,xY⟩:=hrel;clear pD;have Vp:=adI.out.below (xY.out.aX.trans ((a6 dw (ai (qW HD aB 0 0 0 0 0) qa)).mono xY.out.aX.size));have Vq:=adI.out.below (xY.out.aX.trans ((a6 dw (ai (qW HE aB 0 0 0 0 0) qa)).mono xY.out.aX.size));have jf:=cell_of (i:=11) xY.out.j rfl;rcases (show k=0∨k=1 by omega) with rfl|rfl
 ·have aQ:=(bC.out _ xY.out.aX).1;have hn:=acy HD aB dw;have hs:=acz dw.heap.size false 0 HD adJ.out.1 0 0 rfl aB _ Vp (bY dw (ai (qW HD aB 0 0 0 0 0) qa));go_upto_region 6 with (first|(go_at_call 24;(with_reducible refine hn.mono ?_);rintro e cc ⟨rfl,rfl⟩)|(go_at_call 27;(with_reducible refine hs.mono ?_);rintro e b9 ⟨q,rfl,fs⟩)|fail);have cA:=aq (xY.out.keep (a6 _ _) fs);clear fs hs hn jf aQ Vp Vq xY;go_upto_region 9 with (first|(at_builtin;refine aqy rfl _ _ _ rfl (J 0) (ad q 0 0) (by rfl) (by rfl) (aqz q _) ?_)|fail);go_wp2_with fail;go_round<;>first|exact⟨1,_,rfl,by decide,rfl,rfl,cA.out⟩|(simp[intOf]<;>omega)
 ·have aN:=(bC.out _ xY.out.aX).2;have hn:=acy HE aB dw;have hs:=acz dw.heap.size true 4 HE adJ.out.2 4 4 rfl aB _ Vq (bY dw (ai (qW HE aB 0 0 0 0 0) qa));go_upto_region 6 with (first|(go_at_call 24;(with_reducible refine hn.mono ?_);rintro e cc ⟨rfl,rfl⟩)|(go_at_call 27;(with_reducible refine hs.mono ?_);rintro e b9 ⟨q,rfl,fs⟩)|fail);have cA:=aq (xY.out.keep (a6 _ _) fs);clear fs hs hn jf aN Vp Vq xY;obtain⟨a0,bA,a2,a3⟩:=jN cA.out.eJ;have g0:=fun i=>cJ cA.out.eJ i;have o4:=aq (Cw cA.out.eJ (I 2) (I 1) (I 4) (I 4));have lS:af (aP (fun k=>k≠D+1) b9 ((((b9.setCell (aj (D+1) 0) (I 2)).setCell (aj (D+1) 1) (I 1)).setCell (aj (D+1) 2) (I 4)).setCell (aj (D+1) 3) (I 4))):=AM (fun ay=>ay rfl) (I 2) (I 1) (I 4) (I 4);go_wp2_with fail;have uD:=aq (cA.out.aX.trans (lS.out.below _ cA.out.aX.size (fun k ay=>by have:=kn.out;omega)));generalize (((b9.setCell (aj (D+1) 0) (I 2)).setCell (aj (D+1) 1) (I 1)).setCell (aj (D+1) 2) (I 4)).setCell (aj (D+1) 3) (I 4)=e6 at o4 lS uD⊢;obtain⟨ek,a7,bf,cM⟩:=jN o4.out;exact dU (v:=.tuple #[J 0,lU 2 1 4 4]) (by simp[results,Tryz.results36,go_sem,ek,a7,bf,cM]) rfl ⟨rfl,uD.out⟩
end dd
namespace dd
open Go.RowKit ef
open ct (C k2)
def Lm(w:aeo)(r:zc)(e:Ending)(w':aeo):Prop:=Below w.heap.size w w'∧match r.Cv with
 |none=>e=ab (.tuple #[J 0,lU r.EW r.n r.at_ r.e])
 |some l=>∃sv,e=ab (.tuple #[sv,lU 0 0 0 0])∧Lb (fun k=>w.heap.size≤k) w' sv l
variable{bG:Nat}{b5:Int}{w w':aeo}{e:Ending}
theorem xW.get{r:zc}(h:xW bG b5 w r e w'):w'.heap[bG]?=some (ib b5 (b5-r.m))∧aP (fun k=>k≠bG) w w':=⟨h.1,h.2.1⟩
theorem xW.no{EW n a nj m:Int}(h:xW bG b5 w ⟨none,EW,n,a,nj,m⟩ e w'):e=ab (.tuple #[J 0,lU EW n a nj]):=h.2.2
theorem xW.yes{EW n a nj m:Int}{l:List e3}(h:xW bG b5 w ⟨some l,EW,n,a,nj,m⟩ e w'):∃sv,e=ab (.tuple #[sv,lU 0 0 0 0])∧Lb (fun k=>w.heap.size≤k) w' sv l:=h.2.2
theorem aqB(S:afp)(cm cq bQ bM cB ch:Int)(ls:List ly)(pl:Ja)(nl cl:Nat)(hn:nl=ls.length)(ew:Ja)(ec:Nat)(bJ bO ba aB st:Int)(k:Int)(pL:wi ⟨cm,cq,bQ,bM,cB,ch⟩ ls 0 bJ bO ba=true)(ay:(nl:Int)≤k)(w:aeo)(H:af (nY S w pl ls)):
  Calls Tryz.prog 16 #[.agg #[I cm,I cq,I bQ,I bM,I cB,I ch,ad pl nl cl,ad ew 0 ec,I bJ,I bO,I ba,I aB,I st],I k] w fun e w'=>Lm w ⟨none,0,0,0,1,0⟩ e w':=by
 have Ln:=aq pL;have bd:=aq hn;have qi:¬k<0:=by omega
 clear pL hn;go_enter Tryz.func16,Tryz.ntmps16;go_upto_region 1 with fail;obtain⟨W,bo⟩:=ar ((w.alloc (ai (#[I cm,I cq,I bQ,I bM,I cB,I ch,ad pl nl cl,ad ew 0 ec,I bJ,I bO,I ba,I aB,I st]) iX)).alloc (ai (#[I 0,I 0,I 0,I 0]) eN));have aI:af (ao w w W):=by show Below _ _ _;rw[←bo];exact (a6 _ _).trans ((a6 _ _).mono (a6 _ _).size)
 have cG:af (an W w.heap.size (#[I cm,I cq,I bQ,I bM,I cB,I ch,ad pl nl cl,ad ew 0 ec,I bJ,I bO,I ba,I aB,I st]) iX):=by show _=_;rw[←bo];exact aU (bY w _) (a6 _ _)
 have aO:af (an W (w.heap.size+1) (#[I 0,I 0,I 0,I 0]) eN):=by show _=_;rw[←bo,show w.heap.size+1=(w.alloc (ai (#[I cm,I cq,I bQ,I bM,I cB,I ch,ad pl nl cl,ad ew 0 ec,I bJ,I bO,I ba,I aB,I st]) iX)).heap.size from (sx _).symm];exact bY _ _
 rw[bo];clear bo;obtain⟨D,b2⟩:=ar w.heap.size;have kn:=aq b2;rw[b2] at cG aO⊢;clear b2;obtain⟨jd,gH,gI,gz,gA,je,iY,jo,j2,j3,j4,jf,jq⟩:=pd cG.out;have sc:=Vl S cm cq bQ bM cB ch ls pl nl cl bd.out ew 0 ec bJ bO ba aB st W (aq (H.out.below aI.out)) true Ln;go_upto_region 2 with (go_at_call 35;(with_reducible refine sc.mono ?_);rintro e b4 ⟨rfl,dc⟩;have iY:=bV dc iY);have c6:=aq (aI.out.trans (dc.mono aI.out.size));have fT:=aq (aU aO.out dc);obtain⟨a0,bA,a2,a3⟩:=jN fT.out;have g0:=cJ fT.out 0;have g1:=cJ fT.out 1;have g2:=cJ fT.out 2;have g3:=cJ fT.out 3;go_wp2_with fail;have o4:af (((((b4.setCell (aj (D+1) 0) (I 0)).setCell (aj (D+1) 1) (I 0)).setCell (aj (D+1) 2) (I 0)).setCell (aj (D+1) 3) (I 1)).heap[D+1]?=some (.cells #[I 0,I 0,I 0,I 1] eN)):=Cw fT.out (I 0) (I 0) (I 0) (I 1);have lS:af (aP (fun k=>k≠D+1) b4 ((((b4.setCell (aj (D+1) 0) (I 0)).setCell (aj (D+1) 1) (I 0)).setCell (aj (D+1) 2) (I 0)).setCell (aj (D+1) 3) (I 1))):=AM (fun ay=>ay rfl) (I 0) (I 0) (I 0) (I 1);have uD:af (ao w w ((((b4.setCell (aj (D+1) 0) (I 0)).setCell (aj (D+1) 1) (I 0)).setCell (aj (D+1) 2) (I 0)).setCell (aj (D+1) 3) (I 1))):=c6.out.trans (lS.out.below _ c6.out.size (fun k ay=>by have:=kn.out;omega));generalize (((b4.setCell (aj (D+1) 0) (I 0)).setCell (aj (D+1) 1) (I 0)).setCell (aj (D+1) 2) (I 0)).setCell (aj (D+1) 3) (I 1)=e6 at o4 lS uD⊢;obtain⟨ek,a7,bf,cM⟩:=jN o4.out;exact dU (v:=.tuple #[J 0,lU 0 0 0 1]) (by simp[results,Tryz.results16,go_sem,ek,a7,bf,cM]) rfl ⟨uD.out,rfl⟩
end dd
namespace ef
theorem adK(v:kH)(g:List fL)(y:Nat):∀(k x:Nat) (acc:List e3) (m:Int) (r:List e3) (dj:Int),0≤m→mD v g y k x acc m=(some r,dj)→(∀c∈acc,pc (4^v.depth.toNat) c)→(∀c∈r,pc (4^v.depth.toNat) c)∧r.length=acc.length+k∧0≤dj∧dj≤m
 |0,x,acc,m,r,dj,hm,h,ha=>by simp only[mD,gh,n7] at h;obtain⟨rfl,rfl⟩:=h;exact⟨ha,rfl,hm,rv _⟩
 |k+1,x,acc,m,r,dj,hm,h,ha=>by
  unfold mD at h;split at h
  ·simp at h
  ·rename_i c m1 he;obtain⟨av,az,aC⟩:=PB _ _ _ _ _ _ he
   obtain ⟨g1,g2,g3,g4⟩:=adK v g y k (x+1) (acc++ [c]) m1 r dj az h (fun d hd=>by
    rcases List.mem_append.1 hd with hd|hd
    ·exact ha d hd
    ·rw[List.mem_singleton.1 hd];exact av)
   refine⟨g1,?_,g3,by omega⟩;rw[g2,iv];simp only[Ky];omega
theorem adL(v:kH)(g:List fL):∀(k y:Nat) (acc:List e3) (m:Int) (r:List e3) (dj:Int),0≤m→nI v g k y acc m=(some r,dj)→(∀c∈acc,pc (4^v.depth.toNat) c)→(∀c∈r,pc (4^v.depth.toNat) c)∧r.length=acc.length+k *v.w.toNat∧0≤dj∧dj≤m
 |0,y,acc,m,r,dj,hm,h,ha=>by simp only[nI,gh,n7] at h;obtain⟨rfl,rfl⟩:=h;exact⟨ha,by omega,hm,rv _⟩
 |k+1,y,acc,m,r,dj,hm,h,ha=>by
  unfold nI at h;split at h
  ·simp at h
  ·rename_i a m1 he;obtain⟨av,az,aC,bt⟩:=adK v _ y _ 0 acc m a m1 hm he ha;obtain⟨g1,g2,g3,g4⟩:=adL v g k (y+1) a m1 r dj aC h av;refine⟨g1,?_,g3,by omega⟩;rw[g2,az,S8];omega
theorem aqC{o:List eu}{v:kH}{m:Int}{r:List e3}{dj:Int}(hm:0≤m)(h:IL o v m=(some r,dj)):(∀c∈r,pc (4^v.depth.toNat) c)∧r.length=v.h.toNat *v.w.toNat∧0≤dj∧dj≤m:=by obtain⟨av,az,aC,bt⟩:=adL v _ _ 0 [] m r dj hm h (fun c hc=>absurd hc (by simp));exact⟨av,by simpa using az,aC,bt⟩
abbrev jr:=Int×Int
def E0(t:jr)(c al:Int)(v:e3)(cells:Int):jr:=(Bn t c al v cells /(255 *cells),(Bo t c al v cells+255 *cells-1)/(255 *cells))
def aqD(aE aH gQ al:Int)(cells:Int)(v:e3)(i:Nat)(ts:List jr):List jr:=
 let a:=ts.set (3 *i) (E0 (ts.getD (3 *i) (0,0)) aE al v cells);let b:=a.set (3 *i+1) (E0 (a.getD (3 *i+1) (0,0)) aH al v cells)
 b.set (3 *i+2) (E0 (b.getD (3 *i+2) (0,0)) gQ al v cells)
def layAll(aE aH gQ al:Int)(cells:Int):List e3→Nat→List jr→List jr
 |[],_,ts=>ts
 |v::l,i,ts=>layAll aE aH gQ al cells l (i+1) (aqD aE aH gQ al cells v i ts)
def lV(bJ bO ba:Int):Nat→List jr
 |0=>[]
 |n+1=>lV bJ bO ba n++[lK bJ,lK bO,lK ba]
def xZ(ts:List jr):Prop:=∀t∈ts,qv t=true
theorem adM(t:jr):qv t=true↔0≤t.1∧t.1≤t.2∧t.2≤16711680:=by unfold qv;simp only[jh,jR]
theorem aqE(c:Int):qv (lK c)=true:=by rw[adM];unfold lK;simp only;omega
variable{cells:Int}
theorem PQ{t c al k:Int}(bE:0≤t∧t≤16711680)(hc:0≤c∧c≤255)(ha:0≤al∧al≤255)(ay:0≤k∧k≤cells):0≤tP t c al k cells∧tP t c al k cells≤16711680 *(255 *cells):=by
 unfold tP;have aS:0≤al *k:=jV ha.1 ay.1;have av:al *k≤255 *cells:=by have az:al *k≤255 *k:=Vj ha.2 ay.1;have aC:255 *k≤255 *cells:=Int.mul_le_mul_of_nonneg_left ay.2 (by decide);omega
 generalize al *k=x at aS av⊢;generalize 255 *cells=y at av⊢;have bA:0≤t *(y-x):=jV bE.1 (by omega);have a2:t *(y-x)≤16711680 *(y-x):=Vj bE.2 (by omega);have a3:0≤65536 *c *x:=jV (by omega) aS;have a4:65536 *c *x≤16711680 *x:=Vj (by omega) aS;have a5:16711680 *(y-x)=16711680 *y-16711680 *x:=Int.mul_sub ..;omega
theorem aqF{t:jr}{c al:Int}{v:e3}(bE:qv t=true)(hc:0≤c∧c≤255)(ha:0≤al∧al≤255)(aY:0≤v.1∧v.1≤v.2∧v.2≤cells)(av:1≤cells):qv (E0 t c al v cells)=true:=by
 rw[adM] at bE⊢;have cS:=PQ (t:=t.1) (c:=c) (al:=al) (k:=v.1) (cells:=cells) ⟨bE.1,by omega⟩ hc ha ⟨aY.1,by omega⟩;have bq:=PQ (t:=t.2) (c:=c) (al:=al) (k:=v.1) (cells:=cells) ⟨by omega,by omega⟩ hc ha ⟨aY.1,by omega⟩;have fA:=PQ (t:=t.1) (c:=c) (al:=al) (k:=v.2) (cells:=cells) ⟨bE.1,by omega⟩ hc ha ⟨by omega,by omega⟩;have GO:=PQ (t:=t.2) (c:=c) (al:=al) (k:=v.2) (cells:=cells) ⟨by omega,by omega⟩ hc ha ⟨by omega,by omega⟩;have hd:0<255 *cells:=by omega
 have a7:0≤Bn t c al v cells∧Bn t c al v cells≤Bo t c al v cells∧Bo t c al v cells≤16711680 *(255 *cells):=by unfold Bn Bo;omega
 obtain⟨a7,bf,cM⟩:=a7;unfold E0;simp only;generalize Bn t c al v cells=a at a7 bf⊢;generalize Bo t c al v cells=b at bf cM⊢;generalize 255 *cells=y at hd cM⊢;refine⟨Vk a7 (by omega),Int.ediv_le_ediv hd (by omega),?_⟩;have fM:(b+y-1)/ y<16711681:=Int.ediv_lt_of_lt_mul hd (by omega);exact Int.lt_add_one_iff.1 fM
theorem aqG{ts:List jr}(h:xZ ts)(j:Nat){t:jr}(bE:qv t=true):xZ (ts.set j t):=fun x hx=>by
 rcases Yr hx with hx|rfl
 ·exact h x hx
 ·exact bE
theorem adN{ts:List jr}(h:xZ ts)(j:Nat):qv (ts.getD j (0,0))=true:=by
 rw[Gt];cases cd:ts[j]? with
 |none=>rfl
 |some t=>exact h t (List.mem_of_getElem? cd)
theorem adO(bJ bO ba:Int):∀n,(lV bJ bO ba n).length=3 *n
 |0=>rfl
 |n+1=>by unfold lV;rw[iv,adO bJ bO ba n];simp;omega
theorem adP(bJ bO ba:Int):∀n,xZ (lV bJ bO ba n)
 |0=>fun t h=>absurd h (by simp[lV])
 |n+1=>fun t h=>by
  unfold lV at h;rcases List.mem_append.1 h with h|h
  ·exact adP bJ bO ba n t h
  ·simp at h;rcases h with rfl|rfl|rfl<;>exact aqE _
end ef
