/- Lemmas. -/
import Derived.Test.YtfldplmgkeiimaaGreatDoorQ36
set_option linter.all false
set_option maxRecDepth 100000
set_option maxHeartbeats 25600000
namespace Go.Proofs.YtfldplmgkeiimaaGreatDoor
namespace c4
open Go.RowKit dH
open bS (C j7)
abbrev gl:TypeId:=39
abbrev oF(a b c d:Int):Value:=.agg #[I a,I b,I c,I d]
structure yM where
 zV:Option (List eM)
 rz:Int
 n:Int
 at_:Int
 e:Int
 m:Int
def pR(k:Int)(v:iA)(m:Int):List dx×Nat×Nat→yM
 |(o,i,f)=>if f≠0 then⟨none,1,k,i,f,m⟩ else match sX o v m with
  |(none,cS)=>⟨none,1,k,0,6,cS⟩
  |(some l,cS)=>⟨some l,0,0,0,0,cS⟩
def sJ(bH:Nat)(cf:Int)(w:aeo)(r:yM)(e:Ending)(w':aeo):Prop:=
 w'.heap[bH]?=some (hk cf (cf-r.m))∧aQ (fun k=>k≠bH) w w'∧match r.zV with
  |none=>e=ab (.tuple #[J 0,oF r.rz r.n r.at_ r.e])
  |some l=>∃sv,e=ab (.tuple #[sv,oF 0 0 0 0])∧Jb (fun k=>w.heap.size≤k) w' sv l
variable{w w' x y:aeo}{k bH D:Nat}
theorem nV{a b c d:ada}{t:aai}(h:an w k (#[a,b,c,d]) t):ak w k 0 a∧ak w k 1 b∧ak w k 2 c∧ak w k 3 d:=by refine⟨?_,?_,?_,?_⟩<;>simp[World.cell?,h]
variable{cf m:Int}{e:Ending}
theorem w9.get{r:Option (List eM)× Int}(h:w9 bH cf w r e w'):w'.heap[bH]?=some (hk cf (cf-r.2))∧aQ (fun k=>k≠bH) w w':=⟨h.1,h.2.1⟩
theorem w9.no(h:w9 bH cf w (none,m) e w'):e=ab (.tuple #[J 0,I 6]):=h.2.2
theorem w9.yes{l:List eM}(h:w9 bH cf w (some l,m) e w'):∃sv,e=ab (.tuple #[sv,I 0])∧Jb (fun k=>w.heap.size≤k) w' sv l:=h.2.2
structure Ge(D L bH:Nat)(pS fs qe mt:Obj)(x:aeo):Prop where
 j:x.heap[D]?=some pS
 f:x.heap[D+1]?=some fs
 l:x.heap[L]?=some qe
 g:x.heap[bH]?=some mt
theorem Ge.keep{S:afp}{L:Nat}{pS fs qe mt:Obj}(h:Ge D L bH pS fs qe mt x)(ax:aQ S x y)(av:S D)(az:S (D+1))(aF:S L)(bk:S bH):Ge D L bH pS fs qe mt y:=⟨ax.get av h.j,ax.get az h.f,ax.get aF h.l,ax.get bk h.g⟩
theorem BF{a b c d:ada}{t:aai}(h:an w k (#[a,b,c,d]) t)(hq bg c' fA:ada):((((w.setCell (aj k 0) hq).setCell (aj k 1) bg).setCell (aj k 2) c').setCell (aj k 3) fA).heap[k]?=some (.cells #[hq,bg,c',fA] t):=by have:=dL (i:=3) fA (dL (i:=2) c' (dL (i:=1) bg (dL (i:=0) hq h)));exact this
theorem zW{S:afp}(h:¬S k)(a b c d:ada):aQ S w ((((w.setCell (aj k 0) a).setCell (aj k 1) b).setCell (aj k 2) c).setCell (aj k 3) d):=
 (((aQ.set (a:=⟨k,0,none⟩) h a).trans (aQ.set (a:=⟨k,1,none⟩) h b)).trans (aQ.set (a:=⟨k,2,none⟩) h c)).trans (aQ.set (a:=⟨k,3,none⟩) h d)
theorem agf(S:afp)(cM cN cq cg du cY:Int)(aS:pZ ⟨cM,cN,cq,cg,du,cY⟩=true)(ls:List pQ)(pl:Ja)(nl cl:Nat)(hn:nl=ls.length)(fH:Ja)(bA fI:Nat)(bQ bU a7 aB st:Int)(k:Nat)(t:Ua)(hG hh ey al:Int)(hy:ls[k]?=some ⟨t,hG,hh,ey,al,false⟩)(eC:w5 t aB)(o:List dx)(i f:Nat)(MQ:mQ t.data.toList aB=(o,i,f))(nH:∀x∈o,Plain x.2∧qE x.2)
  (bH:Nat) (cf m:Int) (hm:0≤m∧m≤cf∧cf≤100000000) (w:aeo) (H:af (ua S w pl ls)) (bM:af (w.heap[bH]?=some (hk cf (cf-m)))) (r:yM) (hr:af (pR k ⟨cM,cN,cq,cg,du,cY⟩ m (o,i,f)=r)):
  Calls Tryz.prog 37 #[.agg #[I cM,I cN,I cq,I cg,I du,I cY,ad pl nl cl,ad fH bA fI,I bQ,I bU,I a7,I aB,I st],I (k:Int),J 0,ah bH 0] w fun e w'=>sJ bH cf w r e w':=by
 obtain⟨ax,agh⟩:=List.getElem?_eq_some_iff.1 hy;have b0:=aq aS;have nP:=aq eC;have auu:=aq MQ;have oS:=aq nH;have cC:=aq agh;have aeu:=aq ax;have ayN:k<nl:=by rw[hn];exact ax
 have q':nl≤1000000000:=by rw[hn];exact H.out.1
 have q4:(0:Int)≤(k:Int):=by omega
 have eI:(k:Int)<(nl:Int):=by omega
 have I3:=lt_of_heap bM.out;clear aS hn hy eC MQ nH agh;go_enter Tryz.func37,Tryz.ntmps37;go_upto_region 1 with fail;obtain⟨W,br⟩:=ar ((w.alloc (ai (#[I cM,I cN,I cq,I cg,I du,I cY,ad pl nl cl,ad fH bA fI,I bQ,I bU,I a7,I aB,I st]) kX)).alloc (ai (#[I 0,I 0,I 0,I 0]) gl));have aO:af (ao w w W):=by show Below _ _ _;rw[←br];exact (a' _ _).trans ((a' _ _).mono (a' _ _).size)
 have df:af (an W w.heap.size (#[I cM,I cN,I cq,I cg,I du,I cY,ad pl nl cl,ad fH bA fI,I bQ,I bU,I a7,I aB,I st]) kX):=by show _=_;rw[←br];exact aU (cd w _) (a' _ _)
 have aP:af (an W (w.heap.size+1) (#[I 0,I 0,I 0,I 0]) gl):=by show _=_;rw[←br,show w.heap.size+1=(w.alloc (ai (#[I cM,I cN,I cq,I cg,I du,I cY,ad pl nl cl,ad fH bA fI,I bQ,I bU,I a7,I aB,I st]) kX)).heap.size from (qf _).symm];exact cd _ _
 rw[br];clear br;obtain⟨D,cb⟩:=ar w.heap.size;have jP:=aq cb;rw[cb] at df aP I3⊢;clear cb;obtain⟨hz,lv,rfl,aC,aE,fJ,y3,y4,oq⟩:=(H.out.below aO.out).at ax cC.out;obtain⟨ji,gM,gN,gD,gE,jj,jw,j0,j1,j2,j3,j4,jx⟩:=nt df.out;go_upto_region 2 with fail;have gn:af (Ge D W.heap.size bH (ai (#[I cM,I cN,I cq,I cg,I du,I cY,ad (some (aj hz lv)) nl cl,ad fH bA fI,I bQ,I bU,I a7,I aB,I st]) kX) (ai (#[I 0,I 0,I 0,I 0]) gl) (ai (#[aa t,I hG,I hh,I ey,I al,U false]) mh) (hk cf (cf-m)) (W.alloc (ai (#[aa t,I hG,I hh,I ey,I al,U false]) mh))):=⟨aU df.out (a' _ _),aU aP.out (a' _ _),cd _ _,aU (aU bM.out aO.out) (a' _ _)⟩;have cP:af (ao w w (W.alloc (ai (#[aa t,I hG,I hh,I ey,I al,U false]) mh))):=aO.out.trans ((a' _ _).mono aO.out.size);have yN:af (D+1<W.heap.size∧W.heap.size<(W.alloc (ai (#[aa t,I hG,I hh,I ey,I al,U false]) mh)).heap.size):=⟨lt_of_heap aP.out,by rw[show (W.alloc (ai (#[aa t,I hG,I hh,I ey,I al,U false]) mh)).heap.size=W.heap.size+1 from qf _];exact G4 _⟩;clear aC aE fJ y3 y4 oq ji gM gN gD gE jj jw j0 j1 j2 j3 j4 jx df aP aO bM;generalize W.alloc (.cells #[aa t,I hG,I hh,I ey,I al,U false] mh)=cm at gn cP yN⊢;obtain⟨L,lu⟩:=ar W.heap.size;rw[lu] at gn yN⊢;clear lu;have Mz:=cell_of (i:=0) gn.out.l rfl;have j4:=cell_of (i:=11) gn.out.j rfl;have Lg:=atg t aB cm;have agi:(cm.alloc (ai (ru t aB 0 0 0 0 (J 0) 0 0) qR)).heap[cm.heap.size]?=some (.cells (ru t aB 0 0 0 0 (J 0) 0 0) qR):=cd _ _;have agj:=atd cm.heap.size t aB nP.out o (fun x hx=>(oS.out x hx).1) i f auu.out _ agi;have dA:=a' cm (ai (ru t aB 0 0 0 0 (J 0) 0 0) qR);have vb:(cm.alloc (ai (ru t aB 0 0 0 0 (J 0) 0 0) qR)).heap.size=cm.heap.size+1:=qf _;go_upto_region 3 with (first|(go_at_call 22;refine Lg.mono ?_;rintro e w' ⟨rfl,rfl⟩)|(go_at_call 26;refine agj.mono ?_;rintro e cA ⟨fD,d,rfl,Iw,s8⟩));have agk:af (aQ (fun k=>k≠cm.heap.size) cm cA):=(aQ.dI dA).trans s8;have Bn:af (h9 (fun k=>cm.heap.size≤k) cA fD o):=Iw.mono fun k _ ax=>by have av:_≤k:=ax;rw[vb] at av;omega
 have iT:af (Ge D L bH (ai (#[I cM,I cN,I cq,I cg,I du,I cY,ad (some (aj hz lv)) nl cl,ad fH bA fI,I bQ,I bU,I a7,I aB,I st]) kX) (ai (#[I 0,I 0,I 0,I 0]) gl) (ai (#[aa t,I hG,I hh,I ey,I al,U false]) mh) (hk cf (cf-m)) cA):=gn.out.keep agk.out (by have:=yN.out;omega) (by have:=yN.out;omega) (by have:=yN.out;omega) (by have:=yN.out;omega);have QP:af (aQ (fun k=>k<D) w cA):=(aQ.dI cP.out).trans (agk.out.mono fun k _ ax=>by have av:k<D:=ax;have:=yN.out;omega);clear Mz j4 Lg agi agj dA vb Iw s8 gn;by_cases nC:f=0
 ·subst nC;obtain⟨⟨zV,m2⟩,agl⟩:=ar (sX o ⟨cM,cN,cq,cg,du,cY⟩ m);have Dx:=aq agl;have auv:¬cm.heap.size≤bH:=(by have:=yN.out;omega);have nn:Calls Tryz.prog 60 #[ad fD o.length d,.agg #[I cM,I cN,I cq,I cg,I du,I cY],ah bH 0] cA (w9 bH cf cA (zV,m2)):=at1 (fun k=>cm.heap.size≤k) o (fun x hx=>(oS.out x hx).2) fD o.length d rfl ⟨cM,cN,cq,cg,du,cY⟩ b0.out bH auv cf m hm cA Bn (aq iT.out.g) (zV,m2) Dx;have ayO:=QP.out.size;have gC:D≤cm.heap.size:=(by have:=yN.out;omega);have Im:=cell_of (i:=5) iT.out.l rfl;obtain⟨ji,gM,gN,gD,gE,jj,_,_,_,_,_,_,_⟩:=nt iT.out.j;clear agl;cases zV with
  |none=>
   go_upto_region 8 with (first|(go_at_call 60;(with_reducible refine nn.mono ?_);intro e cZ mJ;obtain⟨Gf,kK⟩:=w9.get mJ;obtain rfl:=w9.no mJ)|fail);have yi:=aq kK;have auw:=aq Gf;have oT:af (Ge D L bH (ai (#[I cM,I cN,I cq,I cg,I du,I cY,ad (some (aj hz lv)) nl cl,ad fH bA fI,I bQ,I bU,I a7,I aB,I st]) kX) (ai (#[I 0,I 0,I 0,I 0]) gl) (ai (#[aa t,I hG,I hh,I ey,I al,U false]) mh) (hk cf (cf-m2)) cZ):=⟨kK.get (show D≠bH by omega) iT.out.j,kK.get (show D+1≠bH by omega) iT.out.f,kK.get (show L≠bH by have:=yN.out;omega) iT.out.l,Gf⟩;clear Im ji gM gN gD gE jj nn mJ kK Gf;have bq:af (⟨none,1,k,0,6,m2⟩=r):=(by rw[←hr.out];unfold pR;simp only;rw[aR (by decide),Dx.out];exact rfl);obtain⟨a0,bE,a2,a3⟩:=nV oT.out.f;have g0:=cR oT.out.f 0;have g1:=cR oT.out.f 1;have g2:=cR oT.out.f 2;have g3:=cR oT.out.f 3;go_wp2_with fail;have pG:af (((((cZ.setCell (aj (D+1) 0) (I 1)).setCell (aj (D+1) 1) (I (k:Int))).setCell (aj (D+1) 2) (I 0)).setCell (aj (D+1) 3) (I 6)).heap[D+1]?=some (.cells #[I 1,I (k:Int),I 0,I 6] gl)):=BF oT.out.f (I 1) (I (k:Int)) (I 0) (I 6);have lO:af (aQ (fun k=>k≠D+1) cZ ((((cZ.setCell (aj (D+1) 0) (I 1)).setCell (aj (D+1) 1) (I (k:Int))).setCell (aj (D+1) 2) (I 0)).setCell (aj (D+1) 3) (I 6))):=zW (fun ax=>ax rfl) (I 1) (I (k:Int)) (I 0) (I 6);clear a0 bE a2 a3 g0 g1 g2 g3;generalize (((cZ.setCell (aj (D+1) 0) (I 1)).setCell (aj (D+1) 1) (I (k:Int))).setCell (aj (D+1) 2) (I 0)).setCell (aj (D+1) 3) (I 6)=gH at pG lO⊢;obtain⟨eD,a1,a6,ch⟩:=nV pG.out;rw[←bq.out];refine dC (v:=.tuple #[J 0,oF 1 (k:Int) 0 6]) (by simp[results,Tryz.results37,go_sem,eD,a1,a6,ch]) rfl ⟨?_,?_,?_⟩
   ·exact lO.out.get (show bH≠D+1 by omega) oT.out.g
   ·exact ((QP.out.mono (R:=fun k=>k<D∧k≠bH∧k≠D+1) fun k _ ax=>ax.1).trans ((yi.out.mono (R:=fun k=>k<D∧k≠bH∧k≠D+1) fun k _ ax=>ax.2.1).trans (lO.out.mono (R:=fun k=>k<D∧k≠bH∧k≠D+1) fun k _ ax=>ax.2.2))).mono fun k ax hne=>⟨by have:=jP.out;omega,hne,by have:=jP.out;omega⟩
   ·exact rfl
  |some lc=>
   go_upto_region 8 with (first|(go_at_call 60;(with_reducible refine nn.mono ?_);intro e cZ mJ;obtain⟨Gf,kK⟩:=w9.get mJ;obtain⟨sv,rfl,yF⟩:=w9.yes mJ)|fail);have yi:=aq kK;have auw:=aq Gf;have oT:af (Ge D L bH (ai (#[I cM,I cN,I cq,I cg,I du,I cY,ad (some (aj hz lv)) nl cl,ad fH bA fI,I bQ,I bU,I a7,I aB,I st]) kX) (ai (#[I 0,I 0,I 0,I 0]) gl) (ai (#[aa t,I hG,I hh,I ey,I al,U false]) mh) (hk cf (cf-m2)) cZ):=⟨kK.get (show D≠bH by omega) iT.out.j,kK.get (show D+1≠bH by omega) iT.out.f,kK.get (show L≠bH by have:=yN.out;omega) iT.out.l,Gf⟩;have BG:=aq yF;clear Im ji gM gN gD gE jj nn mJ kK Gf yF;have bq:af (⟨some lc,0,0,0,0,m2⟩=r):=(by rw[←hr.out];unfold pR;simp only;rw[aR (by decide),Dx.out];exact rfl);obtain⟨a0,bE,a2,a3⟩:=nV oT.out.f;have g0:=cR oT.out.f 0;have g1:=cR oT.out.f 1;have g2:=cR oT.out.f 2;have g3:=cR oT.out.f 3;go_wp2_with fail;have pG:af (((((cZ.setCell (aj (D+1) 0) (I 0)).setCell (aj (D+1) 1) (I 0)).setCell (aj (D+1) 2) (I 0)).setCell (aj (D+1) 3) (I 0)).heap[D+1]?=some (.cells #[I 0,I 0,I 0,I 0] gl)):=BF oT.out.f (I 0) (I 0) (I 0) (I 0);have lO:af (aQ (fun k=>k≠D+1) cZ ((((cZ.setCell (aj (D+1) 0) (I 0)).setCell (aj (D+1) 1) (I 0)).setCell (aj (D+1) 2) (I 0)).setCell (aj (D+1) 3) (I 0))):=zW (fun ax=>ax rfl) (I 0) (I 0) (I 0) (I 0);clear a0 bE a2 a3 g0 g1 g2 g3;generalize (((cZ.setCell (aj (D+1) 0) (I 0)).setCell (aj (D+1) 1) (I 0)).setCell (aj (D+1) 2) (I 0)).setCell (aj (D+1) 3) (I 0)=gH at pG lO⊢;obtain⟨eD,a1,a6,ch⟩:=nV pG.out;rw[←bq.out];refine dC (v:=.tuple #[sv,oF 0 0 0 0]) (by simp[results,Tryz.results37,go_sem,eD,a1,a6,ch]) rfl ⟨?_,?_,?_⟩
   ·exact lO.out.get (show bH≠D+1 by omega) oT.out.g
   ·exact ((QP.out.mono (R:=fun k=>k<D∧k≠bH∧k≠D+1) fun k _ ax=>ax.1).trans ((yi.out.mono (R:=fun k=>k<D∧k≠bH∧k≠D+1) fun k _ ax=>ax.2.1).trans (lO.out.mono (R:=fun k=>k<D∧k≠bH∧k≠D+1) fun k _ ax=>ax.2.2))).mono fun k ax hne=>⟨by have:=jP.out;omega,hne,by have:=jP.out;omega⟩
   ·refine⟨sv,rfl,?_⟩;obtain⟨BH,yK,MR⟩:=BG.out;exact⟨BH,mF yK lO.out (fun k e=>by have av:cA.heap.size≤k:=MR k e;have az:=lt_of_heap iT.out.f;show k≠D+1;omega),fun k e=>by have av:cA.heap.size≤k:=MR k e;show w.heap.size≤k;omega⟩
 ·have oa:(((f:Int) !=0):Bool)=true:=(by rw[xf];omega);have bq:af (⟨none,1,k,i,f,m⟩=r):=(by rw[←hr.out];unfold pR;simp only;rw[a8 nC];exact rfl);obtain⟨a0,bE,a2,a3⟩:=nV iT.out.f;have g0:=cR iT.out.f 0;have g1:=cR iT.out.f 1;have g2:=cR iT.out.f 2;have g3:=cR iT.out.f 3;go_wp2_with fail;have pG:af (((((cA.setCell (aj (D+1) 0) (I 1)).setCell (aj (D+1) 1) (I (k:Int))).setCell (aj (D+1) 2) (I (i:Int))).setCell (aj (D+1) 3) (I (f:Int))).heap[D+1]?=some (.cells #[I 1,I (k:Int),I (i:Int),I (f:Int)] gl)):=BF iT.out.f (I 1) (I (k:Int)) (I (i:Int)) (I (f:Int));have lO:af (aQ (fun k=>k≠D+1) cA ((((cA.setCell (aj (D+1) 0) (I 1)).setCell (aj (D+1) 1) (I (k:Int))).setCell (aj (D+1) 2) (I (i:Int))).setCell (aj (D+1) 3) (I (f:Int)))):=zW (fun ax=>ax rfl) (I 1) (I (k:Int)) (I (i:Int)) (I (f:Int));clear a0 bE a2 a3 g0 g1 g2 g3;generalize (((cA.setCell (aj (D+1) 0) (I 1)).setCell (aj (D+1) 1) (I (k:Int))).setCell (aj (D+1) 2) (I (i:Int))).setCell (aj (D+1) 3) (I (f:Int))=gH at pG lO⊢;obtain⟨eD,a1,a6,ch⟩:=nV pG.out;rw[←bq.out];refine dC (v:=.tuple #[J 0,oF 1 (k:Int) (i:Int) (f:Int)]) (by simp[results,Tryz.results37,go_sem,eD,a1,a6,ch]) rfl ⟨?_,?_,rfl⟩
  ·exact lO.out.get (show bH≠D+1 by omega) iT.out.g
  ·exact ((QP.out.mono (R:=fun k=>k<D∧k≠D+1) fun k _ ax=>ax.1).trans (lO.out.mono (R:=fun k=>k<D∧k≠D+1) fun k _ ax=>ax.2)).mono fun k ax hne=>⟨by have:=jP.out;omega,by have:=jP.out;omega⟩
def zX(l:pQ):Bool:=iN l.r&&(iN l.g&&(iN l.b&&iN l.al))
def BI(v:iA)(ls:List pQ)(bA:Nat)(bQ bU a7:Int):Bool:=pZ v&&(decide (ls.length≤32)&&(decide (bA≤32)&&(ls.all zX&&(iN bQ&&(iN bU&&iN a7)))))
theorem agm(S:afp)(cM cN cq cg du cY:Int)(ls:List pQ)(pl:Ja)(nl cl:Nat)(hn:nl=ls.length)(fH:Ja)(bA fI:Nat)(bQ bU a7 aB st:Int)(w:aeo)(H:af (ua S w pl ls))(f:Bool)(hf:af (BI ⟨cM,cN,cq,cg,du,cY⟩ ls bA bQ bU a7=f)):
  Calls Tryz.prog 35 #[.agg #[I cM,I cN,I cq,I cg,I du,I cY,ad pl nl cl,ad fH bA fI,I bQ,I bU,I a7,I aB,I st]] w fun e w'=>e=ab (U f)∧ao w w w':=by
 have bf:=aq hn;have n9:nl≤1000000000:=by rw[hn];exact H.out.1
 obtain⟨Ws,Wt⟩:=ar (pZ ⟨cM,cN,cq,cg,du,cY⟩);have auy:=aq Wt;have aP:af ((Ws&&(decide (nl≤32)&&(decide (bA≤32)&&(ls.all zX&&(iN bQ&&(iN bU&&iN a7))))))=f):=by show _=_;rw[←hf.out,←Wt,hn];rfl
 clear hn Wt hf;go_enter Tryz.func35,Tryz.ntmps35;go_upto_region 1 with fail;have df:af ((w.alloc (ai (#[I cM,I cN,I cq,I cg,I du,I cY,ad pl nl cl,ad fH bA fI,I bQ,I bU,I a7,I aB,I st]) kX)).heap[w.heap.size]?=some (.cells #[I cM,I cN,I cq,I cg,I du,I cY,ad pl nl cl,ad fH bA fI,I bQ,I bU,I a7,I aB,I st] kX)):=cd _ _;have aO:af (ao w w (w.alloc (ai (#[I cM,I cN,I cq,I cg,I du,I cY,ad pl nl cl,ad fH bA fI,I bQ,I bU,I a7,I aB,I st]) kX))):=a' _ _;generalize w.alloc (.cells #[I cM,I cN,I cq,I cg,I du,I cY,ad pl nl cl,ad fH bA fI,I bQ,I bU,I a7,I aB,I st] kX)=W at df aO⊢;obtain⟨ji,gM,gN,gD,gE,jj,jw,j0,j1,j2,j3,j4,jx⟩:=nt df.out;go_wp2_with fail;with_reducible refine (QC ⟨cM,cN,cq,cg,du,cY⟩ Ws auy _).mono ?_
 rintro e ck ⟨rfl,ay⟩;have agn:=aq (aU df.out ay);have c6:af (ao w w ck):=aO.out.trans (ay.mono aO.out.size);clear ji gM gN gD gE jj jw j0 j1 j2 j3 j4 jx ay df aO;obtain⟨ji,gM,gN,gD,gE,jj,jw,j0,j1,j2,j3,j4,jx⟩:=nt agn.out;cases Ws with
 |false=>
  have bq:af (false=f):=aP.out;go_wp2_with fail;go_ret;exact⟨ej bq.out,c6.out⟩
 |true=>
  by_cases aL:nl≤32
  case neg=>
   have bq:af (false=f):=(by show _=_;rw[←aP.out,eT aL];rfl);have auz:(nl:Int)> 32:=(by omega);go_wp2_with fail
   all_goals
    go_ret;exact⟨ej bq.out,c6.out⟩
  have auz:¬(nl:Int)> 32:=(by omega);by_cases aI:bA≤32
  case neg=>
   have bq:af (false=f):=(by show _=_;rw[←aP.out,e' aL,eT aI];rfl);have auA:(bA:Int)> 32:=(by omega);go_wp2_with fail
   all_goals
    go_ret;exact⟨ej bq.out,c6.out⟩
  have auA:¬(bA:Int)> 32:=(by omega);have eV:af (((ls.drop 0).all zX&&(iN bQ&&(iN bU&&iN a7)))=f):=(by show _=_;rw[←aP.out,e' aL,e' aI];rfl);clear aL aI;go_wp2_with fail;clear ji gM gN gD gE jj jw j0 j1 j2 j3 j4 jx
  go_loopw [24] (fun i wr=>∃(j:Nat) (aK:aeo),aK=wr∧j≤nl∧i=I j∧af (((ls.drop j).all zX&&(iN bQ&&(iN bU&&iN a7)))=f)∧af (ao ck ck aK)) (fun i _=>nl -(intOf i).toNat)
  case atStart=>exact⟨0,_,rfl,eE _,rfl,eV.out,Below.refl _ _⟩
  case round=>
  obtain⟨j,aK,rfl,cr,rfl,e0,cC⟩:=hrel;have oh:af (ao w w aK):=c6.out.trans (cC.out.mono c6.out.size);by_cases b1:j<nl
  ·have fL:j<ls.length:=(by rw[←bf.out];exact b1);have i':(j:Int)<(nl:Int):=(by omega);obtain⟨y,hy⟩:=ar (ls[j]);obtain⟨hz,lv,rfl,aC,aE,fJ,y3,y4,oq⟩:=(H.out.below oh.out).at fL hy;obtain⟨cE,er⟩:=ar (iN y.r);obtain⟨bo,dA⟩:=ar (iN y.g);obtain⟨fk,eA⟩:=ar (iN y.b);obtain⟨B9,iU⟩:=ar (iN y.al);have wL:af (((cE&&(bo&&(fk&&B9)))&&((ls.drop (j+1)).all zX&&(iN bQ&&(iN bU&&iN a7))))=f):=(by show _=_;rw[←e0.out,lT fL,hy,GF,zX,er,dA,eA,iU];exact (Bool.and_assoc _ _ _).symm);have QH:=aq er;have QJ:=aq dA;have Wu:=aq eA;have auB:=aq iU;have A4:=aq (cC.out.trans ((a' aK (ai (#[aa y.t,I y.r,I y.g,I y.b,I y.al,U y.yL]) mh)).mono cC.out.size));have nG:af (ao w w (aK.alloc (ai (#[aa y.t,I y.r,I y.g,I y.b,I y.al,U y.yL]) mh))):=c6.out.trans (A4.out.mono c6.out.size);have im:af ((aK.alloc (ai (#[aa y.t,I y.r,I y.g,I y.b,I y.al,U y.yL]) mh)).heap[aK.heap.size]?=some (.cells #[aa y.t,I y.r,I y.g,I y.b,I y.al,U y.yL] mh)):=cd _ _;clear er dA eA iU hy;go_upto_region 6 with fail;generalize aK.alloc (.cells #[aa y.t,I y.r,I y.g,I y.b,I y.al,U y.yL] mh)=ayP at A4 nG im⊢;obtain⟨D,cb⟩:=ar aK.heap.size;rw[cb] at im⊢;clear cb aC aE fJ y3 y4 oq;have aE:=cell_of (i:=1) im.out rfl;have fJ:=cell_of (i:=2) im.out rfl;have y3:=cell_of (i:=3) im.out rfl;have y4:=cell_of (i:=4) im.out rfl;go_wp2_with fail;with_reducible refine (Gd y.r cE QH _).mono ?_
   rintro e Cg ⟨rfl,rfl⟩;cases cE with
   |false=>
    have bq:af (false=f):=(by show _=_;rw[←wL.out];simp);go_wp2_with fail;go_ret;exact⟨ej bq.out,nG.out⟩
   |true=>
    go_wp2_with fail;with_reducible refine (Gd y.g bo QJ _).mono ?_
    rintro e Cg ⟨rfl,rfl⟩;cases bo with
    |false=>
     have bq:af (false=f):=(by show _=_;rw[←wL.out];simp);go_wp2_with fail;go_ret;exact⟨ej bq.out,nG.out⟩
    |true=>
     go_wp2_with fail;with_reducible refine (Gd y.b fk Wu _).mono ?_
     rintro e Cg ⟨rfl,rfl⟩;cases fk with
     |false=>
      have bq:af (false=f):=(by show _=_;rw[←wL.out];simp);go_wp2_with fail;go_ret;exact⟨ej bq.out,nG.out⟩
     |true=>
      go_wp2_with fail;with_reducible refine (Gd y.al B9 auB _).mono ?_
      rintro e Cg ⟨rfl,rfl⟩;cases B9 with
      |false=>
       have bq:af (false=f):=(by show _=_;rw[←wL.out];simp);go_wp2_with fail;go_ret;exact⟨ej bq.out,nG.out⟩
      |true=>
       have J2:af (((ls.drop (j+1)).all zX&&(iN bQ&&(iN bU&&iN a7)))=f):=wL.out;go_wp2_with fail;go_round<;>first|exact⟨j+1,_,rfl,by omega,by go_num,J2.out,A4.out⟩|(simp[intOf]<;>omega)
  ·have iR:j=nl:=(by omega);have MS:af ((iN bQ&&(iN bU&&iN a7))=f):=(by show _=_;rw[←e0.out,n2 (by rw[←bf.out];omega)];rfl);subst iR;obtain⟨cE,er⟩:=ar (iN bQ);obtain⟨bo,dA⟩:=ar (iN bU);obtain⟨fk,eA⟩:=ar (iN a7);rw[er,dA,eA] at MS;have QH:=aq er;have QJ:=aq dA;have Wu:=aq eA;clear er dA eA;have MT:=aq (aU agn.out cC.out);obtain⟨ji,gM,gN,gD,gE,jj,jw,j0,j1,j2,j3,j4,jx⟩:=nt MT.out;go_wp2_with fail;with_reducible refine (Gd bQ cE QH _).mono ?_
   rintro e Cg ⟨rfl,rfl⟩;cases cE with
   |false=>
    have bq:af (false=f):=(by show _=_;rw[←MS.out];simp);go_wp2_with fail;go_ret;exact⟨ej bq.out,oh.out⟩
   |true=>
    go_wp2_with fail;with_reducible refine (Gd bU bo QJ _).mono ?_
    rintro e Cg ⟨rfl,rfl⟩;cases bo with
    |false=>
     have bq:af (false=f):=(by show _=_;rw[←MS.out];simp);go_wp2_with fail;go_ret;exact⟨ej bq.out,oh.out⟩
    |true=>
     go_wp2_with fail;with_reducible refine (Gd a7 fk Wu _).mono ?_
     rintro e Cg ⟨rfl,rfl⟩;cases fk with
     |false=>
      have bq:af (false=f):=(by show _=_;rw[←MS.out];simp);go_wp2_with fail;go_ret;exact⟨ej bq.out,oh.out⟩
     |true=>
      have bq:af (true=f):=MS.out;go_wp2_with fail;go_ret;exact⟨ej bq.out,oh.out⟩
theorem ago(cM cN cq cg du cY:Int)(pl:Ja)(nl cl:Nat)(fH:Ja)(fI:Nat)(bQ bU a7 aB st:Int)(w:aeo):
  Calls Tryz.prog 36 #[.agg #[I cM,I cN,I cq,I cg,I du,I cY,ad pl nl cl,ad fH 0 fI,I bQ,I bU,I a7,I aB,I st]] w fun e w'=>e=ab (.tuple #[J 0,oF 0 0 0 0])∧ao w w w':=by
 go_enter Tryz.func36,Tryz.ntmps36;go_upto_region 1 with fail;obtain⟨W,br⟩:=ar ((w.alloc (ai (#[I cM,I cN,I cq,I cg,I du,I cY,ad pl nl cl,ad fH 0 fI,I bQ,I bU,I a7,I aB,I st]) kX)).alloc (ai (#[I 0,I 0,I 0,I 0]) gl));have aO:af (ao w w W):=by show Below _ _ _;rw[←br];exact (a' _ _).trans ((a' _ _).mono (a' _ _).size)
 have df:af (an W w.heap.size (#[I cM,I cN,I cq,I cg,I du,I cY,ad pl nl cl,ad fH 0 fI,I bQ,I bU,I a7,I aB,I st]) kX):=by show _=_;rw[←br];exact aU (cd w _) (a' _ _)
 have aP:af (an W (w.heap.size+1) (#[I 0,I 0,I 0,I 0]) gl):=by show _=_;rw[←br,show w.heap.size+1=(w.alloc (ai (#[I cM,I cN,I cq,I cg,I du,I cY,ad pl nl cl,ad fH 0 fI,I bQ,I bU,I a7,I aB,I st]) kX)).heap.size from (qf _).symm];exact cd _ _
 rw[br];clear br;obtain⟨D,cb⟩:=ar w.heap.size;have jP:=aq cb;rw[cb] at df aP⊢;clear cb;have j0:=cell_of (i:=7) df.out rfl;go_wp2_with fail;clear j0
 go_loopw [4,13] (fun aS i wr=>aS=J 0∧i=I 0∧wr=W) (fun _ _ _=>0)
 case atStart=>exact⟨rfl,rfl,rfl⟩
 case round=>
 obtain⟨rfl,rfl,rfl⟩:=hrel;obtain⟨a0,bE,a2,a3⟩:=nV aP.out;have g0:=cR aP.out 0;have g1:=cR aP.out 1;have g2:=cR aP.out 2;have g3:=cR aP.out 3;go_wp2_with fail;have pG:af (((((wr.setCell (aj (D+1) 0) (I 0)).setCell (aj (D+1) 1) (I 0)).setCell (aj (D+1) 2) (I 0)).setCell (aj (D+1) 3) (I 0)).heap[D+1]?=some (.cells #[I 0,I 0,I 0,I 0] gl)):=BF aP.out _ _ _ _;have Dy:af (ao w w ((((wr.setCell (aj (D+1) 0) (I 0)).setCell (aj (D+1) 1) (I 0)).setCell (aj (D+1) 2) (I 0)).setCell (aj (D+1) 3) (I 0))):=(((aO.out.setCell (p:=⟨D+1,0,none⟩) (by have:=jP.out;show _≤D+1;omega) _).setCell (p:=⟨D+1,1,none⟩) (by have:=jP.out;show _≤D+1;omega) _).setCell (p:=⟨D+1,2,none⟩) (by have:=jP.out;show _≤D+1;omega) _).setCell (p:=⟨D+1,3,none⟩) (by have:=jP.out;show _≤D+1;omega) _;clear a0 bE a2 a3 g0 g1 g2 g3;generalize (((wr.setCell (aj (D+1) 0) (I 0)).setCell (aj (D+1) 1) (I 0)).setCell (aj (D+1) 2) (I 0)).setCell (aj (D+1) 3) (I 0)=gH at pG Dy⊢;obtain⟨eD,a1,a6,ch⟩:=nV pG.out;exact dC (v:=.tuple #[J 0,oF 0 0 0 0]) (by simp[results,Tryz.results36,go_sem,eD,a1,a6,ch]) rfl ⟨rfl,Dy.out⟩
structure QQ(D:Nat)(pS:ajv)(v0 v1 v2 v3:ada)(x:aeo):Prop where
 j:an x D pS kX
 f:an x (D+1) (#[v0,v1,v2,v3]) gl
abbrev zY(D:Nat)(aN aL aI c3 bJ c5 b2 b' bX bj cu dw vy:ada)(x:aeo):Prop:=
 x.cell? ⟨D,0,none⟩=some aN∧ak x D 1 aL∧ak x D 2 aI∧ak x D 3 c3∧ak x D 4 bJ∧ak x D 5 c5∧ak x D 6 b2∧ak x D 7 b'∧ak x D 8 bX∧ak x D 9 bj∧ak x D 10 cu∧ak x D 11 dw∧ak x D 12 vy∧
 ak x (D+1) 0 (k' x (D+1) 0)∧x.frozen? ⟨D+1,0,none⟩=false∧ak x (D+1) 1 (k' x (D+1) 1)∧x.frozen? ⟨D+1,1,none⟩=false∧ak x (D+1) 2 (k' x (D+1) 2)∧x.frozen? ⟨D+1,2,none⟩=false∧ak x (D+1) 3 (k' x (D+1) 3)∧x.frozen? ⟨D+1,3,none⟩=false∧
 ∃v0 v1 v2 v3,QQ D #[aN,aL,aI,c3,bJ,c5,b2,b',bX,bj,cu,dw,vy] v0 v1 v2 v3 x
variable{aN aL aI c3 bJ c5 b2 b' bX bj cu dw vy:ada}
theorem MU{v0 v1 v2 v3:ada}(h:QQ D #[aN,aL,aI,c3,bJ,c5,b2,b',bX,bj,cu,dw,vy] v0 v1 v2 v3 x):zY D aN aL aI c3 bJ c5 b2 b' bX bj cu dw vy x:=by obtain⟨ji,gM,gN,gD,gE,jj,jw,j0,j1,j2,j3,j4,jx⟩:=nt h.j;obtain⟨a0,bE,a2,a3⟩:=nV h.f;exact⟨ji,gM,gN,gD,gE,jj,jw,j0,j1,j2,j3,j4,jx,oQ a0,cR h.f 0,oQ bE,cR h.f 1,oQ a2,cR h.f 2,oQ a3,cR h.f 3,_,_,_,_,h⟩
theorem Wv(h:zY D aN aL aI c3 bJ c5 b2 b' bX bj cu dw vy x):∃v0 v1 v2 v3,QQ D #[aN,aL,aI,c3,bJ,c5,b2,b',bX,bj,cu,dw,vy] v0 v1 v2 v3 x:=h.2.2.2.2.2.2.2.2.2.2.2.2.2.2.2.2.2.2.2.2.2
theorem Ww(ay:ao x x y)(h:zY D aN aL aI c3 bJ c5 b2 b' bX bj cu dw vy x):zY D aN aL aI c3 bJ c5 b2 b' bX bj cu dw vy y:=by obtain⟨_,_,_,_,h⟩:=Wv h;exact MU ⟨aU h.j ay,aU h.f ay⟩
theorem agp(av:D≠bH)(az:D+1≠bH)(ax:aQ (fun k=>k≠bH) x y)(h:zY D aN aL aI c3 bJ c5 b2 b' bX bj cu dw vy x):zY D aN aL aI c3 bJ c5 b2 b' bX bj cu dw vy y:=by obtain⟨_,_,_,_,h⟩:=Wv h;exact MU ⟨ax.get av h.j,ax.get az h.f⟩
theorem agq{u0 u1 u2 u3:ada}(h:zY D aN aL aI c3 bJ c5 b2 b' bX bj cu dw vy x):zY D aN aL aI c3 bJ c5 b2 b' bX bj cu dw vy ((((x.setCell (aj (D+1) 0) u0).setCell (aj (D+1) 1) u1).setCell (aj (D+1) 2) u2).setCell (aj (D+1) 3) u3):=by obtain⟨_,_,_,_,h⟩:=Wv h;exact MU ⟨(zW (S:=fun k=>k≠D+1) (fun ax=>ax rfl) _ _ _ _).get (by omega) h.j,BF h.f _ _ _ _⟩
def BJ(w:aeo)(r:yM)(e:Ending)(w':aeo):Prop:=Below w.heap.size w w'∧match r.zV with
 |none=>e=ab (.tuple #[J 0,oF r.rz r.n r.at_ r.e])
 |some l=>∃sv,e=ab (.tuple #[sv,oF 0 0 0 0])∧Jb (fun k=>w.heap.size≤k) w' sv l
theorem sJ.get{r:yM}(h:sJ bH cf w r e w'):w'.heap[bH]?=some (hk cf (cf-r.m))∧aQ (fun k=>k≠bH) w w':=⟨h.1,h.2.1⟩
theorem sJ.no{rz n a jU:Int}(h:sJ bH cf w ⟨none,rz,n,a,jU,m⟩ e w'):e=ab (.tuple #[J 0,oF rz n a jU]):=h.2.2
theorem sJ.yes{rz n a jU:Int}{l:List eM}(h:sJ bH cf w ⟨some l,rz,n,a,jU,m⟩ e w'):∃sv,e=ab (.tuple #[sv,oF 0 0 0 0])∧Jb (fun k=>w.heap.size≤k) w' sv l:=h.2.2
theorem agr(S:afp)(cM cN cq cg du cY:Int)(ls:List pQ)(pl:Ja)(nl cl:Nat)(hn:nl=ls.length)(fH:Ja)(fI:Nat)(bQ bU a7 aB st:Int)(k:Nat)(Dz:BI ⟨cM,cN,cq,cg,du,cY⟩ ls 0 bQ bU a7=true)(t:Ua)(hG hh ey al:Int)(hy:ls[k]?=some ⟨t,hG,hh,ey,al,false⟩)(eC:w5 t aB)(o:List dx)(i f:Nat)(MQ:mQ t.data.toList aB=(o,i,f))(nH:∀x∈o,Plain x.2∧qE x.2)(w:aeo)(H:af (ua S w pl ls))(r:yM)(hr:af (pR k ⟨cM,cN,cq,cg,du,cY⟩ (max 0 (min st 100000000)) (o,i,f)=r)):
  Calls Tryz.prog 16 #[.agg #[I cM,I cN,I cq,I cg,I du,I cY,ad pl nl cl,ad fH 0 fI,I bQ,I bU,I a7,I aB,I st],I (k:Int)] w fun e w'=>BJ w r e w':=by
 obtain⟨iE,_⟩:=List.getElem?_eq_some_iff.1 hy;have aS:pZ ⟨cM,cN,cq,cg,du,cY⟩=true:=by have h:=Dz;unfold BI at h;rw[ix] at h;exact h.1
 have Wx:=aq Dz;have bf:=aq hn;have Je:=aq (And.intro aS (And.intro hy (And.intro eC (And.intro MQ nH))));have q4:¬(k:Int)<0:=by omega
 have eI:¬(nl:Int)≤(k:Int):=by rw[hn];omega
 clear Dz hn aS hy eC MQ nH;go_enter Tryz.func16,Tryz.ntmps16;go_upto_region 1 with fail;obtain⟨W,br⟩:=ar ((w.alloc (ai (#[I cM,I cN,I cq,I cg,I du,I cY,ad pl nl cl,ad fH 0 fI,I bQ,I bU,I a7,I aB,I st]) kX)).alloc (ai (#[I 0,I 0,I 0,I 0]) gl));have aO:af (ao w w W):=by show Below _ _ _;rw[←br];exact (a' _ _).trans ((a' _ _).mono (a' _ _).size)
 have df:af (an W w.heap.size (#[I cM,I cN,I cq,I cg,I du,I cY,ad pl nl cl,ad fH 0 fI,I bQ,I bU,I a7,I aB,I st]) kX):=by show _=_;rw[←br];exact aU (cd w _) (a' _ _)
 have aP:af (an W (w.heap.size+1) (#[I 0,I 0,I 0,I 0]) gl):=by show _=_;rw[←br,show w.heap.size+1=(w.alloc (ai (#[I cM,I cN,I cq,I cg,I du,I cY,ad pl nl cl,ad fH 0 fI,I bQ,I bU,I a7,I aB,I st]) kX)).heap.size from (qf _).symm];exact cd _ _
 rw[br];clear br;obtain⟨D,cb⟩:=ar w.heap.size;have jP:=aq cb;rw[cb] at df aP⊢;clear cb;obtain⟨ji,gM,gN,gD,gE,jj,jw,j0,j1,j2,j3,j4,jx⟩:=nt df.out;have vz:=agm S cM cN cq cg du cY ls pl nl cl bf.out fH 0 fI bQ bU a7 aB st W (aq (H.out.below aO.out)) true Wx;go_upto_region 3 with (go_at_call 35;(with_reducible refine vz.mono ?_);rintro e cm ⟨rfl,dA⟩;have jw:=bP dA jw);have cP:=aq (aO.out.trans (dA.mono aO.out.size));have eV:=aq (aU aP.out dA);have ja:=aq (aU df.out dA);have mz:af (D+1<cm.heap.size):=lt_of_heap eV.out;clear vz dA ji gM gN gD gE jj jw j0 j1 j2 j3 j4 jx aO aP df;obtain⟨ji,gM,gN,gD,gE,jj,jw,j0,j1,j2,j3,j4,jx⟩:=nt ja.out;have tT:=ago cM cN cq cg du cY pl nl cl fH fI bQ bU a7 aB st cm;go_upto_region 4 with (go_at_call 36;(with_reducible refine tT.mono ?_);rintro e dt ⟨rfl,eA⟩);have dk:af (ao w w (dt.alloc (ai (#[I 0,I 0,I 0,I 0]) gl))):=(cP.out.trans (eA.mono cP.out.size)).trans ((a' _ _).mono (dB cP.out.size eA.size));have zZ:=aq (aU (aU ja.out eA) (a' dt (ai (#[I 0,I 0,I 0,I 0]) gl)));have xD:=aq (aU (aU eV.out eA) (a' dt (ai (#[I 0,I 0,I 0,I 0]) gl)));have Gg:af ((dt.alloc (ai (#[I 0,I 0,I 0,I 0]) gl)).heap[dt.heap.size]?=some (.cells #[I 0,I 0,I 0,I 0] gl)):=cd _ _;have rr:af (D+1<(dt.alloc (ai (#[I 0,I 0,I 0,I 0]) gl)).heap.size):=lt_of_heap xD.out;clear tT eA ji gM gN gD gE jj jw j0 j1 j2 j3 j4 jx cP eV ja mz;generalize dt.alloc (.cells #[I 0,I 0,I 0,I 0] gl)=dG at dk zZ xD Gg rr⊢;have z3:=cell_of (i:=3) Gg.out rfl;have MV:af (ao w w ((dG.alloc (hk (max 0 (min st 100000000)) 0)).drew)):=(dk.out.alloc dk.out.size _).drew;have Cm:=aq (aU xD.out (a' dG (hk (max 0 (min st 100000000)) 0)).drew);have Jf:af (D+1<dG.heap.size):=rr.out;have ags:D≠dG.heap.size:=by have:=Jf.out;omega
 have QR:D+1≠dG.heap.size:=by have:=Jf.out;omega
 have agt:af (((dG.alloc (hk (max 0 (min st 100000000)) 0)).drew).heap.size=dG.heap.size+1):=qf _;have BG:=aq (agf S cM cN cq cg du cY Je.out.1 ls pl nl cl bf.out fH 0 fI bQ bU a7 aB st k t hG hh ey al Je.out.2.1 Je.out.2.2.1 o i f Je.out.2.2.2.1 Je.out.2.2.2.2 dG.heap.size (max 0 (min st 100000000)) (max 0 (min st 100000000)) ⟨by omega,oJ _,by omega⟩ ((dG.alloc (hk (max 0 (min st 100000000)) 0)).drew) (aq (H.out.below MV.out)) (aq (by rw[Int.sub_self];exact cd dG _)) r hr);have ra:af (QQ D #[I cM,I cN,I cq,I cg,I du,I cY,ad pl nl cl,ad fH 0 fI,I bQ,I bU,I a7,I aB,I st] (I 0) (I 0) (I 0) (I 0) dG):=⟨zZ.out,xD.out⟩;have r9:=aq (MU ra.out);have fo:=aq (Ww (Below.refl _ _).drew (MU ra.out));obtain⟨zV,rz,DA,at9,jU,m9⟩:=r;clear hr Je zZ xD Gg ra H;cases zV with
 |none=>
  go_upto_region 6 with fail
  go_region_held3 (fun Z=>zY D (I cM) (I cN) (I cq) (I cg) (I du) (I cY) (ad pl nl cl) (ad fH 0 fI) (I bQ) (I bU) (I a7) (I aB) (I st) Z) (first|with_reducible exact fo.out|with_reducible exact r9.out|with_reducible exact Ww (a' _ _) (by assumption)|with_reducible exact agp ags QR (by assumption) (by assumption)|with_reducible exact agq (by assumption)|assumption|fail) (first|(go_at_call 38;(with_reducible refine (VW st _).mono ?_);rintro e ki ⟨rfl,rfl⟩)|(go_at_call 37;(with_reducible refine (BG.out).mono ?_);intro e oD ym;obtain⟨vw,kW⟩:=sJ.get ym;obtain rfl:=sJ.no ym)|fail)
  all_goals
   have BK:af (ao w w oD):=MV.out.trans (kW.below _ MV.out.size (fun k ax=>by have:=jP.out;have:=Jf.out;omega));have Wy:af (an oD (D+1) (#[I 0,I 0,I 0,I 0]) gl):=kW.get QR Cm.out;go_wp2_with fail;have pG:af (((((oD.setCell (aj (D+1) 0) (I rz)).setCell (aj (D+1) 1) (I DA)).setCell (aj (D+1) 2) (I at9)).setCell (aj (D+1) 3) (I jU)).heap[D+1]?=some (.cells #[I rz,I DA,I at9,I jU] gl)):=BF Wy.out (I rz) (I DA) (I at9) (I jU);have lO:af (aQ (fun k=>k≠D+1) oD ((((oD.setCell (aj (D+1) 0) (I rz)).setCell (aj (D+1) 1) (I DA)).setCell (aj (D+1) 2) (I at9)).setCell (aj (D+1) 3) (I jU))):=zW (fun ax=>ax rfl) (I rz) (I DA) (I at9) (I jU);have Dy:af (ao w w ((((oD.setCell (aj (D+1) 0) (I rz)).setCell (aj (D+1) 1) (I DA)).setCell (aj (D+1) 2) (I at9)).setCell (aj (D+1) 3) (I jU))):=BK.out.trans (lO.out.below _ BK.out.size (fun k ax=>by have:=jP.out;omega));generalize (((oD.setCell (aj (D+1) 0) (I rz)).setCell (aj (D+1) 1) (I DA)).setCell (aj (D+1) 2) (I at9)).setCell (aj (D+1) 3) (I jU)=gH at pG lO Dy⊢;obtain⟨eD,a1,a6,ch⟩:=nV pG.out;exact dC (v:=.tuple #[J 0,oF rz DA at9 jU]) (by simp[results,Tryz.results16,go_sem,eD,a1,a6,ch]) rfl ⟨Dy.out,rfl⟩
 |some lc=>
  go_upto_region 6 with fail
  go_region_held3 (fun Z=>zY D (I cM) (I cN) (I cq) (I cg) (I du) (I cY) (ad pl nl cl) (ad fH 0 fI) (I bQ) (I bU) (I a7) (I aB) (I st) Z) (first|with_reducible exact fo.out|with_reducible exact r9.out|with_reducible exact Ww (a' _ _) (by assumption)|with_reducible exact agp ags QR (by assumption) (by assumption)|with_reducible exact agq (by assumption)|assumption|fail) (first|(go_at_call 38;(with_reducible refine (VW st _).mono ?_);rintro e ki ⟨rfl,rfl⟩)|(go_at_call 37;(with_reducible refine (BG.out).mono ?_);intro e oD ym;obtain⟨vw,kW⟩:=sJ.get ym;obtain⟨sv,rfl,yF⟩:=sJ.yes ym)|fail)
  all_goals
   have BK:af (ao w w oD):=MV.out.trans (kW.below _ MV.out.size (fun k ax=>by have:=jP.out;have:=Jf.out;omega));have Wy:af (an oD (D+1) (#[I 0,I 0,I 0,I 0]) gl):=kW.get QR Cm.out;go_wp2_with fail;have pG:af (((((oD.setCell (aj (D+1) 0) (I 0)).setCell (aj (D+1) 1) (I 0)).setCell (aj (D+1) 2) (I 0)).setCell (aj (D+1) 3) (I 0)).heap[D+1]?=some (.cells #[I 0,I 0,I 0,I 0] gl)):=BF Wy.out (I 0) (I 0) (I 0) (I 0);have lO:af (aQ (fun k=>k≠D+1) oD ((((oD.setCell (aj (D+1) 0) (I 0)).setCell (aj (D+1) 1) (I 0)).setCell (aj (D+1) 2) (I 0)).setCell (aj (D+1) 3) (I 0))):=zW (fun ax=>ax rfl) (I 0) (I 0) (I 0) (I 0);have Dy:af (ao w w ((((oD.setCell (aj (D+1) 0) (I 0)).setCell (aj (D+1) 1) (I 0)).setCell (aj (D+1) 2) (I 0)).setCell (aj (D+1) 3) (I 0))):=BK.out.trans (lO.out.below _ BK.out.size (fun k ax=>by have:=jP.out;omega));generalize (((oD.setCell (aj (D+1) 0) (I 0)).setCell (aj (D+1) 1) (I 0)).setCell (aj (D+1) 2) (I 0)).setCell (aj (D+1) 3) (I 0)=gH at pG lO Dy⊢;obtain⟨eD,a1,a6,ch⟩:=nV pG.out;obtain⟨BH,yK,MR⟩:=yF;refine dC (v:=.tuple #[sv,oF 0 0 0 0]) (by simp[results,Tryz.results16,go_sem,eD,a1,a6,ch]) rfl ⟨Dy.out,sv,rfl,BH,mF yK lO.out (fun k e=>?_),fun k e=>?_⟩
   ·have av:=MR k e;have az:=Jf.out;have aF:=agt.out;show k≠D+1;omega
   ·have av:=MR k e;have az:=Jf.out;have aF:=agt.out;have bk:=jP.out;show w.heap.size≤k;omega
end c4
