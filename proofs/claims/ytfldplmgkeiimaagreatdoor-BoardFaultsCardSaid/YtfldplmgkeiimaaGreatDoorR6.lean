/- Lemmas. -/
import Derived.Test.YtfldplmgkeiimaaGreatDoorR5
import Derived.Carry
set_option linter.all false
set_option maxRecDepth 100000
set_option maxHeartbeats 6400000
namespace Go.Proofs.YtfldplmgkeiimaaGreatDoor
abbrev sx:=@Array.size_push
namespace pk
open Go.RowKit kR ig zi
open dd (aP dt cell_of cJ a6 bY lt_of_heap iK)
def M8(w:aeo)(b o:Nat)(x:Nat×D)(cK:ada):Prop:=
 w.cell? ⟨b,o,none⟩=some (I (x.1:Int))∧ak w b (o+1) (I x.2.k)∧ak w b (o+2) (I x.2.n)∧ak w b (o+3) (U x.2.on)∧ak w b (o+4) (aa ⟨x.2.t.toArray⟩)∧ak w b (o+5) (aa ⟨x.2.x.toArray⟩)∧ak w b (o+6) (aa ⟨x.2.y.toArray⟩)∧ak w b (o+7) (aa ⟨x.2.u.toArray⟩)∧ak w b (o+8) (aa ⟨x.2.v.toArray⟩)∧ak w b (o+9) cK
def Bq(B:Nat)(w:aeo)(p:Ja)(l:List (Nat×D)):Prop:=0<l.length→∃b o,p=some ⟨b,o,none⟩∧b<w.heap.size∧∀i (hi:i<l.length),∃hE sy,M8 w b (o+i *10) l[i] (.slice hE l[i].2.bX.length sy)∧dH B w hE l[i].2.bX
theorem M8.below{w w':aeo}{b o:Nat}{x:Nat×D}{cK:ada}(h:M8 w b o x cK)(bR:b<w.heap.size)(ax:ao w w w'):M8 w' b o x cK:=by obtain⟨aS,av,az,aC,bt,cr,c4,ez,eS,fM⟩:=h;have key:∀i,w'.cell? ⟨b,i,none⟩=w.cell? (aj b i):=fun i=>ax.cell (p:=⟨b,i,none⟩) bR;exact⟨(key _).trans aS,(key _).trans av,(key _).trans az,(key _).trans aC,(key _).trans bt,(key _).trans cr,(key _).trans c4,(key _).trans ez,(key _).trans eS,(key _).trans fM⟩
theorem Bq.below{B:Nat}{w w':aeo}{p:Ja}{l:List (Nat×D)}(h:Bq B w p l)(ax:ao w w w'):Bq B w' p l:=by intro aA;obtain⟨b,o,rfl,bR,hc⟩:=h aA;refine⟨b,o,rfl,km bR ax.size,fun i hi=>?_⟩;obtain⟨hE,sy,av,az⟩:=hc i hi;exact⟨hE,sy,av.below bR ax,az.below ax⟩
theorem Bq.nil(B:Nat)(w:aeo)(p:Ja):Bq B w p []:=fun h=>absurd h (mA _)
theorem wJ.reads{w0 w:aeo}{v:ada}{l:List (Nat×D)}(h:wJ w0 v l w):∃p c,v=ad p l.length c∧Bq w0.heap.size w p l:=by
 obtain⟨xs,bm,kV,k0,rfl,yz⟩:=h.own;rcases bm.2 with ⟨rfl,aS⟩|⟨g,cap,cur,rfl,ax,aF,QC,yd,iw,ahp⟩
 ·obtain rfl:l=[]:=mT aS;exact⟨none,0,rfl,Bq.nil _ _ _⟩
 ·refine⟨some ⟨g,0,none⟩,cap,rfl,fun _=>⟨g,0,rfl,(Array.getElem?_eq_some_iff.1 aF).1,fun i hi=>?_⟩⟩;obtain⟨p,c,e,hp⟩:=yz i hi (by omega);refine⟨p,c,?_,hp⟩;have key:∀j,j<10→w.cell? ⟨g,0+i *10+j,none⟩=(mD l[i] (kV[i]'(by omega)))[j]?:=(by intro j cd;rw[j7,bm.cellAt (i *10+j) (by omega)];exact WR l kV k0 i hi j cd);rw[e] at key;exact⟨key 0 (by decide),key 1 (by decide),key 2 (by decide),key 3 (by decide),key 4 (by decide),key 5 (by decide),key 6 (by decide),key 7 (by decide),key 8 (by decide),key 9 (by decide)⟩
abbrev l7:TypeId:=240
abbrev lL(br:Int)(r:Nat)(s u d:Int)(t:Bool):Array Value:= #[J 0,I br,I s,I u,I d,I d,U t,.map (some r),I 0,I 0,I 0,U false,U false,U false]
def M9(br:Int)(r:Nat):Nat→Array Value
 |0=>lL br r 0 0 0 false
 |1=>lL br r 1 0 0 false
 |2=>lL br r 1 1 3 true
 |3=>lL br r 2 1 3 true
 |_=>lL br r 3 1 3 true
def MU(j:Nat)(c:D):Prop:=(j=0∧c=fI 2)∨(j=1∧c={fI 3 with n:=1})∨(j=2∧c=fI 5)∨(j=3∧c=fI 15)
abbrev yA:ByteArray:=⟨#[]⟩
abbrev gm(a k n:Int)(q:Ja)(et:Nat):Array Value:= #[I a,I k,I n,U false,aa yA,aa yA,aa yA,aa yA,aa yA,ad q 0 et]
abbrev hT:TypeId:=184
theorem ahq(b:Nat)(a br:Int)(r:Nat)(q:Ja)(et:Nat)(w:aeo)(ax:an w b (lL br r 1 0 0 false) l7):
  Calls Tryz.prog 166 #[ah b 0,.agg (gm a 3 1 q et)] w fun e w'=>e=ab (I 0)∧an w' b (lL br r 1 1 3 true) l7∧aP (fun k=>k≠b) w w':=by
 have aI:=aq (aU ax (a6 w (ai (gm a 3 1 q et) hT)));have cF:af ((w.alloc (ai (gm a 3 1 q et) hT)).heap[w.heap.size]?=some (.cells (gm a 3 1 q et) hT)):=bY _ _;have cQ:af (aP (fun k=>k≠b) w (w.alloc (ai (gm a 3 1 q et) hT))):=.alloc _ _ _;have hne:w.heap.size≠b:=by have:=lt_of_heap ax;omega
 have iM:=aq hne;clear ax hne;go_enter Tryz.func166,Tryz.ntmps166;go_upto_region 1 with fail;generalize w.alloc (.cells (gm a 3 1 q et) hT)=W at aI cF cQ⊢;generalize w.heap.size=D at cF iM⊢;have c3:=cell_of (i:=3) aI.out rfl;have bF:=cell_of (i:=4) aI.out rfl;have c5:=cell_of (i:=5) aI.out rfl;have bZ:=cell_of (i:=6) aI.out rfl;have f3:=cJ aI.out 3;have f4:=cJ aI.out 4;have f5:=cJ aI.out 5;have f6:=cJ aI.out 6;have d1:=cell_of (i:=1) cF.out rfl;have d2:=cell_of (i:=2) cF.out rfl;have d3:=cell_of (i:=3) cF.out rfl;go_upto_region 6 with fail;have c6:af (((((W.setCell (aj b 3) (I 1)).setCell (aj b 4) (I 3)).setCell (aj b 5) (I 3)).setCell (aj b 6) (U true)).heap[b]?=some (.cells (lL br r 1 1 3 true) l7)):=dt (i:=6) _ (dt (i:=5) _ (dt (i:=4) _ (dt (i:=3) _ aI.out)));have kq:=aq (cQ.out.trans ((((aP.set (S:=fun k=>k≠b) (w:=W) (a:=⟨b,3,none⟩) (fun ay=>ay rfl) (I 1)).trans (.set (a:=⟨b,4,none⟩) (fun ay=>ay rfl) (I 3))).trans (.set (a:=⟨b,5,none⟩) (fun ay=>ay rfl) (I 3))).trans (.set (a:=⟨b,6,none⟩) (fun ay=>ay rfl) (U true))));have qy:af (((((W.setCell (aj b 3) (I 1)).setCell (aj b 4) (I 3)).setCell (aj b 5) (I 3)).setCell (aj b 6) (U true)).heap[D]?=some (.cells (gm a 3 1 q et) hT)):=(iK iM.out).trans ((iK iM.out).trans ((iK iM.out).trans ((iK iM.out).trans cF.out)));clear c3 bF c5 bZ f3 f4 f5 f6 d1 d2 d3 aI cF cQ;generalize (((W.setCell (aj b 3) (I 1)).setCell (aj b 4) (I 3)).setCell (aj b 5) (I 3)).setCell (aj b 6) (U true)=b4 at c6 kq qy⊢;have d2:=cell_of (i:=2) qy.out rfl;go_wp2_with fail;go_ret;exact⟨rfl,c6.out,kq.out⟩
theorem ahr(b:Nat)(a br:Int)(r:Nat)(q:Ja)(et:Nat)(w:aeo)(ax:an w b (lL br r 1 1 3 true) l7):
  Calls Tryz.prog 166 #[ah b 0,.agg (gm a 5 0 q et)] w fun e w'=>e=ab (I 0)∧an w' b (lL br r 2 1 3 true) l7∧aP (fun k=>k≠b) w w':=by
 have aI:=aq (aU ax (a6 w (ai (gm a 5 0 q et) hT)));have cF:af ((w.alloc (ai (gm a 5 0 q et) hT)).heap[w.heap.size]?=some (.cells (gm a 5 0 q et) hT)):=bY _ _;have cQ:af (aP (fun k=>k≠b) w (w.alloc (ai (gm a 5 0 q et) hT))):=.alloc _ _ _;clear ax;go_enter Tryz.func166,Tryz.ntmps166;go_upto_region 1 with fail;generalize w.alloc (.cells (gm a 5 0 q et) hT)=W at aI cF cQ⊢;generalize w.heap.size=D at cF⊢;have aJ:=cell_of (i:=2) aI.out rfl;have c3:=cell_of (i:=3) aI.out rfl;have f2:=cJ aI.out 2;have d1:=cell_of (i:=1) cF.out rfl;go_wp2_with fail;go_ret;exact⟨rfl,dt (i:=2) _ aI.out,cQ.out.trans (.set (a:=⟨b,2,none⟩) (fun ay=>ay rfl) _)⟩
theorem ahs(b:Nat)(a br:Int)(r:Nat)(q:Ja)(et:Nat)(w:aeo)(ax:an w b (lL br r 1 0 0 false) l7):
  Calls Tryz.prog 166 #[ah b 0,.agg (gm a 2 0 q et)] w fun e w'=>e=ab (I 4)∧aP (fun k=>k≠b) w w':=by
 have cF:af ((w.alloc (ai (gm a 2 0 q et) hT)).heap[w.heap.size]?=some (.cells (gm a 2 0 q et) hT)):=bY _ _;have cQ:af (aP (fun k=>k≠b) w (w.alloc (ai (gm a 2 0 q et) hT))):=.alloc _ _ _;clear ax;go_enter Tryz.func166,Tryz.ntmps166;go_upto_region 1 with fail;generalize w.alloc (.cells (gm a 2 0 q et) hT)=W at cF cQ⊢;generalize w.heap.size=D at cF⊢;have d1:=cell_of (i:=1) cF.out rfl;go_wp2_with fail;go_ret;exact⟨rfl,cQ.out⟩
theorem aht(b:Nat)(a br:Int)(r:Nat)(q:Ja)(et:Nat)(w:aeo)(ax:an w b (lL br r 2 1 3 true) l7):
  Calls Tryz.prog 167 #[ah b 0,.agg (gm a 15 0 q et)] w fun e w'=>e=ab (I 0)∧an w' b (lL br r 3 1 3 true) l7∧aP (fun k=>k≠b) w w':=by
 have aI:=aq (aU ax (a6 w (ai (gm a 15 0 q et) hT)));have cF:af ((w.alloc (ai (gm a 15 0 q et) hT)).heap[w.heap.size]?=some (.cells (gm a 15 0 q et) hT)):=bY _ _;have cQ:af (aP (fun k=>k≠b) w (w.alloc (ai (gm a 15 0 q et) hT))):=.alloc _ _ _;have hne:w.heap.size≠b:=by have:=lt_of_heap ax;omega
 have iM:=aq hne;clear ax hne;go_enter Tryz.func167,Tryz.ntmps167;go_upto_region 1 with fail;generalize w.alloc (.cells (gm a 15 0 q et) hT)=W at aI cF cQ⊢;generalize w.heap.size=D at cF iM⊢;have M':=cell_of (i:=13) aI.out rfl;have aJ:=cell_of (i:=2) aI.out rfl;have f13:=cJ aI.out 13;have f2:=cJ aI.out 2;have d1:=cell_of (i:=1) cF.out rfl;have XD:=iM.out;go_wp2_with fail;go_ret;exact⟨rfl,dt (i:=2) _ (dt (i:=13) _ aI.out),cQ.out.trans ((aP.set (a:=⟨b,13,none⟩) (fun ay=>ay rfl) _).trans (.set (a:=⟨b,2,none⟩) (fun ay=>ay rfl) _))⟩
end pk
namespace dd
open Go.RowKit ef
variable{P:aeo→Prop}{w:aeo}{o p q:Obj}{g i j m:Nat}{cs:ajv}{t:aai}{u v x:ada}
theorem ahu(k:∀W,W.heap[w.heap.size]?=some o→ao w w W→P W):P (w.alloc o):=k _ (bY _ _) (a6 _ _)
theorem ahv(k:∀W,W.heap[w.heap.size]?=some o→W.heap[w.heap.size+1]?=some p→ao w w W→P W):P ((w.alloc o).alloc p):=by refine k _ (aU (bY _ _) (a6 _ _)) ?_ ((a6 _ _).trans ((a6 _ _).mono (a6 _ _).size));rw[←wP w o];exact bY _ _
theorem aP.ne{b:Nat}(v:ada):aP (fun k=>k≠g) w (w.setCell (aj g b) v):=aP.set (a:=⟨g,b,none⟩) (fun h=>h rfl) v
theorem aP.aX{B:Nat}{w0 w w':aeo}(h:aP (fun b=>b≠g) w w')(ax:Below B w0 w)(aF:B≤g)(hs:B≤w.heap.size):Below B w0 w':=ax.trans (h.below B hs fun k ay e=>by omega)
theorem ahw(h:an w g cs t)(k:∀W,an W g (cs.setIfInBounds i v) t→aP (fun b=>b≠g) w W→P W):P (w.setCell (aj g i) v):=k _ (dt _ h) (aP.ne _)
theorem XE:∀(vs pre l:aev),vs.length≤l.length→rp (pre++l).toArray pre.length vs=(pre++vs++l.drop vs.length).toArray
 |[],pre,l,_=>by simp[rp]
 |v::vs,pre,[],h=>absurd h (by simp)
 |v::vs,pre,x::l,h=>by have e:(pre++x::l).toArray.setIfInBounds pre.length v=((pre++[v])++l).toArray:=(by simp);have g:=XE vs (pre++[v]) l (by simpa using h);rw[iv] at g;show rp _ _ _=_;rw[rp,e];exact g.trans (by simp)
theorem XF{l:aev}(vs:aev)(h:an w g l.toArray t)(aA:vs.length≤l.length)(k:∀W,an W g ((vs++l.drop vs.length).toArray) t→aP (fun b=>b≠g) w W→W.heap.size=w.heap.size→P W):P (iL w g 0 vs):=by refine k _ ?_ (wY (fun h=>h rfl) vs) (Xw _ _ _ _);rw[FT vs h];have:=XE vs [] l aA;simp only[Ml,tj] at this;rw[this]
theorem ahx{l:aev}(vs:aev)(h:an w g l.toArray t)(aA:vs.length≤l.length)(k:∀W,an W g ((vs++l.drop vs.length).toArray) t→aP (fun b=>b≠g) w W→P W):P (iL w g 0 vs):=XF vs h aA fun W av az _=>k W av az
theorem FW(vs:aev)(h:an w g cs t)(aA:vs.length=cs.size)(k:∀W,an W g vs.toArray t→aP (fun b=>b≠g) w W→P W):P (iL w g 0 vs):=k _ (oh vs h aA) (wY (fun h=>h rfl) vs)
end dd
namespace pk
open Go.RowKit kR ig zi
open dd (aP dt cell_of cJ a6 bY lt_of_heap iK)
def gk:Nat→Int×Int
 |0=>(2,0)
 |1=>(3,1)
 |2=>(5,0)
 |_=>(15,0)
def Br(j:Nat):D:={Qs with k:=(gk j).1,n:=(gk j).2}
theorem ahy(j:Nat)(cd:j<4)(b:Nat)(a br:Int)(r:Nat)(q:Ja)(et:Nat)(w:aeo)(ax:an w b (M9 br r j) l7):
  Calls Tryz.prog 117 #[ah b 0,.agg (gm a (gk j).1 (gk j).2 q et)] w fun e w'=>e=ab (I 0)∧an w' b (M9 br r (j+1)) l7∧aP (fun k=>k≠b) w w':=by
 have aI:=aq (aU ax (a6 w (ai (gm a (gk j).1 (gk j).2 q et) hT)));have cF:af ((w.alloc (ai (gm a (gk j).1 (gk j).2 q et) hT)).heap[w.heap.size]?=some (.cells (gm a (gk j).1 (gk j).2 q et) hT)):=bY _ _;have cQ:af (aP (fun k=>k≠b) w (w.alloc (ai (gm a (gk j).1 (gk j).2 q et) hT))):=.alloc _ _ _;clear ax;go_enter Tryz.func117,Tryz.ntmps117;go_upto_region 1 with fail;generalize w.alloc (.cells (gm a (gk j).1 (gk j).2 q et) hT)=W at aI cF cQ⊢;generalize w.heap.size=D at cF⊢;rcases (show j=0∨j=1∨j=2∨j=3 by omega) with rfl|rfl|rfl|rfl
 ·have cC:af (an W b (lL br r 0 0 0 false) l7):=aI.out;have kI:af (an W D (gm a 2 0 q et) hT):=cF.out;have aJ:=cell_of (i:=2) cC.out rfl;have f2:=cJ cC.out 2;obtain⟨⟨d0,d1,d2,d3,d4,d5,d6,d7,d8,d9⟩,_⟩:=ra kI.out;clear cF kI aI;go_wp2_with fail;go_ret;exact⟨rfl,dt (i:=2) _ cC.out,cQ.out.trans (.set (a:=⟨b,2,none⟩) (fun ay=>ay rfl) _)⟩
 ·have cC:af (an W b (lL br r 1 0 0 false) l7):=aI.out;have kI:af (an W D (gm a 3 1 q et) hT):=cF.out;have aJ:=cell_of (i:=2) cC.out rfl;have f2:=cJ cC.out 2;obtain⟨⟨d0,d1,d2,d3,d4,d5,d6,d7,d8,d9⟩,_⟩:=ra kI.out;clear cF kI aI;go_wp2_with fail;go_fit (ahq b a br r q et W cC.out);rintro e b9 ⟨rfl,av,az⟩;have H1:=aq (And.intro av az);clear av az;go_wp2_with fail;go_ret;exact⟨rfl,H1.out.1,cQ.out.trans H1.out.2⟩
 ·have cC:af (an W b (lL br r 1 1 3 true) l7):=aI.out;have kI:af (an W D (gm a 5 0 q et) hT):=cF.out;have aJ:=cell_of (i:=2) cC.out rfl;have f2:=cJ cC.out 2;obtain⟨⟨d0,d1,d2,d3,d4,d5,d6,d7,d8,d9⟩,_⟩:=ra kI.out;clear cF kI aI;go_wp2_with fail;go_fit (ahr b a br r q et W cC.out);rintro e b9 ⟨rfl,av,az⟩;have H1:=aq (And.intro av az);clear av az;go_wp2_with fail;go_ret;exact⟨rfl,H1.out.1,cQ.out.trans H1.out.2⟩
 ·have cC:af (an W b (lL br r 2 1 3 true) l7):=aI.out;have kI:af (an W D (gm a 15 0 q et) hT):=cF.out;have aJ:=cell_of (i:=2) cC.out rfl;have f2:=cJ cC.out 2;obtain⟨⟨d0,d1,d2,d3,d4,d5,d6,d7,d8,d9⟩,_⟩:=ra kI.out;clear cF kI aI;go_wp2_with fail;go_fit (aht b a br r q et W cC.out);rintro e b9 ⟨rfl,av,az⟩;have H1:=aq (And.intro av az);clear av az;go_wp2_with fail;go_ret;exact⟨rfl,H1.out.1,cQ.out.trans H1.out.2⟩
theorem ahz(b:Nat)(a br:Int)(r:Nat)(q:Ja)(et:Nat)(w:aeo)(ax:an w b (M9 br r 1) l7):
  Calls Tryz.prog 117 #[ah b 0,.agg (gm a 2 0 q et)] w fun e w'=>e=ab (I 4)∧aP (fun k=>k≠b) w w':=by
 have aI:=aq (aU ax (a6 w (ai (gm a 2 0 q et) hT)));have cF:af ((w.alloc (ai (gm a 2 0 q et) hT)).heap[w.heap.size]?=some (.cells (gm a 2 0 q et) hT)):=bY _ _;have cQ:af (aP (fun k=>k≠b) w (w.alloc (ai (gm a 2 0 q et) hT))):=.alloc _ _ _;clear ax;go_enter Tryz.func117,Tryz.ntmps117;go_upto_region 1 with fail;generalize w.alloc (.cells (gm a 2 0 q et) hT)=W at aI cF cQ⊢;generalize w.heap.size=D at cF⊢;have cC:af (an W b (lL br r 1 0 0 false) l7):=aI.out;have aJ:=cell_of (i:=2) cC.out rfl;obtain⟨⟨d0,d1,d2,d3,d4,d5,d6,d7,d8,d9⟩,_⟩:=ra cF.out;clear cF;go_wp2_with fail;go_fit (ahs b a br r q et W cC.out);rintro e b9 ⟨rfl,az⟩;have H1:=aq az;clear az;go_wp2_with fail;go_ret;exact⟨rfl,cQ.out.trans H1.out⟩
def FX(e8:Bool)(at_:Int):Ending:=if e8=true then ab (.tuple #[J 0,I at_,I 4]) else ab (.tuple #[J 0,I 0,I 0])
theorem ahA(e8:Bool)(ahB:Nat)(p:Ja)(cap n:Nat)(l:List (Nat×D))(aA:l.length=n)(hn:n=if e8=true then 2 else 4)(hc:af (∀j (h:j<l.length),l[j].2=Br (if e8=true then 0 else j)))(w:aeo)(cF:af (Bq ahB w p l))(br:Int):
  Calls Tryz.prog 78 #[ad p n cap,I br] w fun e w'=>e=FX e8 1∧ao w w w':=by
 have dn:=aq aA;have bd:=aq hn;have avO:n≤4:=by rw[hn];split<;>omega
 have bw:af (((w.alloc (.map #[] 0)).alloc (ai (lL (max 0 (min br 100000)) w.heap.size 0 0 0 false) l7)).heap[w.heap.size+1]?=some (.cells (lL (max 0 (min br 100000)) w.heap.size 0 0 0 false) l7)):=by have h:=bY (w.alloc (.map #[] 0)) (ai (lL (max 0 (min br 100000)) w.heap.size 0 0 0 false) l7);rw[show (w.alloc (.map #[] 0)).heap.size=w.heap.size+1 from sx _] at h;exact h
 have hU:af (ao w w ((w.alloc (.map #[] 0)).alloc (ai (lL (max 0 (min br 100000)) w.heap.size 0 0 0 false) l7))):=(a6 _ _).trans ((a6 _ _).mono (a6 _ _).size);have l8:=@run_makeMap Tryz.prog;clear aA hn;go_enter Tryz.func78,Tryz.ntmps78;go_upto_region 3 with fail;change Code.wp _ _ _ _ ((w.alloc (.map #[] 0)).alloc (ai (lL (max 0 (min br 100000)) w.heap.size 0 0 0 false) l7));generalize (w.alloc (.map #[] 0)).alloc (.cells (lL (max 0 (min br 100000)) w.heap.size 0 0 0 false) l7)=W at bw hU⊢;clear l8;generalize max 0 (min br 100000)=rq at bw⊢
 go_loopw [18] (fun tQ dw=>∃(j:Nat) (aM:aeo),aM=dw∧tQ=I j∧j≤n∧(e8=true→j≤1)∧af (an aM (w.heap.size+1) (M9 rq w.heap.size j) l7)∧af (ao w w aM)) (fun tQ _=>n -(intOf tQ).toNat)
 case atStart=>exact⟨0,_,rfl,rfl,dO _,fun _=>dO _,bw.out,hU.out⟩
 case round=>
 obtain⟨j,dw,rfl,rfl,cd,er,bH,aI⟩:=hrel;clear bw hU;by_cases bR:j<n
 ·have gU:(j:Int)<(n:Int):=(by omega);have lX:j<l.length:=(by rw[dn.out];exact bR);obtain⟨fN,ol,rfl,ks,Bs⟩:=(cF.out.below aI.out) (by omega);obtain⟨hE,sy,bE,_⟩:=Bs j lX;obtain⟨s0,s1,s2,nd,qz,qA,qB,qC,qD,qE⟩:=bE;generalize ((l[j].1:Nat):Int)=Bt at s0;obtain⟨l9,FY⟩:=ar (if e8=true then 0 else j);have Na:=aq FY;rw[hc.out j lX,FY] at s1 s2 nd qz qA qB qC qD qE;have s1:ak dw fN (ol+j *10+1) (I (gk l9).1):=s1;have s2:ak dw fN (ol+j *10+2) (I (gk l9).2):=s2;have nd:ak dw fN (ol+j *10+3) (U false):=nd;have qz:ak dw fN (ol+j *10+4) (aa yA):=qz;have qA:ak dw fN (ol+j *10+5) (aa yA):=qA;have qB:ak dw fN (ol+j *10+6) (aa yA):=qB;have qC:ak dw fN (ol+j *10+7) (aa yA):=qC;have qD:ak dw fN (ol+j *10+8) (aa yA):=qD;have qE:ak dw fN (ol+j *10+9) (ad hE 0 sy):=qE;have ej:((gk l9).1==1)=false:=by have:l9<4:=(by rw[←FY];split<;>omega);rcases (show l9=0∨l9=1∨l9=2∨l9=3 by omega) with rfl|rfl|rfl|rfl<;>rfl
  clear Bs FY;go_upto_region 5 with fail;have c6:=aq (aI.out.trans ((a6 dw (ai (gm Bt (gk l9).1 (gk l9).2 hE sy) hT)).mono aI.out.size));have cA:=aq (aU bH.out (a6 dw (ai (gm Bt (gk l9).1 (gk l9).2 hE sy) hT)));have cR:=aq (bY dw (ai (gm Bt (gk l9).1 (gk l9).2 hE sy) hT));clear s0 s1 s2 nd qz qA qB qC qD qE;change Code.wp _ _ _ _ (dw.alloc (ai (gm Bt (gk l9).1 (gk l9).2 hE sy) hT));generalize dw.alloc (.cells (gm Bt (gk l9).1 (gk l9).2 hE sy) hT)=X at c6 cA cR⊢;obtain⟨⟨d0,d1,d2,d3,d4,d5,d6,d7,d8,d9⟩,_⟩:=ra cR.out;go_wp2_with fail;by_cases fb:e8=true∧j=1
  ·obtain⟨rfl,rfl⟩:=fb;obtain rfl:l9=0:=Na.out.symm;have c7:Calls Tryz.prog 117 #[ah (w.heap.size+1) 0,.agg (gm Bt (gk 0).1 (gk 0).2 hE sy)] X fun e w'=>e=ab (I 4)∧aP (fun k=>k≠w.heap.size+1) X w':=ahz (w.heap.size+1) Bt rq w.heap.size hE sy X cA.out;with_reducible refine c7.mono ?_
   clear c7;rintro e dP ⟨rfl,l6⟩;have dV:=aq (l6.aX c6.out (mv _) c6.out.size);clear l6 d0 d1 d2 d3 d4 d5 d6 d7 d8 d9;go_wp2_with fail;go_ret3;exact⟨rfl,dV.out⟩
  ·obtain rfl:l9=j:=by
    rw[←Na.out];split
    ·rename_i ve;have av:=er ve;have az:¬j=1:=fun e=>fb ⟨ve,e⟩;omega
    ·rfl
   go_fit (ahy l9 (by omega) (w.heap.size+1) Bt rq w.heap.size hE sy X cA.out);rintro e dP ⟨rfl,Nb,l6⟩;have dV:=aq (l6.aX c6.out (mv _) c6.out.size);have jA:=aq Nb;have vf:e8=true→l9+1≤1:=(fun h=>by have av:=er h;have az:¬l9=1:=fun e=>fb ⟨h,e⟩;omega);clear l6 Nb d0 d1 d2 d3 d4 d5 d6 d7 d8 d9;go_wp2_with fail;go_round
   case rel=>exact⟨l9+1,_,rfl,by go_num,by omega,vf,jA.out,dV.out⟩
   case measure=>simp[intOf];omega
 ·have gU:¬(j:Int)<(n:Int):=by omega
  obtain rfl:e8=false:=by
   cases ve:e8 with
   |false=>rfl
   |true=>have av:=er ve;have az:=bd.out;rw[bb ve] at az;omega
  obtain rfl:j=4:=(by have az:=bd.out;rw[aW (by simp)] at az;omega);have kd:af (an dw (w.heap.size+1) (lL rq w.heap.size 3 1 3 true) l7):=bH.out;have aQ:=cell_of (i:=0) kd.out rfl;have aJ:=cell_of (i:=2) kd.out rfl;go_wp2_with fail;go_ret3;exact⟨rfl,aI.out⟩
structure sz(e8:Bool)(at_:Int)(S:Ua):Prop where
 bD:S.size≤1000
 kJ:CM S.data.toList≤20000
 all:∀i (h:i<S.size),S[i]≠13∧tm S[i]=true
 ev:zn S.size S.data.toList=true
 ps:∃l:List (Nat×D),Qu S.data.toList=(l,0,0)∧(l.length=if e8=true then 2 else 4)∧(∀j (h:j<l.length),l[j].2=Br (if e8=true then 0 else j))∧(e8=true→∀h:1<l.length,(l[1].1:Int)=at_)
theorem XG(e8:Bool)(at_:Int)(S:Ua)(h:sz e8 at_ S)(br:Int)(w:aeo)(ff:af (lf w)):
  Calls Tryz.prog 52 #[aa S,I br] w fun e w'=>e=FX e8 at_∧ao w w w':=by
 obtain⟨l,hp,aA,hc,eX⟩:=h.ps;have bT:=agE S h.bD h.kJ (aq h.all) (aq h.ev) w ff l (aq hp);obtain⟨n,hn⟩:=ar l.length;have bC:=aq hc;have IN:=aq eX;rw[hn] at aA;have dn:=aq hn;have bd:=aq aA;clear h hp hc eX hn aA;go_enter Tryz.func52,Tryz.ntmps52;go_wp2_with fail;with_reducible refine bT.mono ?_
 rintro h3 cc ⟨v,rfl,i1⟩;obtain⟨p,cp,rfl,hd⟩:=i1.reads;have cC:=aq i1.aX;have kI:=aq hd;rw[dn.out];clear i1 hd bT;go_wp2_with fail;go_fit (ahA e8 w.heap.size p cp n l dn.out bd.out bC cc kI br);rintro h3 b9 ⟨rfl,dc⟩;have c6:=aq (cC.out.trans (dc.mono cC.out.size));have qy:=aq (kI.out.below dc);clear dc kI cC;cases e8 with
 |false=>
  unfold FX;go_wp2_with fail;go_ret3;exact⟨rfl,c6.out⟩
 |true=>
  obtain rfl:n=2:=(by have h:=bd.out;rw[bb rfl] at h;exact h);have av:1<l.length:=(by rw[dn.out];decide);obtain⟨fN,ol,rfl,ks,Bs⟩:=qy.out (by omega);obtain⟨hE,sy,bE,wZ⟩:=Bs 1 av;have s0:=bE.1;rw[IN.out rfl av] at s0;clear Bs bE wZ av;unfold FX;go_wp2_with fail
  go_quiet (fail)
  go_wp2_with fail;go_ret3;exact⟨rfl,dd.kX c6.out _⟩
theorem XH:sz false 0 ⟨#[77,52,56,10,77,69,84,82,73,67,10,37,10,77,51,48,10]⟩:=⟨by decide,by decide+kernel,by decide+kernel,by decide+kernel,[(0,Br 0),(4,Br 1),(11,Br 2),(13,Br 3)],by decide+kernel,rfl,fun j cd=>by have cd:j<4:=cd;rcases (show j=0∨j=1∨j=2∨j=3 by omega) with rfl|rfl|rfl|rfl<;>rfl,fun h=>by cases h⟩
theorem XI:sz true 4 ⟨#[77,52,56,10,77,52,56,10]⟩:=⟨by decide,by decide+kernel,by decide+kernel,by decide+kernel,[(0,Br 0),(4,Br 0)],by decide+kernel,rfl,fun j cd=>by have cd:j<2:=cd;rcases (show j=0∨j=1 by omega) with rfl|rfl<;>rfl,fun _ _=>rfl⟩
end pk
