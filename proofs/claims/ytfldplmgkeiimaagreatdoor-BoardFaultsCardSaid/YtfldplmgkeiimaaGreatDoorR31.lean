/- Lemmas. -/
import Derived.Test.YtfldplmgkeiimaaGreatDoorR30
import Derived.Test.YtfldplmgkeiimaaGreatDoorR6
set_option linter.all false
set_option maxRecDepth 100000
set_option maxHeartbeats 12800000
namespace Go.Proofs.YtfldplmgkeiimaaGreatDoor
abbrev Hs:=@Int.tdiv_eq_ediv_of_nonneg
abbrev Pr:=@leaves_cons
namespace dd
open Go.RowKit ef
abbrev aoG:TypeId:=148
abbrev ib(b5 a:Int):Obj:=.cells #[I b5,I a] aoG
theorem aoH(n:Int)(w:aeo):Calls Tryz.prog 38 #[I n] w fun e w'=>e=ab (ah w.heap.size 0)∧w'=w.alloc (ib (max 0 (min n 100000000)) 0):=by go_enter Tryz.func38,Tryz.ntmps38;go_wp2_with fail;go_ret;exact⟨rfl,rfl⟩
theorem aoI(b i:Nat)(a:Int)(aS:-1≤a∧a≤4611686018427387904)(w:aeo)(hc:ak w b i (I a))(cz:w.frozen? ⟨b,i,none⟩=false):Calls Tryz.prog 172 #[ah b i,I 1] w fun e w'=>e=ab (I (a+1))∧w'=w.setCell (aj b i) (I (a+1)):=by have wH:=Uv (P:=Tryz.prog) Tryz.func216 (by kernel_rfl) (by kernel_rfl) (by kernel_rfl) .i64 (by kernel_rfl) (y:=1) (s:=a+1) hc cz (by simp[go_sem,cY (a+1) (by omega)]);go_enter Tryz.func172,Tryz.ntmps172;go_wp2;go_ret;exact⟨rfl,rfl⟩
theorem Ps{w:aeo}{k:Nat}{m a:Int}(h:w.heap[k]?=some (ib m a)):ak w k 0 (I m)∧ak w k 1 (I a)∧w.frozen? ⟨k,1,none⟩=false:=by refine⟨?_,?_,?_⟩<;>simp[World.cell?,World.frozen?,h]
theorem acn{w:aeo}{k:Nat}{m a:Int}(b:Int)(h:w.heap[k]?=some (ib m a)):(w.setCell (aj k 1) (I b)).heap[k]?=some (ib m b):=dt _ h
theorem aoJ(g:Nat)(b5 a:Int)(aS:-1≤a∧a≤4611686018427387904)(w:aeo)(H:af (w.heap[g]?=some (ib b5 a)))(f:Bool)(hf:af (decide (a+1≤b5)=f)):Calls Tryz.prog 125 #[ah g 0] w fun e w'=>e=ab (U f)∧w'.heap[g]?=some (ib b5 (a+1))∧aP (fun k=>k≠g) w w':=by
 have cF:af (w.drew.heap[g]?=some (ib b5 a)):=H.out;have bC:af (ak w.drew g 1 (I a)∧w.drew.frozen? ⟨g,1,none⟩=false):=(Ps cF.out).2;have cy:=aq aS;have qw:af (ak w g 0 (I b5)):=(Ps H.out).1;have H1:af (ak w.drew g 0 (I b5)):=(Ps H.out).1;have dp:af ((w.drew.setCell (aj g 1) (I (a+1))).cell? ⟨g,0,none⟩=some (I b5)):=(Ps (acn (a+1) cF.out)).1;go_enter Tryz.func125,Tryz.ntmps125;go_upto_region 1 with fail
 go_region_held3 (fun Z=>Z.cell? ⟨g,0,none⟩=some (I b5)) (first|exact qw.out|exact H1.out|exact dp.out|assumption|fail) (first|(go_at_call 172;with_reducible refine (aoI g 1 a cy.out _ bC.out.1 bC.out.2).mono ?_;rintro e bI ⟨rfl,rfl⟩)|fail)
 go_wp2_with fail;go_ret;refine⟨dD hf.out,acn _ cF.out,?_⟩;exact (aP.dW (Below.refl _ _).drew).trans (aP.set (a:=⟨g,1,none⟩) (fun h=>h rfl) _)
abbrev KX(a b c d:ck):List Value:=[I a.aD,I a.aE,I a.aL,I a.aH,I b.aD,I b.aE,I b.aL,I b.aH,I c.aD,I c.aE,I c.aL,I c.aH,I d.aD,I d.aE,I d.aL,I d.aH]
abbrev Cq(aD aE aL aH x y:Int):List Value:=KX ⟨aD,aE,x,y⟩ ⟨x,aE,aL,y⟩ ⟨aD,y,x,aH⟩ ⟨x,y,aL,aH⟩
theorem Pt{b:ck}(h:okB b=true):(b.aD≤b.aL∧b.aE≤b.aH)∧(-536870912≤b.aD∧b.aD≤536870912)∧(-536870912≤b.aE∧b.aE≤536870912)∧(-536870912≤b.aL∧b.aL≤536870912)∧(-536870912≤b.aH∧b.aH≤536870912):=by simp only[okB,tD,jh,jR] at h;omega
theorem aoK{b:ck}(h:okB b=true):I5 b:=by obtain⟨av,az,aC,bt,cr⟩:=Pt h;exact⟨⟨az,aC⟩,⟨bt,cr⟩,by simp[sj];omega⟩
theorem aoL(aD aE aL aH:Int)(eF:okB ⟨aD,aE,aL,aH⟩=true)(hx:(aL-aD)%2=0∧0<aL-aD)(hy:(aH-aE)%2=0∧0<aH-aE)(x y:Int)(c7:aD+(aL-aD)/ 2=x)(k9:aE+(aH-aE)/ 2=y)(w:aeo):
  Calls Tryz.prog 127 #[h5 ⟨aD,aE,aL,aH⟩] w fun e w'=>e=ab (.tuple #[.agg (Cq aD aE aL aH x y).toArray,U true])∧ao w w w':=by
 obtain⟨av,az,aC,bt,cr⟩:=Pt eF;have qT:=aq eF;obtain⟨a,ha⟩:=ar (aL-aD);obtain⟨b,ax⟩:=ar (aH-aE);simp only at av az aC bt cr;have cc:ae (aL-aD)=a:=by rw[cY _ (by omega),ha]
 have b9:ae (aH-aE)=b:=by rw[cY _ (by omega),ax]
 rw[ha] at hx c7;rw[ax] at hy k9;have t1:a.tmod 2=0:=by rw[By (by omega)];exact hx.1
 have t2:b.tmod 2=0:=by rw[By (by omega)];exact hy.1
 have t3:a.tdiv 2=a/2:=Hs (by omega);have t4:b.tdiv 2=b/2:=Hs (by omega);have t5:ae (a/2)=a/2:=cY _ (by omega);have t6:ae (b/2)=b/2:=cY _ (by omega);have t7:ae (aD+a/2)=x:=by rw[cY _ (by omega),c7]
 have t8:ae (aE+b/2)=y:=by rw[cY _ (by omega),k9]
 have a0:(a==0)=false:=by simp;omega
 have cu:(b==0)=false:=by simp;omega
 have axb:¬a=0:=by omega
 have vT:¬b=0:=by omega
 clear av az aC bt cr eF ha ax hx hy c7 k9;go_enter Tryz.func127,Tryz.ntmps127;go_upto_region 1 with fail;obtain⟨axc,eY⟩:∃z:aev,[I 0,I 0,I 0,I 0,I 0,I 0,I 0,I 0,I 0,I 0,I 0,I 0,I 0,I 0,I 0,I 0]=z:=⟨_,rfl⟩;obtain⟨W,bo⟩:=ar ((w.alloc (cV ⟨aD,aE,aL,aH⟩)).alloc (ai ((KX eh eh eh eh).toArray) 251));have aI:af (ao w w W):=by show Below _ _ _;rw[←bo];exact pz _ _ _
 have cy:af (W.heap[w.heap.size]?=some (cV ⟨aD,aE,aL,aH⟩)):=by show _=_;rw[←bo];exact aU (bY _ _) (a6 _ _)
 have bC:af (an W (w.heap.size+1) ((KX eh eh eh eh).toArray) 251):=by show _=_;rw[←bo];exact vd _ _ _
 change Code.wp _ _ _ _ ((w.alloc (cV ⟨aD,aE,aL,aH⟩)).alloc (ai ((KX eh eh eh eh).toArray) 251));rw[bo];clear bo eY;obtain⟨aQ,aN,aJ,c3⟩:=gW cy.out;go_wp2_with fail;with_reducible refine (XA ⟨aD,aE,aL,aH⟩ true qT _).mono ?_
 rintro e V ⟨rfl,ax⟩;have cC:af (ao w w V):=aI.out.trans (ax.mono aI.out.size);have su:=aq (aU cy.out ax);have lY:=aq (aU bC.out ax);clear aQ aN aJ c3 ax;obtain⟨aQ,aN,aJ,c3⟩:=gW su.out;go_upto_region 3 with fail
 go_quiet (fail)
 go_upto_region 6 with fail
 go_quiet (fail)
 generalize Pu:World.drewN _ _=mc;have c6:af (ao w w mc):=by show Below _ _ _;rw[←Pu];exact kX (kX cC.out _) _
 have qx:af (mc.heap[w.heap.size]?=some (cV ⟨aD,aE,aL,aH⟩)):=by show _=_;rw[←Pu];exact su.out
 have gl:af (an mc (w.heap.size+1) ((KX eh eh eh eh).toArray) 251):=by show _=_;rw[←Pu];exact lY.out
 clear aQ aN aJ c3 Pu;obtain⟨aQ,aN,aJ,c3⟩:=gW qx.out;have bJ:=cell_of (i:=0) gl.out rfl;have bO:=cell_of (i:=1) gl.out rfl;have ba:=cell_of (i:=2) gl.out rfl;have p0:=cell_of (i:=3) gl.out rfl;have BE:=cell_of (i:=4) gl.out rfl;have DV:=cell_of (i:=5) gl.out rfl;have DW:=cell_of (i:=6) gl.out rfl;have DX:=cell_of (i:=7) gl.out rfl;have DY:=cell_of (i:=8) gl.out rfl;have xl:=cell_of (i:=9) gl.out rfl;have DZ:=cell_of (i:=10) gl.out rfl;have KQ:=cell_of (i:=11) gl.out rfl;have aco:=cell_of (i:=12) gl.out rfl;have acp:=cell_of (i:=13) gl.out rfl;have acq:=cell_of (i:=14) gl.out rfl;have axd:=cell_of (i:=15) gl.out rfl;have dT:=cJ gl.out;go_wp2_with fail;have jX:=oh (Cq aD aE aL aH x y) gl.out rfl;have ax:=ss (m:=0) (b:=w.heap.size+1) (mv _) (Cq aD aE aL aH x y) c6.out;exact dU (o1 rfl _ _ (w.heap.size+1) _ _ _ _ rfl jX Tryz.underlying251 rfl (by kernel_rfl)) rfl ⟨rfl,ax⟩
end dd
namespace dd
open Go.RowKit ef
open ct (C k2)
abbrev p':TypeId:=128
abbrev qU(S:Ua)(br d st sm mk:Int)(ov:ada)(i e:Int):Array Value:= #[aa S,I br,.int .u32 d,.int .i32 st,.int .u32 sm,.int .i32 mk,ov,I i,I e]
theorem aoM(b i:Nat)(w:aeo)(hc:ak w b i (.int .i32 0))(cz:w.frozen? ⟨b,i,none⟩=false):Calls Tryz.prog 49 #[ah b i,.int .i32 1] w fun e w'=>e=ab (.int .i32 1)∧w'=w.setCell (aj b i) (.int .i32 1):=by have wH:=Uv (P:=Tryz.prog) Tryz.func76 (by kernel_rfl) (by kernel_rfl) (by kernel_rfl) .i32 (by kernel_rfl) (y:=1) (s:=1) hc cz (by simp[go_sem];rfl);go_enter Tryz.func49,Tryz.ntmps49;go_wp2_with fail;go_ret;exact⟨rfl,rfl⟩
variable{w x:aeo}
theorem KP.get{r:List eu×Nat×Nat}{e:Ending}{w':aeo}(h:KP w r e w'):ao w w w'∧∃q d,e=ab (.tuple #[ad q r.1.length d,I (r.2.1:Int),I (r.2.2:Int)])∧h8 (fun k=>w.heap.size≤k) w' q r.1:=h
abbrev aoN(S:Ua)(br:Int)(v6 cj cD:ada):Array Value:= #[aa S,I br,.int .u32 0,.int .i32 1,.int .u32 0,.int .i32 0,v6,cj,cD]
structure qV(w:aeo)(q b:Nat)(S:Ua)(br:Int)(v6 cj cD:ada)(x:aeo):Prop where
 aR:an x q (#[.pointer (some (aj b 0))]) 59
 ax:an x b (aoN S br v6 cj cD) p'
 ay:aP (fun k=>k≠b) w x
abbrev uy(w:aeo)(q b:Nat)(S:Ua)(br:Int)(x:aeo):Prop:=
 x.cell? ⟨q,0,none⟩=some (.pointer (some (aj b 0)))∧ak x b 0 (aa S)∧ak x b 1 (I br)∧
 ak x b 6 (lk x b 6)∧x.frozen? ⟨b,6,none⟩=false∧ak x b 7 (lk x b 7)∧x.frozen? ⟨b,7,none⟩=false∧ak x b 8 (lk x b 8)∧x.frozen? ⟨b,8,none⟩=false∧∃v6 cj cD,qV w q b S br v6 cj cD x
variable{q b:Nat}{S:Ua}{br:Int}{v6 cj cD:ada}
theorem Ht(h:qV w q b S br v6 cj cD x):uy w q b S br x:=
 ⟨cell_of h.aR rfl,cell_of h.ax rfl,cell_of h.ax rfl,o2 (cell_of h.ax rfl),cJ h.ax 6,o2 (cell_of h.ax rfl),cJ h.ax 7,o2 (cell_of h.ax rfl),cJ h.ax 8,_,_,_,h⟩
theorem Pv(h:uy w q b S br x):∃v6 cj cD,qV w q b S br v6 cj cD x:=h.2.2.2.2.2.2.2.2.2
theorem qV.below{y:aeo}(h:qV w q b S br v6 cj cD x)(ax:ao x x y):qV w q b S br v6 cj cD y:=⟨aU h.aR ax,aU h.ax ax,h.ay.trans (aP.dW ax)⟩
theorem qV.KY(fm:q≠b)(h:qV w q b S br v6 cj cD x)(u:ada):qV w q b S br u cj cD (x.setCell (aj b 6) u):=⟨(iK fm).trans h.aR,(by have:=dt (i:=6) u h.ax;exact this),h.ay.trans (aP.set (a:=⟨b,6,none⟩) (fun ay=>ay rfl) _)⟩
theorem qV.KZ(fm:q≠b)(h:qV w q b S br v6 cj cD x)(u:ada):qV w q b S br v6 u cD (x.setCell (aj b 7) u):=⟨(iK fm).trans h.aR,(by have:=dt (i:=7) u h.ax;exact this),h.ay.trans (aP.set (a:=⟨b,7,none⟩) (fun ay=>ay rfl) _)⟩
theorem qV.acr(fm:q≠b)(h:qV w q b S br v6 cj cD x)(u:ada):qV w q b S br v6 cj u (x.setCell (aj b 8) u):=⟨(iK fm).trans h.aR,(by have:=dt (i:=8) u h.ax;exact this),h.ay.trans (aP.set (a:=⟨b,8,none⟩) (fun ay=>ay rfl) _)⟩
theorem aoO{y:aeo}(ax:ao x x y)(h:uy w q b S br x):uy w q b S br y:=by obtain⟨_,_,_,h⟩:=Pv h;exact Ht (h.below ax)
theorem aoP(fm:q≠b)(u:ada)(h:uy w q b S br x):uy w q b S br (x.setCell (aj b 6) u):=by obtain⟨_,_,_,h⟩:=Pv h;exact Ht (h.KY fm u)
theorem aoQ(fm:q≠b)(u:ada)(h:uy w q b S br x):uy w q b S br (x.setCell (aj b 7) u):=by obtain⟨_,_,_,h⟩:=Pv h;exact Ht (h.KZ fm u)
theorem aoR(fm:q≠b)(u:ada)(h:uy w q b S br x):uy w q b S br (x.setCell (aj b 8) u):=by obtain⟨_,_,_,h⟩:=Pv h;exact Ht (h.acr fm u)
def AD(S:Ua)(br:Int):Prop:=S.size≤1000000∧((∀x∈(k2 S.data.toList).1,KO x.2)∧xQ ((k2 S.data.toList).1.map Prod.snd) (tN br))∧(k2 S.data.toList).1.length≤500000
theorem aoS(b q:Nat)(fm:q≠b)(S:Ua)(br:Int)(eF:AD S br)(aB:List eu)(i f:Nat)(dA:jx S.data.toList br=(aB,i,f))(w:aeo)(aR:an w q (#[.pointer (some (aj b 0))]) 59)(ax:an w b (qU S br 0 1 0 0 (J 0) 0 0) p'):
  Calls Tryz.prog 48 #[ah q 0] w fun e w'=>e=ab (.tuple #[])∧∃fF d,an w' b (qU S br 0 1 0 1 (ad fF aB.length d) i f) p'∧h8 (fun k=>w.heap.size≤k) w' fF aB∧aP (fun k=>k≠b) w w':=by
 have aO:=aq (aoB S eF.1 br w.drew eF.2.1 eF.2.2 (aB,i,f) dA);have a':=aq aR;have Am:=aq ax;have aoU:=lt_of_heap aR;have Av:=lt_of_heap ax;obtain⟨n,hn⟩:=ar aB.length;have bd:=aq hn;clear eF dA aR ax hn;go_enter Tryz.func48,Tryz.ntmps48;have bH:af (qV w q b S br (J 0) (I 0) (I 0) w):=⟨a'.out,Am.out,.refl _ _⟩;have fl:af (uy w q b S br w.drew):=Ht (bH.out.below (Below.refl _ _).drew);have vu:af (uy w q b S br w):=Ht bH.out;go_upto_region 0 with fail
 go_region_held3 (fun Z=>uy w q b S br Z) (first|with_reducible exact fl.out|with_reducible exact vu.out|with_reducible exact aoO (by assumption) (by assumption)|with_reducible exact aoP fm _ (by assumption)|with_reducible exact aoQ fm _ (by assumption)|with_reducible exact aoR fm _ (by assumption)|assumption|fail) (first|(go_at_call 19;(with_reducible refine (aO.out).mono ?_);intro e cN mn;obtain⟨dF,gn,d6,rfl,acs⟩:=KP.get mn)|fail)
 all_goals
  have pG:=aq ((((bH.out.below (Below.refl _ _).drew).below dF).KY fm (ad gn aB.length d6)).KZ fm (I (i:Int))|>.acr fm (I (f:Int)));have xn:af (h8 (fun k=>w.heap.size≤k∧k≠b) cN gn aB):=acs.mono fun k _ ay=>⟨ay,fun e=>by have av:w.heap.size≤k:=ay;omega⟩;have Pw:=aq (xn.out.keep (((aP.set (a:=⟨b,6,none⟩) (S:=fun k=>w.heap.size≤k∧k≠b) (w:=cN) (fun ay=>ay.2 rfl) (ad gn aB.length d6)).trans (aP.set (a:=⟨b,7,none⟩) (fun ay=>ay.2 rfl) (I (i:Int)))).trans (aP.set (a:=⟨b,8,none⟩) (fun ay=>ay.2 rfl) (I (f:Int)))));clear dF acs fl vu;generalize ((cN.setCell (aj b 6) (ad gn aB.length d6)).setCell (aj b 7) (I (i:Int))).setCell (aj b 8) (I (f:Int))=e6 at pG Pw⊢;have aD:=cell_of (i:=0) pG.out.aR rfl;have c5:ak e6 b 5 (.int .i32 0):=cell_of (i:=5) pG.out.ax rfl;have g5:=cJ pG.out.ax 5;go_wp2_with fail;with_reducible refine (aoM b 5 e6 c5 g5).mono ?_
  rintro e k4 ⟨rfl,rfl⟩;clear aD c5 g5;go_wp2_with fail;go_end0;refine⟨rfl,gn,d6,?_,(Pw.out.mono fun k _ ay=>ay).keep (aP.set (a:=⟨b,5,none⟩) (fun ay=>ay.2 rfl) _)|>.mono fun k _ ay=>ay.1,pG.out.ay.trans (aP.set (a:=⟨b,5,none⟩) (fun ay=>ay rfl) _)⟩;have:=dt (i:=5) (.int .i32 1) pG.out.ax;exact this
end dd
namespace dd
open Go.RowKit ef Pq
open ct (C k2)
theorem Px(a:Addr)(v:Int)(f:Bool)(hf:(v !=0)=f)(w:aeo)(aS:w.cell? a=some (.int .u32 v)):Calls Tryz.prog 74 #[.pointer (some a)] w fun e w'=>e=ab (U f)∧w'=w:=by have aA:=run_call_load (P:=Tryz.prog) Tryz.func108 (by kernel_rfl) (by kernel_rfl) (by kernel_rfl) .u32 (by kernel_rfl) aS;subst hf;go_enter Tryz.func74,Tryz.ntmps74;go_wp2;go_ret;exact⟨rfl,rfl⟩
theorem aoV(b q:Nat)(fm:q≠b)(S:Ua)(br:Int)(eF:AD S br)(aB:List eu)(i f:Nat)(dA:jx S.data.toList br=(aB,i,f))(w:aeo)(aR:an w q (#[.pointer (some (aj b 0))]) 59)(ax:an w b (qU S br 0 0 0 0 (J 0) 0 0) p'):
  Calls Tryz.prog 75 #[ah b 2,.func (.func 48) #[] #[ah q 0]] w fun e w'=>e=ab (.tuple #[])∧∃fF d,an w' b (qU S br 1 0 0 1 (ad fF aB.length d) i f) p'∧h8 (fun k=>w.heap.size≤k) w' fF aB∧aP (fun k=>k≠b) w w':=by
 have UE:∀(x:Bool) (w:aeo),(Op.unary .not (U x)).run Tryz.prog w=.ok (U (!x)) w:=fun _ _=>rfl;have c3:=cell_of (i:=3) ax rfl;have f3:=cJ ax 3;have UF:(w.setCell (aj b 3) (.int .i32 1)).heap[q]?=some (.cells #[ah b 0] 59):=(iK fm).trans aR;have K0:(w.setCell (aj b 3) (.int .i32 1)).heap[b]?=some (.cells (qU S br 0 1 0 0 (J 0) 0 0) p'):=by have:=dt (i:=3) (.int .i32 1) ax;exact this
 have gi:=aoS b q fm S br eF aB i f dA _ UF K0;have aJ:=cell_of (i:=2) K0 rfl;have ej:aP (fun k=>k≠b) w (w.setCell (aj b 3) (.int .i32 1)):=aP.set (a:=⟨b,3,none⟩) (fun ay=>ay rfl) _;have iF:(w.setCell (aj b 3) (.int .i32 1)).heap.size=w.heap.size:=M6 _ _ _
 go_enter_defers Tryz.func75,Tryz.ntmps75
 go_wp2_with (go_at_call 109;refine (acm (aj b 3) _ c3 f3).mono ?_;rintro e w' ⟨rfl,rfl⟩);go_wp2_with (go_at_call 74;refine (Px (aj b 2) 0 false rfl _ aJ).mono ?_;rintro e w' ⟨rfl,rfl⟩);go_wp2_with (go_at_call 48;refine gi.mono ?_;rintro e cN ⟨rfl,fF,d,dF,K1,jt⟩);have z2:=cell_of (i:=2) dF rfl;have g2:=cJ dF 2;have ta:(cN.drew.setCell (aj b 2) (.int .u32 1)).heap[b]?=some (.cells (qU S br 1 1 0 1 (ad fF aB.length d) i f) p'):=by have:=dt (w:=cN.drew) (i:=2) (.int .u32 1) dF;exact this
 have z3:=cell_of (i:=3) ta rfl;have g3:=cJ ta 3;refine Pr (f:=111) (args:= #[.pointer (some (aj b 2)),U true]) (by simp) (by simp[go_sem]) ?_;refine (acj (aj b 2) (.int .u32 0) .returning _ z2 g2).mono ?_;rintro e EG UG ⟨rfl,rfl,rfl⟩;refine Pr (f:=110) (args:= #[.pointer (some (aj b 3))]) (by simp[settle]) (by simp[go_sem]) ?_;refine (ack (aj b 3) _ _ z3 g3).mono ?_;rintro e EG UG ⟨rfl,rfl,rfl⟩;have lx:aP (fun k=>k≠b) cN ((cN.drew.setCell (aj b 2) (.int .u32 1)).setCell (aj b 3) (.int .i32 0)):=((aP.dW (Below.refl _ _).drew).trans (aP.set (a:=⟨b,2,none⟩) (fun ay=>ay rfl) _)).trans (aP.set (a:=⟨b,3,none⟩) (fun ay=>ay rfl) _);have xS:((cN.drew.setCell (aj b 2) (.int .u32 1)).setCell (aj b 3) (.int .i32 0)).heap[b]?=some (.cells (qU S br 1 0 0 1 (ad fF aB.length d) i f) p'):=by have:=dt (i:=3) (.int .i32 0) ta;exact this
 have Av:=lt_of_heap ax;rw[iF] at K1;have aoW:=(K1.mono (R:=fun k=>w.heap.size≤k∧k≠b) (fun k _ ay=>⟨ay,by have av:w.heap.size≤k:=ay;omega⟩)).keep (lx.mono fun k _ ay=>ay.2);refine⟨.tuple #[],by simp[results,Tryz.results75],rfl,fF,d,xS,aoW.mono fun k _ ay=>ay.1,(ej.trans jt).trans lx⟩
theorem aoX(b q:Nat)(fm:q≠b)(S:Ua)(br:Int)(eF:AD S br)(aB:List eu)(i f:Nat)(dA:jx S.data.toList br=(aB,i,f))(w:aeo)(aR:an w q (#[.pointer (some (aj b 0))]) 59)(ax:an w b (qU S br 0 0 0 0 (J 0) 0 0) p'):
  Calls Tryz.prog 47 #[ah b 2,.func (.func 48) #[] #[ah q 0]] w fun e w'=>e=ab (.tuple #[])∧∃fF d,an w' b (qU S br 1 0 0 1 (ad fF aB.length d) i f) p'∧h8 (fun k=>w.heap.size≤k) w' fF aB∧aP (fun k=>k≠b) w w':=by
 have UE:∀(x:Bool) (w:aeo),(Op.unary .not (U x)).run Tryz.prog w=.ok (U (!x)) w:=fun _ _=>rfl;have mG:=aoV b q fm S br eF aB i f dA w aR ax;have aJ:=cell_of (i:=2) ax rfl;go_enter Tryz.func47,Tryz.ntmps47;go_wp2_with (go_at_call 74;refine (Px (aj b 2) 0 false rfl _ aJ).mono ?_;rintro e w' ⟨rfl,rfl⟩);go_wp2_with (go_at_call 75;refine mG.mono ?_;rintro e cN ⟨rfl,c4⟩);go_end0;exact⟨rfl,c4⟩
structure UH(q b:Nat)(S:Ua)(br:Int)(ov:ada)(i e:Int)(x:aeo):Prop where
 aR:an x q (#[.pointer (some (aj b 0))]) 59
 ax:an x b (qU S br 1 0 0 1 ov i e) p'
abbrev Py(q b:Nat)(S:Ua)(br:Int)(ov:ada)(i e:Int)(x:aeo):Prop:=
 x.cell? ⟨q,0,none⟩=some (.pointer (some (aj b 0)))∧ak x b 6 ov∧ak x b 7 (I i)∧ak x b 8 (I e)∧UH q b S br ov i e x
variable{br:Int}{ov:ada}
theorem UI{q b:Nat}{S:Ua}{i e:Int}{x:aeo}(h:UH q b S br ov i e x):Py q b S br ov i e x:=⟨cell_of h.aR rfl,cell_of h.ax rfl,cell_of h.ax rfl,cell_of h.ax rfl,h⟩
theorem acu{q b:Nat}{S:Ua}{i e:Int}{x y:aeo}(ax:ao x x y)(h:Py q b S br ov i e x):Py q b S br ov i e y:=UI ⟨aU h.2.2.2.2.aR ax,aU h.2.2.2.2.ax ax⟩
theorem aoY(b:Nat)(S:Ua)(br:Int)(eF:AD S br)(aB:List eu)(pX:∀o∈aB,Plain o.2)(i f:Nat)(dA:jx S.data.toList br=(aB,i,f))(w:aeo)(ax:an w b (qU S br 0 0 0 0 (J 0) 0 0) p'):
  Calls Tryz.prog 26 #[ah b 0] w fun e w'=>∃fF d,e=ab (.tuple #[ad fF aB.length d,I (i:Int),I (f:Int)])∧h8 (fun k=>w.heap.size≤k) w' fF aB∧aP (fun k=>k≠b) w w':=by
 have aoZ:∀(fn:Fn) (first cap:ajv) (w:aeo),(Instr.makeFunc fn first cap).run Tryz.prog w=.ok (.func fn first cap) w:=fun _ _ _ _=>rfl;have Av:=lt_of_heap ax;have fm:w.heap.size≠b:=by omega
 have rH:(w.alloc (ai (#[.pointer (some (aj b 0))]) 59)).heap[w.heap.size]?=some (.cells #[ah b 0] 59):=bY _ _;have er:=aU ax (a6 w (ai (#[.pointer (some (aj b 0))]) 59));have Az:=aoX b w.heap.size fm S br eF aB i f dA _ rH er;have ej:aP (fun k=>k≠b) w (w.alloc (ai (#[.pointer (some (aj b 0))]) 59)):=aP.alloc _ _ _;have qL:(w.alloc (ai (#[.pointer (some (aj b 0))]) 59)).heap.size=w.heap.size+1:=sx _;have fO:=cell_of (i:=0) rH rfl;obtain⟨n,hn⟩:=ar aB.length;rw[hn] at Az⊢;clear eF dA ax;go_enter Tryz.func26,Tryz.ntmps26;go_wp2_with (go_at_call 47;refine Az.mono ?_;rintro e cN ⟨rfl,fF,d,dF,K1,jt⟩);have vN:=aq (ej.trans jt);have K2:af (an cN w.heap.size (#[.pointer (some (aj b 0))]) 59):=jt.get fm rH;have oI:af (h8 (fun k=>w.heap.size≤k) cN fF aB):=K1.mono fun k _ ay=>by have av:_≤k:=ay;rw[qL] at av;exact Nat.le_of_succ_le av
 have sB:af (UH w.heap.size b S br (ad fF n d) (i:Int) (f:Int) cN):=⟨K2.out,dF⟩;have vu:=aq (UI sB.out);have fl:=aq (acu (Below.refl _ _).drew (UI sB.out));have yk:=fun x (hx:ao cN cN x)=>ajx (fun k=>w.heap.size≤k) aB pX fF n d hn.symm x (aq (oI.out.below hx));have acv:=aq yk;clear Az rH er fO ej qL dF K1 jt yk hn pX;go_upto_region 2 with fail
 go_region_held3 (fun Z=>Py w.heap.size b S br (ad fF n d) (i:Int) (f:Int) Z) (first|with_reducible exact fl.out|with_reducible exact vu.out|with_reducible exact acu (by assumption) (by assumption)|assumption|fail) (first|(go_at_call 50;(with_reducible refine (acv.out _ (Below.refl _ _).drew).mono ?_);rintro e k4 ⟨oG,d7,rfl,ao0,ta⟩)|fail)
 all_goals
  clear fl vu acv;have lS:=aq (vN.out.trans ((aP.dW (Below.refl _ _).drew).trans (aP.dW ta)));have Pw:af (h8 (fun k=>w.heap.size≤k) k4 oG aB):=ao0.mono fun k _ ay=>dx vN.out.size ay;go_wp2_with fail;go_ret3;exact⟨oG,d7,rfl,Pw.out,lS.out⟩
theorem ao1(S:Ua)(br:Int)(w:aeo):Calls Tryz.prog 22 #[aa S,I br] w fun e w'=>e=ab (ah w.heap.size 0)∧w'=w.alloc (ai (qU S br 0 0 0 0 (J 0) 0 0) p'):=by go_enter Tryz.func22,Tryz.ntmps22;go_wp2;go_ret;exact⟨rfl,rfl⟩
end dd
namespace dd
open Go.RowKit ef Pq
open pk (lf sz XG FX)
abbrev qa:TypeId:=131
def Hu(e8:Bool)(at_:Int):Int×Int:=if e8=true then (at_,4) else (0,0)
theorem ao2(e8:Bool)(at_:Int)(S:Ua)(h:sz e8 at_ S)(a f:Int)(ha:Hu e8 at_=(a,f))(br:Int)(w:aeo)(ff:lf w):
  Calls Tryz.prog 52 #[aa S,I br] w fun e w'=>e=ab (.tuple #[J 0,I a,I f])∧ao w w w':=by
 refine (XG e8 at_ S h br w (aq ff)).mono ?_;rintro e w' ⟨rfl,ax⟩;unfold FX;unfold Hu at ha;cases e8<;>(injection ha with av az;subst av az;exact⟨rfl,ax⟩)
abbrev qW(S:Ua)(br d st sm i e:Int):Array Value:= #[aa S,I br,.int .u32 d,.int .i32 st,.int .u32 sm,J 0,I i,I e]
abbrev ao3(S:Ua)(br:Int)(v5 v6 cj:ada):Array Value:= #[aa S,I br,.int .u32 0,.int .i32 1,.int .u32 0,v5,v6,cj]
structure qX(w:aeo)(q b:Nat)(S:Ua)(br:Int)(v5 v6 cj:ada)(x:aeo):Prop where
 aR:an x q (#[.pointer (some (aj b 0))]) 62
 ax:an x b (ao3 S br v5 v6 cj) qa
 ay:aP (fun k=>k≠b) w x
abbrev uz(w:aeo)(q b:Nat)(S:Ua)(br:Int)(x:aeo):Prop:=
 x.cell? ⟨q,0,none⟩=some (.pointer (some (aj b 0)))∧ak x b 0 (aa S)∧ak x b 1 (I br)∧
 ak x b 5 (lk x b 5)∧x.frozen? ⟨b,5,none⟩=false∧ak x b 6 (lk x b 6)∧x.frozen? ⟨b,6,none⟩=false∧ak x b 7 (lk x b 7)∧x.frozen? ⟨b,7,none⟩=false∧∃v5 v6 cj,qX w q b S br v5 v6 cj x
variable{w x:aeo}{q b:Nat}{S:Ua}{br:Int}{v5 v6 cj:ada}
theorem Hv(h:qX w q b S br v5 v6 cj x):uz w q b S br x:=
 ⟨cell_of h.aR rfl,cell_of h.ax rfl,cell_of h.ax rfl,o2 (cell_of h.ax rfl),cJ h.ax 5,o2 (cell_of h.ax rfl),cJ h.ax 6,o2 (cell_of h.ax rfl),cJ h.ax 7,_,_,_,h⟩
theorem Pz(h:uz w q b S br x):∃v5 v6 cj,qX w q b S br v5 v6 cj x:=h.2.2.2.2.2.2.2.2.2
theorem qX.below{y:aeo}(h:qX w q b S br v5 v6 cj x)(ax:ao x x y):qX w q b S br v5 v6 cj y:=⟨aU h.aR ax,aU h.ax ax,h.ay.trans (aP.dW ax)⟩
theorem qX.acw(fm:q≠b)(h:qX w q b S br v5 v6 cj x)(u:ada):qX w q b S br u v6 cj (x.setCell (aj b 5) u):=⟨(iK fm).trans h.aR,(by have:=dt (i:=5) u h.ax;exact this),h.ay.trans (aP.set (a:=⟨b,5,none⟩) (fun ay=>ay rfl) _)⟩
theorem qX.KY(fm:q≠b)(h:qX w q b S br v5 v6 cj x)(u:ada):qX w q b S br v5 u cj (x.setCell (aj b 6) u):=⟨(iK fm).trans h.aR,(by have:=dt (i:=6) u h.ax;exact this),h.ay.trans (aP.set (a:=⟨b,6,none⟩) (fun ay=>ay rfl) _)⟩
theorem qX.KZ(fm:q≠b)(h:qX w q b S br v5 v6 cj x)(u:ada):qX w q b S br v5 v6 u (x.setCell (aj b 7) u):=⟨(iK fm).trans h.aR,(by have:=dt (i:=7) u h.ax;exact this),h.ay.trans (aP.set (a:=⟨b,7,none⟩) (fun ay=>ay rfl) _)⟩
theorem ao4{y:aeo}(ax:ao x x y)(h:uz w q b S br x):uz w q b S br y:=by obtain⟨_,_,_,h⟩:=Pz h;exact Hv (h.below ax)
theorem ao5(fm:q≠b)(u:ada)(h:uz w q b S br x):uz w q b S br (x.setCell (aj b 5) u):=by obtain⟨_,_,_,h⟩:=Pz h;exact Hv (h.acw fm u)
theorem ao6(fm:q≠b)(u:ada)(h:uz w q b S br x):uz w q b S br (x.setCell (aj b 6) u):=by obtain⟨_,_,_,h⟩:=Pz h;exact Hv (h.KY fm u)
theorem ao7(fm:q≠b)(u:ada)(h:uz w q b S br x):uz w q b S br (x.setCell (aj b 7) u):=by obtain⟨_,_,_,h⟩:=Pz h;exact Hv (h.KZ fm u)
theorem ao8(b q:Nat)(fm:q≠b)(e8:Bool)(at_:Int)(S:Ua)(eF:sz e8 at_ S)(i f:Int)(AE:Hu e8 at_=(i,f))(br:Int)(w:aeo)(ff:lf w)(aR:an w q (#[.pointer (some (aj b 0))]) 62)(ax:an w b (qW S br 0 1 0 0 0) qa):
  Calls Tryz.prog 51 #[ah q 0] w fun e w'=>e=ab (.tuple #[])∧an w' b (qW S br 0 1 0 i f) qa∧aP (fun k=>k≠b) w w':=by
 have aO:=aq (ao2 e8 at_ S eF i f AE br w.drew (ff.below (Below.refl _ _).drew));have a':=aq aR;have Am:=aq ax;have aoU:=lt_of_heap aR;have Av:=lt_of_heap ax;clear eF AE aR ax ff;go_enter Tryz.func51,Tryz.ntmps51;have bH:af (qX w q b S br (J 0) (I 0) (I 0) w):=⟨a'.out,Am.out,.refl _ _⟩;have fl:af (uz w q b S br w.drew):=Hv (bH.out.below (Below.refl _ _).drew);have vu:af (uz w q b S br w):=Hv bH.out;go_upto_region 0 with fail
 go_region_held3 (fun Z=>uz w q b S br Z) (first|with_reducible exact fl.out|with_reducible exact vu.out|with_reducible exact ao4 (by assumption) (by assumption)|with_reducible exact ao5 fm _ (by assumption)|with_reducible exact ao6 fm _ (by assumption)|with_reducible exact ao7 fm _ (by assumption)|assumption|fail) (first|(go_at_call 52;(with_reducible refine (aO.out).mono ?_);rintro e cN ⟨rfl,dF⟩)|fail)
 all_goals
  have pG:=aq ((((bH.out.below (Below.refl _ _).drew).below dF).acw fm (J 0)).KY fm (I i)|>.KZ fm (I f));clear dF fl vu;go_wp2_with fail;go_end0;exact⟨rfl,pG.out.ax,pG.out.ay⟩
theorem ao9{i:Nat}{u:ada}(h:lf w)(aS:ak w b 0 (aa S)):lf (w.setCell (aj b i) u):=by
 obtain⟨m,hm⟩:=h;have hne:0≠b:=by intro e;subst e;rw[aS] at hm;cases hm
 exact⟨m,cell_far hne hm⟩
theorem apa(b q:Nat)(fm:q≠b)(e8:Bool)(at_:Int)(S:Ua)(eF:sz e8 at_ S)(i f:Int)(AE:Hu e8 at_=(i,f))(br:Int)(w:aeo)(ff:lf w)(aR:an w q (#[.pointer (some (aj b 0))]) 62)(ax:an w b (qW S br 0 0 0 0 0) qa):
  Calls Tryz.prog 75 #[ah b 2,.func (.func 51) #[] #[ah q 0]] w fun e w'=>e=ab (.tuple #[])∧an w' b (qW S br 1 0 0 i f) qa∧aP (fun k=>k≠b) w w':=by
 have UE:∀(x:Bool) (w:aeo),(Op.unary .not (U x)).run Tryz.prog w=.ok (U (!x)) w:=fun _ _=>rfl;have c3:=cell_of (i:=3) ax rfl;have f3:=cJ ax 3;have UF:(w.setCell (aj b 3) (.int .i32 1)).heap[q]?=some (.cells #[ah b 0] 62):=(iK fm).trans aR;have K0:(w.setCell (aj b 3) (.int .i32 1)).heap[b]?=some (.cells (qW S br 0 1 0 0 0) qa):=by have:=dt (i:=3) (.int .i32 1) ax;exact this
 have UJ:lf (w.setCell (aj b 3) (.int .i32 1)):=ao9 ff (cell_of (i:=0) ax rfl);have gi:=ao8 b q fm e8 at_ S eF i f AE br _ UJ UF K0;have aJ:=cell_of (i:=2) K0 rfl;have ej:aP (fun k=>k≠b) w (w.setCell (aj b 3) (.int .i32 1)):=aP.set (a:=⟨b,3,none⟩) (fun ay=>ay rfl) _;have iF:(w.setCell (aj b 3) (.int .i32 1)).heap.size=w.heap.size:=M6 _ _ _
 go_enter_defers Tryz.func75,Tryz.ntmps75
 go_wp2_with (go_at_call 109;refine (acm (aj b 3) _ c3 f3).mono ?_;rintro e w' ⟨rfl,rfl⟩);go_wp2_with (go_at_call 74;refine (Px (aj b 2) 0 false rfl _ aJ).mono ?_;rintro e w' ⟨rfl,rfl⟩);go_wp2_with (go_at_call 51;refine gi.mono ?_;rintro e cN ⟨rfl,dF,jt⟩);have z2:=cell_of (i:=2) dF rfl;have g2:=cJ dF 2;have ta:(cN.drew.setCell (aj b 2) (.int .u32 1)).heap[b]?=some (.cells (qW S br 1 1 0 i f) qa):=by have:=dt (w:=cN.drew) (i:=2) (.int .u32 1) dF;exact this
 have z3:=cell_of (i:=3) ta rfl;have g3:=cJ ta 3;refine Pr (f:=111) (args:= #[.pointer (some (aj b 2)),U true]) (by simp) (by simp[go_sem]) ?_;refine (acj (aj b 2) (.int .u32 0) .returning _ z2 g2).mono ?_;rintro e EG UG ⟨rfl,rfl,rfl⟩;refine Pr (f:=110) (args:= #[.pointer (some (aj b 3))]) (by simp[settle]) (by simp[go_sem]) ?_;refine (ack (aj b 3) _ _ z3 g3).mono ?_;rintro e EG UG ⟨rfl,rfl,rfl⟩;have lx:aP (fun k=>k≠b) cN ((cN.drew.setCell (aj b 2) (.int .u32 1)).setCell (aj b 3) (.int .i32 0)):=((aP.dW (Below.refl _ _).drew).trans (aP.set (a:=⟨b,2,none⟩) (fun ay=>ay rfl) _)).trans (aP.set (a:=⟨b,3,none⟩) (fun ay=>ay rfl) _);have xS:((cN.drew.setCell (aj b 2) (.int .u32 1)).setCell (aj b 3) (.int .i32 0)).heap[b]?=some (.cells (qW S br 1 0 0 i f) qa):=by have:=dt (i:=3) (.int .i32 0) ta;exact this
 refine⟨.tuple #[],by simp[results,Tryz.results75],rfl,xS,(ej.trans jt).trans lx⟩
theorem apb(b q:Nat)(fm:q≠b)(e8:Bool)(at_:Int)(S:Ua)(eF:sz e8 at_ S)(i f:Int)(AE:Hu e8 at_=(i,f))(br:Int)(w:aeo)(ff:lf w)(aR:an w q (#[.pointer (some (aj b 0))]) 62)(ax:an w b (qW S br 0 0 0 0 0) qa):
  Calls Tryz.prog 47 #[ah b 2,.func (.func 51) #[] #[ah q 0]] w fun e w'=>e=ab (.tuple #[])∧an w' b (qW S br 1 0 0 i f) qa∧aP (fun k=>k≠b) w w':=by
 have UE:∀(x:Bool) (w:aeo),(Op.unary .not (U x)).run Tryz.prog w=.ok (U (!x)) w:=fun _ _=>rfl;have mG:=apa b q fm e8 at_ S eF i f AE br w ff aR ax;have aJ:=cell_of (i:=2) ax rfl;go_enter Tryz.func47,Tryz.ntmps47;go_wp2_with (go_at_call 74;refine (Px (aj b 2) 0 false rfl _ aJ).mono ?_;rintro e w' ⟨rfl,rfl⟩);go_wp2_with (go_at_call 75;refine mG.mono ?_;rintro e cN ⟨rfl,c4⟩);go_end0;exact⟨rfl,c4⟩
end dd
namespace dd
open Go.RowKit ef Pq
open pk (lf sz)
abbrev acx:Value:=.agg #[I 0,I 0,I 0,I 0,I 0,I 0,I 0,I 0,J 0,J 0]
theorem apc:(Tryz.prog.info? dB).map (fun i=>(i.zero,i.size,i.bytes))=some (some acx,10,112):=by kernel_rfl
theorem acy(S:Ua)(br:Int)(w:aeo):Calls Tryz.prog 24 #[aa S,I br] w fun e w'=>e=ab (ah w.heap.size 0)∧w'=w.alloc (ai (qW S br 0 0 0 0 0) qa):=by go_enter Tryz.func24,Tryz.ntmps24;go_wp2;go_ret;exact⟨rfl,rfl⟩
theorem acz(b:Nat)(e8:Bool)(at_:Int)(S:Ua)(eF:sz e8 at_ S)(i f:Int)(AE:Hu e8 at_=(i,f))(br:Int)(w:aeo)(ff:lf w)(ax:an w b (qW S br 0 0 0 0 0) qa):
  Calls Tryz.prog 27 #[ah b 0] w fun e w'=>∃q,e=ab (.tuple #[ad q 0 0,I i,I f])∧aP (fun k=>k≠b) w w':=by
 have aoZ:∀(fn:Fn) (first cap:ajv) (w:aeo),(Instr.makeFunc fn first cap).run Tryz.prog w=.ok (.func fn first cap) w:=fun _ _ _ _=>rfl;have Av:=lt_of_heap ax;have fm:w.heap.size≠b:=by omega
 have rH:(w.alloc (ai (#[.pointer (some (aj b 0))]) 62)).heap[w.heap.size]?=some (.cells #[ah b 0] 62):=bY _ _;have er:=aU ax (a6 w (ai (#[.pointer (some (aj b 0))]) 62));have Az:=apb b w.heap.size fm e8 at_ S eF i f AE br _ (ff.below (a6 _ _)) rH er;have ej:aP (fun k=>k≠b) w (w.alloc (ai (#[.pointer (some (aj b 0))]) 62)):=aP.alloc _ _ _;have fO:=cell_of (i:=0) rH rfl;have axe:∀Z:aeo,(Instr.makeSlice 65 (I 0) (I 0)).run Tryz.prog Z=.ok (ag Z.heap.size 0 0 0) (Z.alloc (ai (madeCells #[I 0,I 0,I 0,I 0,I 0,I 0,I 0,I 0,J 0,J 0] 0) dB)):=fun Z=>zJ 65 dB acx 10 112 Tryz.underlying65 apc 0 (by decide) (by decide) Z;clear eF AE ax ff;go_enter Tryz.func27,Tryz.ntmps27;go_upto_region 2 with (first|(go_at_call 47;(with_reducible refine Az.mono ?_);rintro e cN ⟨rfl,dF,jt⟩)|fail);have vN:=aq (ej.trans jt);have K2:af (an cN w.heap.size (#[.pointer (some (aj b 0))]) 62):=jt.get fm rH;have mb:=aq dF;have aD:ak cN w.heap.size 0 (.pointer (some (aj b 0))):=cell_of (i:=0) K2.out rfl;have c5:ak cN b 5 (J 0):=cell_of (i:=5) mb.out rfl;clear Az rH er fO ej dF jt;go_upto_region 3 with fail;refine ahu (P:=Code.wp _ _ _ _) fun W aA dQ=>?_;have UK:=aq (vN.out.trans (aP.dW dQ));have acA:=aq (aU K2.out dQ);have o9:=aq (aU mb.out dQ);clear aA dQ aD c5 vN K2 mb;have aD:ak W w.heap.size 0 (.pointer (some (aj b 0))):=cell_of (i:=0) acA.out rfl;have c5:ak W b 5 (J 0):=cell_of (i:=5) o9.out rfl;go_wp2_with fail
 go_loopw [5,24] (fun Aa tQ wr=>∃(dw:aeo) (q:Ja),dw=wr∧Aa=ad q 0 0∧tQ=I 0∧af (aP (fun k=>k≠b) w dw)∧af (an dw w.heap.size (#[.pointer (some (aj b 0))]) 62)∧af (an dw b (qW S br 1 0 0 i f) qa)) (fun _ _ _=>0)
 case atStart=>exact⟨_,_,rfl,rfl,rfl,UK.out,acA.out,o9.out⟩
 case round=>
 obtain⟨dw,q,rfl,rfl,rfl,cQ,a',aI⟩:=hrel;clear aD c5;have aD:ak dw w.heap.size 0 (.pointer (some (aj b 0))):=cell_of (i:=0) a'.out rfl;have bZ:ak dw b 6 (I i):=cell_of (i:=6) aI.out rfl;have b':ak dw b 7 (I f):=cell_of (i:=7) aI.out rfl;go_wp2_with fail
 go_quiet (fail)
 have kq:=aq (cQ.out.trans (aP.dW (kX (Below.refl _ _) nq)));go_wp2_with fail;go_ret3;exact⟨q,rfl,kq.out⟩
end dd
