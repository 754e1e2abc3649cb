/- Lemmas. -/
import Derived.Test.YtfldplmgkeiimaaGreatDoorR22
set_option linter.all false
set_option maxRecDepth 100000
set_option maxHeartbeats 12800000
namespace Go.Proofs.YtfldplmgkeiimaaGreatDoor
abbrev OQ:=@Nat.le_succ_of_le
namespace dd
open Go.RowKit ef
open ct (C eC)
open iS (lu jm dH gY)
abbrev nu:TypeId:=268
abbrev nX(b:dm)(jj bQ:ada)(r:Int):Array Value:= #[I b.k,I b.a.1,I b.a.2,I b.b.1,I b.b.2,I b.c.1,I b.c.2,I b.r,jj,bQ,I r]
abbrev TQ:Value:=.agg #[I 0,I 0,I 0,I 0,I 0,I 0,I 0,I 0,J 0,J 0,I 0]
def xH(w:aeo)(r:Except Nat (eg×Int))(e:Ending)(w':aeo):Prop:=Below w.heap.size w w'∧match r with
 |.error k=>k≠0∧e=ab (.tuple #[TQ,I (k:Int)])
 |.ok x=>∃(pl:Ja) (cl:Nat) (pp:Ja) (cp:Nat),e=ab (.tuple #[.agg (nX x.1.b (ad pl x.1.b.l.length cl) (ad pp x.1.p.len cp) x.2),I 0])∧dE (fun k=>w.heap.size≤k) w' pl cl pp cp x.1
variable{w w' x b7:aeo}
theorem xH.get{x:eg×Int}{e:Ending}(h:xH w (.ok x) e w'):ao w w w'∧∃(pl:Ja) (cl:Nat) (pp:Ja) (cp:Nat),e=ab (.tuple #[.agg (nX x.1.b (ad pl x.1.b.l.length cl) (ad pp x.1.p.len cp) x.2),I 0])∧dE (fun k=>w.heap.size≤k) w' pl cl pp cp x.1:=h
theorem xH.no{k:Nat}{e:Ending}(h:xH w (.error k) e w'):ao w w w'∧k≠0∧e=ab (.tuple #[TQ,I (k:Int)]):=h
def Eo(w0 w:aeo)(bz:au)(da:List Int)(nq:Ja)(bn:Nat)(u:Int)(ms:List lI):Prop:=∀(Z:aeo) (e4:ada) (bB:aev),ao w w Z→Z.ownsRow w0.heap.size rV 2 e4 ms.length bB→xw w0 ms bB→ao w0 w0 Z→Calls Tryz.prog 142 #[aa ⟨bz.toArray⟩,ad nq da.length bn,I u,e4] Z (xH Z (oe bz da u ms))
variable{P D n:Nat}{p q:cT}
theorem gp.alS{w0:aeo}{R:afp}{m:Nat}{L:qR}{fu:Int}{cv ov:ada}{cx ox:aev}{X cc:aeo}{ap:Int→Option vc}(h:gp w0 P R m L fu cv ov cx ox p X)(ay:aP (fun b=>b≠m) X cc)(hm:qQ R cc m ap):gp w0 P R m L fu cv ov cx ox {p with jv:=ap} cc:=by
 obtain⟨es,D8,sX⟩:=h.mp.map;have hR:∀k,R k→k≠m:=fun k ay=>(h.ml k ay).Ta;have GY:∀{e:aai} {bD n:Nat} {v:ada} {xs:aev},X.ownsRow w0.heap.size e bD v n xs→∀k,v.ownBlock=some k→k≠m:=by intro e bD n v xs hr k ay;obtain⟨_,_,c,hc⟩:=vI hr ay;exact Ak hc sX
 exact {
  pl:=ay.get (Ak h.pl sX) h.pl
  mp:=hm
  qS:=h.qS
  gS:=nT h.gS ay (GY h.gS)
  mM:=h.mM.keep ay hR fun k hm=>by obtain⟨_,_,c,hc⟩:=h.mM.D7 k hm;exact Ak hc sX
  yZ:=h.yZ
  Al:=h.Al
  bz:=h.bz.keep ay hR fun k cur t aK _=>Ak aK sX
  aB:=nT h.aB ay (GY h.aB)
  sW:=h.sW.keep (ay.mono fun k _ ay=>hR k ay)
  hC:=nT h.hC ay (GY h.hC)
  xx:=h.xx
  nr:=fun k J0=>⟨(h.nr k J0).1,km (h.nr k J0).2 ay.size⟩
  ml:=h.ml
  xy:=h.xy
  rq:=h.rq
  aX:=h.aX.trans (ay.below _ h.aX.size fun k ay e=>by have:=h.rq;omega)}
variable{u:Int}
theorem alT{da:List Int}{ms:List lI}{x:eg×Int}(h:oe [67] da u ms=.ok x):da.length=1∨da.length=2:=by
 unfold oe at h;rw[bb (.inl rfl)] at h;simp only[Ga] at h;split at h
 ·cases h
 ·omega
theorem aaY{cN:aeo}{o:Obj}(ax:Below (b7.alloc o).drew.heap.size (b7.alloc o).drew cN):cN.heap[b7.heap.size]?=some o:=aU (show (b7.alloc o).drew.heap[b7.heap.size]?=some o from bY b7 o) ax
abbrev o'(P D:Nat)(u:Int)(e4 r2 cK:ada)(b7 x:aeo):Prop:=x.cell? ⟨P,0,none⟩=some (I u)∧ak x P 8 e4∧ak x D 5 r2∧ak x D 10 cK∧ao b7 b7 x
variable{e4 r2 cK:ada}
theorem xI{v:aeo}(ax:ao v v x)(h:o' P D u e4 r2 cK b7 v):o' P D u e4 r2 cK b7 x:=⟨bV ax h.1,bV ax h.2.1,bV ax h.2.2.1,bV ax h.2.2.2.1,h.2.2.2.2.trans (ax.mono h.2.2.2.2.size)⟩
theorem aaZ{v:aeo}(h:o' P D u e4 r2 cK b7 v)(o:Obj):o' P D u e4 r2 cK b7 (v.alloc o):=xI (a6 _ _) h
theorem aa0(hw:ao w w b7)(h:o' P D u e4 r2 cK b7 x):ao w w x:=hw.trans (h.2.2.2.2.mono hw.size)
theorem xJ(hB:P<b7.heap.size)(b2:D<b7.heap.size)(h:o' P D u e4 r2 cK b7 x)(i:Nat)(v:ada):o' P D u e4 r2 cK b7 (x.setCell (aj b7.heap.size i) v):=by
 have key:∀k j y,k<b7.heap.size→ak x k j y→(x.setCell (aj b7.heap.size i) v).cell? ⟨k,j,none⟩=some y:=by intro k j y ay hy;have e:(x.setCell (aj b7.heap.size i) v).heap[k]?=x.heap[k]?:=tn _ _ _ _ (by show k≠b7.heap.size;omega);simp only[World.cell?,e] at hy⊢;exact hy
 exact⟨key _ _ _ hB h.1,key _ _ _ hB h.2.1,key _ _ _ b2 h.2.2.1,key _ _ _ b2 h.2.2.2.1,h.2.2.2.2.setCell (p:=⟨b7.heap.size,i,none⟩) (bx _) _⟩
theorem aa1(hB:P<b7.heap.size)(b2:D<b7.heap.size)(h:o' P D u e4 r2 cK b7 x)(aD aL mO mP xB J6 J7 J8 J9 z7 J':ada):o' P D u e4 r2 cK b7 (((((((((((x.setCell (aj b7.heap.size 0) aD).setCell (aj b7.heap.size 1) aL).setCell (aj b7.heap.size 2) mO).setCell (aj b7.heap.size 3) mP).setCell (aj b7.heap.size 4) xB).setCell (aj b7.heap.size 5) J6).setCell (aj b7.heap.size 6) J7).setCell (aj b7.heap.size 7) J8).setCell (aj b7.heap.size 8) J9).setCell (aj b7.heap.size 9) z7).setCell (aj b7.heap.size 10) J'):=
 xJ hB b2 (xJ hB b2 (xJ hB b2 (xJ hB b2 (xJ hB b2 (xJ hB b2 (xJ hB b2 (xJ hB b2 (xJ hB b2 (xJ hB b2 (xJ hB b2 h _ _) _ _) _ _) _ _) _ _) _ _) _ _) _ _) _ _) _ _) _ _
theorem alU{S:afp}{b:Nat}(ax:¬S b)(v0 v1 v2 v3 v4 v5 v6 cj cD v9 v10:ada):aP S w (((((((((((w.setCell (aj b 0) v0).setCell (aj b 1) v1).setCell (aj b 2) v2).setCell (aj b 3) v3).setCell (aj b 4) v4).setCell (aj b 5) v5).setCell (aj b 6) v6).setCell (aj b 7) cj).setCell (aj b 8) cD).setCell (aj b 9) v9).setCell (aj b 10) v10):=((((((((((aP.set (a:=⟨b,0,none⟩) ax v0).trans (aP.set (a:=⟨b,1,none⟩) ax v1)).trans (aP.set (a:=⟨b,2,none⟩) ax v2)).trans (aP.set (a:=⟨b,3,none⟩) ax v3)).trans (aP.set (a:=⟨b,4,none⟩) ax v4)).trans (aP.set (a:=⟨b,5,none⟩) ax v5)).trans (aP.set (a:=⟨b,6,none⟩) ax v6)).trans (aP.set (a:=⟨b,7,none⟩) ax cj)).trans (aP.set (a:=⟨b,8,none⟩) ax cD)).trans (aP.set (a:=⟨b,9,none⟩) ax v9)).trans (aP.set (a:=⟨b,10,none⟩) ax v10)
theorem alV{b:Nat}{z0 z1 z2 z3 z4 z5 ns mN mm z9 lv:ada}{t:aai}(h:an w b (#[z0,z1,z2,z3,z4,z5,ns,mN,mm,z9,lv]) t)(v0 v1 v2 v3 v4 v5 v6 cj cD v9 v10:ada):(((((((((((w.setCell (aj b 0) v0).setCell (aj b 1) v1).setCell (aj b 2) v2).setCell (aj b 3) v3).setCell (aj b 4) v4).setCell (aj b 5) v5).setCell (aj b 6) v6).setCell (aj b 7) cj).setCell (aj b 8) cD).setCell (aj b 9) v9).setCell (aj b 10) v10).heap[b]?=some (.cells #[v0,v1,v2,v3,v4,v5,v6,cj,cD,v9,v10] t):=by have aS:(w.setCell (aj b 0) v0).heap[b]?=some (.cells #[v0,z1,z2,z3,z4,z5,ns,mN,mm,z9,lv] t):=dt (k:=b) (i:=0) v0 h;have av:((w.setCell (aj b 0) v0).setCell (aj b 1) v1).heap[b]?=some (.cells #[v0,v1,z2,z3,z4,z5,ns,mN,mm,z9,lv] t):=dt (k:=b) (i:=1) v1 aS;have az:(((w.setCell (aj b 0) v0).setCell (aj b 1) v1).setCell (aj b 2) v2).heap[b]?=some (.cells #[v0,v1,v2,z3,z4,z5,ns,mN,mm,z9,lv] t):=dt (k:=b) (i:=2) v2 av;have aC:((((w.setCell (aj b 0) v0).setCell (aj b 1) v1).setCell (aj b 2) v2).setCell (aj b 3) v3).heap[b]?=some (.cells #[v0,v1,v2,v3,z4,z5,ns,mN,mm,z9,lv] t):=dt (k:=b) (i:=3) v3 az;have bt:(((((w.setCell (aj b 0) v0).setCell (aj b 1) v1).setCell (aj b 2) v2).setCell (aj b 3) v3).setCell (aj b 4) v4).heap[b]?=some (.cells #[v0,v1,v2,v3,v4,z5,ns,mN,mm,z9,lv] t):=dt (k:=b) (i:=4) v4 aC;have cr:((((((w.setCell (aj b 0) v0).setCell (aj b 1) v1).setCell (aj b 2) v2).setCell (aj b 3) v3).setCell (aj b 4) v4).setCell (aj b 5) v5).heap[b]?=some (.cells #[v0,v1,v2,v3,v4,v5,ns,mN,mm,z9,lv] t):=dt (k:=b) (i:=5) v5 bt;have c4:(((((((w.setCell (aj b 0) v0).setCell (aj b 1) v1).setCell (aj b 2) v2).setCell (aj b 3) v3).setCell (aj b 4) v4).setCell (aj b 5) v5).setCell (aj b 6) v6).heap[b]?=some (.cells #[v0,v1,v2,v3,v4,v5,v6,mN,mm,z9,lv] t):=dt (k:=b) (i:=6) v6 cr;have ez:((((((((w.setCell (aj b 0) v0).setCell (aj b 1) v1).setCell (aj b 2) v2).setCell (aj b 3) v3).setCell (aj b 4) v4).setCell (aj b 5) v5).setCell (aj b 6) v6).setCell (aj b 7) cj).heap[b]?=some (.cells #[v0,v1,v2,v3,v4,v5,v6,cj,mm,z9,lv] t):=dt (k:=b) (i:=7) cj c4;have eS:(((((((((w.setCell (aj b 0) v0).setCell (aj b 1) v1).setCell (aj b 2) v2).setCell (aj b 3) v3).setCell (aj b 4) v4).setCell (aj b 5) v5).setCell (aj b 6) v6).setCell (aj b 7) cj).setCell (aj b 8) cD).heap[b]?=some (.cells #[v0,v1,v2,v3,v4,v5,v6,cj,cD,z9,lv] t):=dt (k:=b) (i:=8) cD ez;have fM:((((((((((w.setCell (aj b 0) v0).setCell (aj b 1) v1).setCell (aj b 2) v2).setCell (aj b 3) v3).setCell (aj b 4) v4).setCell (aj b 5) v5).setCell (aj b 6) v6).setCell (aj b 7) cj).setCell (aj b 8) cD).setCell (aj b 9) v9).heap[b]?=some (.cells #[v0,v1,v2,v3,v4,v5,v6,cj,cD,v9,lv] t):=dt (k:=b) (i:=9) v9 eS;have mw:(((((((((((w.setCell (aj b 0) v0).setCell (aj b 1) v1).setCell (aj b 2) v2).setCell (aj b 3) v3).setCell (aj b 4) v4).setCell (aj b 5) v5).setCell (aj b 6) v6).setCell (aj b 7) cj).setCell (aj b 8) cD).setCell (aj b 9) v9).setCell (aj b 10) v10).heap[b]?=some (.cells #[v0,v1,v2,v3,v4,v5,v6,cj,cD,v9,v10] t):=dt (k:=b) (i:=10) v10 fM;exact mw
def TR(p:cT)(cn:Int)(bz:au)(da:List Int):Except Nat (eg×Int)→Except Nat cT
 |.error e=>.error e
 |.ok (s,r)=>.ok {p with jv:=fun j=>if j=cn then some ⟨s,r,decide (bz=[67])&&(decide (da.length=1)|| decide (da.getD 1 0=0)),false,[]⟩ else p.jv j}
theorem alW(w0:aeo)(P:Nat)(p:cT)(B:Nat)(ca cn cP:Int)(dz:Bool)(bz d' ea eb bD:au)(da:List Int)(nq:Ja)(bn:Nat)(bv:ada)(w:aeo)(H:af (oE w0 P p w))(wZ:af (dH B w nq da))(gj:da.length≤1000000000)(OR:af (Eo w0 w bz da nq bn p.unit p.fU))(q':p.levels.length≤1000)(res:Except Nat cT)
  (dA:af ((if p.unit=0∨Da p cn=true then .error 4 else TR p cn bz da (oe bz da p.unit p.fU))=res)):
  Calls Tryz.prog 96 #[ah P 0,.agg (iU ca 10 cn cP dz bz d' ea eb bD (ad nq da.length bn) bv)] w fun e w'=>jM w0 P res e w':=by
 have TM:=H;obtain⟨R,m,L,fu,cv,ov,cx,ox,h⟩:=H.out;have H1:=aq h;obtain⟨n,hn⟩:=ar da.length;have bd:=aq hn;obtain⟨u,hu⟩:=ar p.unit;obtain⟨t,bE⟩:=ar (Da p cn);have Ar:=aq bE;have oT:=aq hu;obtain⟨e4,TS⟩:=ar L.e4;have alX:=aq TS;have uq:af (∀Z,ao w w Z→Calls Tryz.prog 142 #[aa ⟨bz.toArray⟩,ad nq n bn,I u,e4] Z (xH Z (oe bz da p.unit p.fU))):=by intro Z eY;have az:=h.below eY;have aC:=OR.out Z L.e4 L.bB eY az.hC az.xx az.aX;rw[hn,hu,TS] at aC;rw[hu];exact aC
 rw[hn];clear h H hn bE TS OR;go_enter OH,OI;go_upto_region 20 with fail;have dp:=aq (H1.out.below (a6 w (ai (iU ca 10 cn cP dz bz d' ea eb bD (ad nq n bn) bv) ia)));have cF:af ((w.alloc (ai (iU ca 10 cn cP dz bz d' ea eb bD (ad nq n bn) bv) ia)).heap[w.heap.size]?=some (.cells (iU ca 10 cn cP dz bz d' ea eb bD (ad nq n bn) bv) ia)):=bY _ _;have aI:af (ao w w (w.alloc (ai (iU ca 10 cn cP dz bz d' ea eb bD (ad nq n bn) bv) ia))):=a6 _ _;generalize w.alloc (.cells (iU ca 10 cn cP dz bz d' ea eb bD (ad nq n bn) bv) ia)=W at dp cF aI⊢;obtain⟨D,b2⟩:=ar w.heap.size;rw[b2] at cF⊢;clear b2;have aQ:ak W P 0 (I u):=by rw[←hu];exact cell_of (i:=0) dp.out.pl rfl
 have d2:ak W D 2 (I cn):=cell_of (i:=2) cF.out rfl;have p5:af ((if u=0∨t=true then .error 4 else TR p cn bz da (oe bz da p.unit p.fU))=res):=by show _=_;rw[←dA.out,hu,Ar.out]
 clear hu dA;by_cases xG:u=0
 ·subst xG;have hF: .error 4=res:=p5.out;go_wp2_with fail;go_ret;rw[←hF];exact⟨dp.out.aX,rfl⟩
 have TK:(u==0)=false:=beq_eq_false_iff_ne.2 xG;have rZ:af (oE w0 P p W):=TM.out.below aI.out;go_wp2_with fail;with_reducible refine (alG w0 P p cn W rZ q' t Ar).mono ?_
 rintro e b7 ⟨rfl,er⟩;have eo:=aq (dp.out.below er);have nt:=aq (aU cF.out er);have dV:=aq (aI.out.trans (er.mono aI.out.size));clear aQ d2 er dp cF aI rZ;cases t with
 |true=>
  have hF: .error 4=res:=(by rw[←p5.out,bb (.inr rfl)]);go_wp2_with fail;go_ret;rw[←hF];exact⟨eo.out.aX,rfl⟩
 |false=>
  obtain⟨a,ha⟩:=ar (oe bz da p.unit p.fU);have cy:=aq ha;have eO:af ((TR p cn bz da a)=res):=(by show _=_;rw[←p5.out,aW (by simp[xG]),ha]);rw[ha] at uq;clear ha;have aQ:ak b7 P 0 (I u):=(by rw[←oT.out];exact cell_of (i:=0) eo.out.pl rfl);have bU:ak b7 P 8 e4:=(by rw[←alX.out];exact cell_of (i:=8) eo.out.pl rfl);have d5:ak b7 D 5 (aa ⟨bz.toArray⟩):=cell_of (i:=5) nt.out rfl;have d10:ak b7 D 10 (ad nq n bn):=cell_of (i:=10) nt.out rfl;have uk:=lt_of_heap eo.out.pl;have rQ:=lt_of_heap nt.out;go_upto_region 22 with fail;cases a with
  |ok x=>
   obtain⟨⟨⟨k,⟨a1,aZ⟩,⟨a8,bh⟩,⟨fW,fX⟩,r,l⟩,s⟩,sZ⟩:=x;have fl:af (o' P D u e4 (aa ⟨bz.toArray⟩) (ad nq n bn) b7 b7):=⟨aQ,bU,d5,d10,Below.refl _ _⟩;have sG:af (o' P D u e4 (aa ⟨bz.toArray⟩) (ad nq n bn) b7 b7.drew):=xI (Below.refl _ _).drew fl.out;have Km:af (∀o,o' P D u e4 (aa ⟨bz.toArray⟩) (ad nq n bn) b7 (b7.alloc o)):=fun o=>xI (a6 _ _) fl.out;have Kn:af (∀o,o' P D u e4 (aa ⟨bz.toArray⟩) (ad nq n bn) b7 (b7.alloc o).drew):=fun o=>xI (a6 _ _).drew fl.out;clear aQ bU d5 d10;go_cut [8,9] (fun a b dw=>∃(T:Nat) (pl:Ja) (cl:Nat) (pp:Ja) (cp:Nat),a=.pointer (some (aj T 0))∧b=I 0∧af (ao b7 b7 dw)∧af (an dw T (#[I k,I a1,I aZ,I a8,I bh,I fW,I fX,I r,ad pl l.length cl,ad pp s.len cp,I sZ]) nu)∧af (dE (fun k=>b7.heap.size≤k) dw pl cl pp cp ⟨⟨k,(a1,aZ),(a8,bh),(fW,fX),r,l⟩,s⟩))
   case first=>
    go_region_held3 (fun Z=>o' P D u e4 (aa ⟨bz.toArray⟩) (ad nq n bn) b7 Z) (first|with_reducible exact fl.out|with_reducible exact sG.out|with_reducible exact Km.out _|with_reducible exact Kn.out _|with_reducible exact xI (by assumption) (by assumption)|with_reducible exact y5.out _|with_reducible exact Cf.out _ _ _ _ _ _ _ _ _ _ _|fail) (first|(go_at_call 142;with_reducible refine (uq.out _ (aa0 dV.out (by assumption))).mono ?_;intro e cN hA;obtain⟨dF,pl,cl,pp,cp,rfl,BP⟩:=hA.get;have r3:=aq (xI dF (by assumption));have y5:=aq (aaZ r3.out);have Cf:=aq (aa1 uk rQ r3.out);(try (have xg:an cN b7.heap.size (#[I 0,I 0,I 0,I 0,I 0,I 0,I 0,I 0,J 0,J 0,I 0]) nu:=(by with_reducible exact aaY dF);obtain⟨z0,z1,z2,z3,z4,z5,ns,mN,mm,z9,lv⟩:=pZ xg;have oJ:=fun i=>cJ xg i;have OS:=aq xg;clear xg)))|fail)
    ·go_wp2_with fail;go_meet;exact⟨_,pl,cl,pp,cp,rfl,rfl,r3.out.2.2.2.2.alloc r3.out.2.2.2.2.size _,bY _ _,BP.below (a6 _ _)⟩
    ·go_wp2_with fail;go_meet;have alY:dE (fun k=>b7.heap.size+1≤k) cN pl cl pp cp ⟨⟨k,(a1,aZ),(a8,bh),(fW,fX),r,l⟩,s⟩:=(BP.mono fun p3 _ h=>by have e:(b7.alloc (ai (#[I 0,I 0,I 0,I 0,I 0,I 0,I 0,I 0,J 0,J 0,I 0]) nu)).drew.heap.size=b7.heap.size+1:=Array.size_push _;rw[e] at h;exact h);exact⟨_,pl,cl,pp,cp,rfl,rfl,(Cf.out _ _ _ _ _ _ _ _ _ _ _).2.2.2.2,alV OS.out _ _ _ _ _ _ _ _ _ _ _,(alY.keep (alU (S:=fun k=>b7.heap.size+1≤k) (b:=b7.heap.size) (by omega) _ _ _ _ _ _ _ _ _ _ _)).mono fun p3 _ h=>by omega⟩
   case rest=>
    obtain⟨T,pl,cl,pp,cp,rfl,rfl,gb,Ek,xz⟩:=hcut;clear fl sG Km Kn uq uk rQ;have j0:=aq (eo.out.fresh gb.out);have vo:=aq (aU nt.out gb.out);have Ej:af (ao w w wc):=dV.out.trans (gb.out.mono dV.out.size);have uj:af (dE (fun k=>R k∨(b7.heap.size≤k∧k<wc.heap.size)) wc pl cl pp cp ⟨⟨k,(a1,aZ),(a8,bh),(fW,fX),r,l⟩,s⟩):=xz.out.lt.mono fun _ _ h=>.inr ⟨h.1,h.2⟩;generalize (fun k=>R k∨(b7.heap.size≤k∧k<wc.heap.size))=awU at j0 uj;obtain⟨rd,mQ⟩:=ar (decide (bz=[67])&&(decide (da.length=1)|| decide (da.getD 1 0=0)));have aO:af (.ok {p with jv:=fun j=>if j=cn then some ⟨⟨⟨k,(a1,aZ),(a8,bh),(fW,fX),r,l⟩,s⟩,sZ,rd,false,[]⟩ else p.jv j}=res):=(by show _=_;rw[←eO.out,←mQ];rfl);clear eO;go_upto_region 25 with fail;go_cut [10] (fun a dw=>a=U rd∧wc=dw)
    case first=>
     have d5:ak wc D 5 (aa ⟨bz.toArray⟩):=cell_of (i:=5) vo.out rfl;have d10:ak wc D 10 (ad nq n bn):=cell_of (i:=10) vo.out rfl;by_cases hc:bz=[67]
     ·have TT:(bz==[67])=true:=(by rw[hc];rfl);have D2:n=1∨n=2:=(by rw[←bd.out];exact alT (by rw[←hc];exact cy.out));rcases D2 with rfl|rfl
      ·have Ko:rd=true:=(by rw[←mQ,hc,bd.out];rfl);subst Ko;go_wp2_with fail;go_meet;exact⟨rfl,rfl⟩
      ·obtain⟨b,o,cs,aR,_,aK,iw⟩:=wZ.out (by rw[bd.out];decide);subst aR;have av:=iw 1 (by rw[bd.out];decide);obtain⟨v1,sN⟩:=ar (da[1]'(by rw[bd.out];decide));rw[sN] at av;have aC:=aU aK Ej.out;have OT:ak wc b (o+1) (I v1):=(by simp[World.cell?,aC,av]);have Ko:rd=(v1==0):=(by rw[←mQ,hc,bd.out,Gt,mx (by rw[bd.out];decide),sN];rfl);subst Ko;clear iw aK av aC sN mQ;go_wp2_with fail;go_meet;exact⟨rfl,rfl⟩
     ·have TT:(bz==[67])=false:=beq_eq_false_iff_ne.2 hc;have Ko:rd=false:=(by rw[←mQ,ey hc];rfl);subst Ko;go_wp2_with fail;go_meet;exact⟨rfl,rfl⟩
    case rest=>
     obtain⟨rfl,rfl⟩:=hcut;have d2:ak wc D 2 (I cn):=cell_of (i:=2) vo.out rfl;have bZ:ak wc P 6 (.map (some m)):=cell_of (i:=6) j0.out.pl rfl;obtain⟨t0,t1,t2,t3,t4,t5,t6,t7,t8,t9,t10⟩:=pZ Ek.out;have xA:=aq (j0.out.below (Below.refl _ _).drew);obtain⟨Bf,Gd,sX,zX⟩:=qQ.aka (a:=⟨⟨⟨k,(a1,aZ),(a8,bh),(fW,fX),r,l⟩,s⟩,sZ,rd,false,[]⟩) (v:=(.agg #[I k,I a1,I aZ,I a8,I bh,I fW,I fX,I r,ad pl l.length cl,ad pp s.len cp,I sZ,U rd,U false,J 0])) xA.out.mp (fun h=>(xA.out.ml _ h).Ta rfl) cn ⟨pl,cl,pp,cp,none,0,rfl,uj.out.below (Below.refl _ _).drew,.nil _ _ _,bx _⟩;have pG:=aq sX;have lS:=aq zX;clear sX zX mQ;go_upto_region 26 with fail;go_region;go_wp2_with fail;go_ret;rw[←aO.out];exact jM.B0 rfl (xA.out.alS lS.out pG.out)
  |error OU=>
   have hF: .error OU=res:=eO.out;have fl:af (o' P D u e4 (aa ⟨bz.toArray⟩) (ad nq n bn) b7 b7):=⟨aQ,bU,d5,d10,Below.refl _ _⟩;have sG:af (o' P D u e4 (aa ⟨bz.toArray⟩) (ad nq n bn) b7 b7.drew):=xI (Below.refl _ _).drew fl.out;have Km:af (∀o,o' P D u e4 (aa ⟨bz.toArray⟩) (ad nq n bn) b7 (b7.alloc o)):=fun o=>xI (a6 _ _) fl.out;have Kn:af (∀o,o' P D u e4 (aa ⟨bz.toArray⟩) (ad nq n bn) b7 (b7.alloc o).drew):=fun o=>xI (a6 _ _).drew fl.out;clear aQ bU d5 d10;go_cut [9] (fun b dw=>b=I OU∧OU≠0∧af (ao b7 b7 dw))
   case first=>
    go_region_held3 (fun Z=>o' P D u e4 (aa ⟨bz.toArray⟩) (ad nq n bn) b7 Z) (first|with_reducible exact fl.out|with_reducible exact sG.out|with_reducible exact Km.out _|with_reducible exact Kn.out _|with_reducible exact xI (by assumption) (by assumption)|with_reducible exact y5.out _|with_reducible exact Cf.out _ _ _ _ _ _ _ _ _ _ _|fail) (first|(go_at_call 142;with_reducible refine (uq.out _ (aa0 dV.out (by assumption))).mono ?_;intro e cN hA;obtain⟨dF,jt,rfl⟩:=hA.no;have r3:=aq (xI dF (by assumption));have y5:=aq (aaZ r3.out);have Cf:=aq (aa1 uk rQ r3.out);(try (have xg:an cN b7.heap.size (#[I 0,I 0,I 0,I 0,I 0,I 0,I 0,I 0,J 0,J 0,I 0]) nu:=(by with_reducible exact aaY dF);obtain⟨z0,z1,z2,z3,z4,z5,ns,mN,mm,z9,lv⟩:=pZ xg;have oJ:=fun i=>cJ xg i;have OS:=aq xg;clear xg)))|fail)
    ·go_wp2_with fail;go_meet;exact⟨rfl,jt,r3.out.2.2.2.2.alloc r3.out.2.2.2.2.size _⟩
    ·go_wp2_with fail;go_meet;exact⟨rfl,jt,(Cf.out _ _ _ _ _ _ _ _ _ _ _).2.2.2.2⟩
   case rest=>
    obtain⟨rfl,awV,gb⟩:=hcut;have OV:((OU:Int) !=0)=true:=(by rw[wK];omega);have j0:=aq (eo.out.below gb.out);clear uq uk rQ fl sG Km Kn;go_wp2_with fail;go_ret;rw[←hF];exact⟨j0.out.aX,rfl⟩
theorem alZ(w0:aeo)(P:Nat)(p:cT)(ca eZ cn cP:Int)(dz:Bool)(bz d' ea eb bD:au)(da:List Int)(fN:List eC)(cK bv:ada)(w:aeo)(H:af (oE w0 P p w))(y1:p.region=false)
  (Ep:(eZ=8∨eZ=9∨eZ=10∨eZ=19)→∀Z,ao w w Z→Calls Tryz.prog 96 #[ah P 0,.agg (iU ca eZ cn cP dz bz d' ea eb bD cK bv)] Z fun e w'=>jM w0 P (Db p ⟨eZ,cn,cP,dz,bz,d',ea,eb,bD,da,fN⟩) e w')
  (Er:eZ=6→∀Z,ao w w Z→Calls Tryz.prog 97 #[ah P 0,.agg (iU ca eZ cn cP dz bz d' ea eb bD cK bv)] Z fun e w'=>jM w0 P (FP p ⟨eZ,cn,cP,dz,bz,d',ea,eb,bD,da,fN⟩) e w')
  (r0:eZ=7→∀Z,ao w w Z→Calls Tryz.prog 99 #[ah P 0,.agg (iU ca eZ cn cP dz bz d' ea eb bD cK bv)] Z fun e w'=>jM w0 P (sr p ⟨eZ,cn,cP,dz,bz,d',ea,eb,bD,da,fN⟩) e w')
  (ay:(eZ=8∨eZ=9∨eZ=10∨eZ=19)∨eZ=6∨eZ=7∨eZ=5) (res:Except Nat cT) (dA:af (rl p ⟨eZ,cn,cP,dz,bz,d',ea,eb,bD,da,fN⟩=res)):
  Calls Tryz.prog 64 #[ah P 0,.agg (iU ca eZ cn cP dz bz d' ea eb bD cK bv)] w fun e w'=>jM w0 P res e w':=by
 have Ep:=aq Ep;have Er:=aq Er;have r0:=aq r0;obtain⟨R,m,L,fu,cv,ov,cx,ox,h⟩:=H.out;have H1:=aq h;have cQ:=aq ay;obtain⟨h3,G0⟩:=ar p.ended;have bl:=aq G0;have B8:=aq y1;clear h H ay G0 y1;go_enter Tryz.func64,Tryz.ntmps64;go_upto_region 1 with fail;have dp:=aq (H1.out.below (a6 w (ai (iU ca eZ cn cP dz bz d' ea eb bD cK bv) ia)));have cF:af ((w.alloc (ai (iU ca eZ cn cP dz bz d' ea eb bD cK bv) ia)).heap[w.heap.size]?=some (.cells (iU ca eZ cn cP dz bz d' ea eb bD cK bv) ia)):=bY _ _;have aI:af (ao w w (w.alloc (ai (iU ca eZ cn cP dz bz d' ea eb bD cK bv) ia))):=a6 _ _;generalize w.alloc (.cells (iU ca eZ cn cP dz bz d' ea eb bD cK bv) ia)=W at dp cF aI⊢;obtain⟨D,b2⟩:=ar w.heap.size;rw[b2] at cF⊢;clear b2 H1;have OW:ak W P 24 (U h3):=by rw[←bl.out];exact cell_of (i:=24) dp.out.pl rfl
 have Ei:ak W P 19 (U false):=by rw[←B8.out];exact cell_of (i:=19) dp.out.pl rfl
 cases h3 with
 |true=>
  have hF: .error 4=res:=(by rw[←dA.out];unfold rl;rw[bl.out];rfl);go_wp2_with fail;go_ret;rw[←hF];exact⟨dp.out.aX,rfl⟩
 |false=>
  have d0:=cell_of (i:=0) cF.out rfl;have d1:=cell_of (i:=1) cF.out rfl;have d2:=cell_of (i:=2) cF.out rfl;have d3:=cell_of (i:=3) cF.out rfl;have d4:=cell_of (i:=4) cF.out rfl;have d5:=cell_of (i:=5) cF.out rfl;have d6:=cell_of (i:=6) cF.out rfl;have d7:=cell_of (i:=7) cF.out rfl;have d8:=cell_of (i:=8) cF.out rfl;have d9:=cell_of (i:=9) cF.out rfl;have d10:=cell_of (i:=10) cF.out rfl;have d11:=cell_of (i:=11) cF.out rfl;rcases cQ.out with aF|aF|aF|aF
  ·have bC:=aq (Ep.out aF);have aO:af (Db p ⟨eZ,cn,cP,dz,bz,d',ea,eb,bD,da,fN⟩=res):=by show _=_;rw[←dA.out];unfold rl;rw[bl.out];rcases aF with rfl|rfl|rfl|rfl<;>simp
   rw[aO.out] at bC;clear Ep Er r0 cQ dA aO;rcases aF with rfl|rfl|rfl|rfl
   all_goals
    go_wp2_with fail;with_reducible refine (bC.out _ aI.out).mono ?_
    intro e cN mn;obtain⟨v6,rfl⟩:=mn.ret;clear OW Ei d0 d1 d2 d3 d4 d5 d6 d7 d8 d9 d10 d11;go_wp2_with fail;go_ret;exact mn
  ·have bC:=aq (Er.out aF);have aO:af (FP p ⟨eZ,cn,cP,dz,bz,d',ea,eb,bD,da,fN⟩=res):=(by show _=_;rw[←dA.out];unfold rl;rw[bl.out,B8.out];subst aF;simp);rw[aO.out] at bC;clear Ep Er r0 cQ dA aO;subst aF;go_wp2_with fail;with_reducible refine (bC.out _ aI.out).mono ?_
   intro e cN mn;obtain⟨v6,rfl⟩:=mn.ret;clear OW Ei d0 d1 d2 d3 d4 d5 d6 d7 d8 d9 d10 d11;go_wp2_with fail;go_ret;exact mn
  ·have bC:=aq (r0.out aF);have aO:af (sr p ⟨eZ,cn,cP,dz,bz,d',ea,eb,bD,da,fN⟩=res):=(by show _=_;rw[←dA.out];unfold rl;rw[bl.out,B8.out];subst aF;simp);rw[aO.out] at bC;clear Ep Er r0 cQ dA aO;subst aF;go_wp2_with fail;with_reducible refine (bC.out _ aI.out).mono ?_
   intro e cN mn;obtain⟨v6,rfl⟩:=mn.ret;clear OW Ei d0 d1 d2 d3 d4 d5 d6 d7 d8 d9 d10 d11;go_wp2_with fail;go_ret;exact mn
  ·subst aF;have aO:af ((if p.levels≠[] then .error 4 else .ok {p with ended:=true})=res):=(by show _=_;rw[←dA.out];unfold rl;rw[bl.out,B8.out];simp);clear Ep Er r0 cQ dA;obtain⟨ev,kJ,lc,gE,hs,e4,bB⟩:=L;have pP:kJ=p.levels.length+1:=dp.out.qS;have J2:ak W P 21 (ad (some (aj ev 0)) kJ lc):=cell_of (i:=21) dp.out.pl rfl;have g24:=cJ dp.out.pl 24;by_cases aA:p.levels=[]
   ·have hF: .ok {p with ended:=true}=res:=(by rw[←aO.out,aW (by simp[aA])]);have av:kJ=1:=(by rw[pP,aA];rfl);subst av;clear pP;go_wp2_with fail;go_ret;rw[←hF];exact jM.B0 rfl (dp.out.GF (aP.set (a:=⟨P,24,none⟩) (fun ay=>ay rfl) _) (by have:=dt (k:=P) (i:=24) (U true) dp.out.pl;exact this) rfl rfl rfl rfl rfl)
   ·have hF: .error 4=res:=by rw[←aO.out,bb aA]
    have av:1<kJ:=by
     cases hc:p.levels with
     |nil=>exact absurd hc aA
     |cons a l=>rw[pP,hc,fY];omega
    have JK:(kJ:Int)> 1:=(by omega);clear pP;go_wp2_with fail;go_ret;rw[←hF];exact⟨dp.out.aX,rfl⟩
abbrev Es(k n:Int):Prop:=(k=8∨k=9∨k=10∨k=19)∨k=6∨(k=7∧n=3)∨k=5
structure Inv(n:Nat)(p:cT):Prop where
 bD:oH p
 hC:p.fU.length≤n
 gS:p.levels=[]
 rg:p.region=false
theorem Inv.up(h:Inv n p):Inv (n+1) p:=⟨h.bD,OQ h.hC,h.gS,h.rg⟩
theorem Inv.same(h:Inv n p)(av:q.top=p.top)(az:q.levels=p.levels)(aC:q.jv=p.jv)(bt:q.made=p.made)(cr:q.budget=p.budget)(c4:q.fU=p.fU)(ez:q.region=p.region)(eS:B7 q.at_):Inv n q:=by
 refine⟨⟨?_,?_,?_,?_,?_,?_,eS,?_⟩,?_,?_,?_⟩
 ·rw[av,az,bt];exact h.bD.gS
 ·rw[aC,bt];exact h.bD.ap
 ·rw[bt];exact h.bD.GK
 ·rw[bt];exact h.bD.md
 ·rw[cr];exact h.bD.br
 ·rw[az];exact h.bD.oF
 ·rw[c4];exact h.bD.hC
 ·rw[c4];exact h.hC
 ·rw[az];exact h.gS
 ·rw[ez];exact h.rg
theorem Inv.oZ{n:Nat}{p q:cT}{d:Bool}{s:eg}(h:Inv n p)(aR:ef.oZ p d s=.ok q):Inv n q:=by have cz:=h.bD.oZ aR;obtain⟨rfl,_⟩:=To aR;exact⟨cz,h.hC,h.gS,h.rg⟩
theorem Inv.kG{n:Nat}{p q:cT}{d:Bool}{s:eg}{t:gN}(h:Inv n p)(aR:ef.kG p d s t=.ok q):Inv n q:=by
 unfold ef.kG at aR;split at aR
 ·cases aR
 ·exact h.oZ aR
theorem Inv.lJ{n:Nat}{f:Bool→Bool}{t:gN}:∀{l:List eu} {p q:cT},Inv n p→ef.lJ f t l p=.ok q→Inv n q
 |[],p,q,h,aR=>by unfold ef.lJ at aR;injection aR with aR;exact aR ▸ h
 |o::l,p,q,h,aR=>by
  unfold ef.lJ at aR;split at aR
  ·cases aR
  ·rename_i r hr;exact Inv.lJ (h.kG hr) aR
theorem Inv.al0{t:b3}(h:Inv n p)(aR:wW p t=.ok q):Inv n q:=by
 unfold wW at aR;split at aR
 ·cases aR
 ·split at aR
  ·cases aR
  ·split at aR
   ·exact h.kG aR
   ·exact h.lJ aR
variable{c:C}
theorem Inv.oper(h:Inv n p)(hn:c.n=3)(aR:sr p c=.ok q):Inv (n+1) q:=by
 by_cases hu:p.unit=0∨p.formed=false
 ·unfold sr at aR;rw[bb hu] at aR;cases aR
 have key:∃dZ:Nat→Int,vO p c dZ 4:=by
  unfold sr at aR;rw[aW hu] at aR;cases aS:kc p c.x p.at_.1 with
  |none=>rw[aS] at aR;cases aR
  |some a=>
   cases av:kc p c.y p.at_.2 with
   |none=>rw[aS,av] at aR;cases aR
   |some b=>
    cases az:kc p c.i 0 with
    |none=>rw[aS,av,az] at aR;cases aR
    |some d=>
     cases aC:kc p c.j 0 with
     |none=>rw[aS,av,az,aC] at aR;cases aR
     |some e=>
      refine⟨fun|0=>a|1=>b|2=>d|3=>e|_=>0,fun i hi=>?_,fun i hi=>?_⟩
      ·rcases (show i=0∨i=1∨i=2∨i=3 by omega) with rfl|rfl|rfl|rfl
       ·exact aS
       ·exact av
       ·exact az
       ·exact aC
      ·match i,hi with
       |i+4,_=>rfl
 obtain⟨dZ,aF⟩:=key;have lZ:=aF.B7 h.bD.at_;rw[aaL hn hu aF] at aR;have hF:∀r,Inv (n+1) r→Inv (n+1) {r with at_:=(dZ 0,dZ 1)}:=fun r hr=>hr.same rfl rfl rfl rfl rfl rfl rfl ⟨(lZ 0 (by decide)).1,(lZ 0 (by decide)).2,(lZ 1 (by decide)).1,(lZ 1 (by decide)).2⟩;cases hx:wW p (dZ 0,dZ 1) with
 |error k=>rw[hx] at aR;cases aR
 |ok r=>
  rw[hx] at aR;have aR:Except.ok {r with at_:=(dZ 0,dZ 1)}=.ok q:=aR;injection aR with aR;rw[←aR];exact hF _ (h.al0 hx).up
theorem Inv.define(h:Inv n p)(hn:n<1000000)(aR:Db p c=.ok q):Inv (n+1) q:=by
 have sm:∀r:cT,r.top=p.top→r.levels=p.levels→r.jv=p.jv→r.made=p.made→r.budget=p.budget→r.fU=p.fU→r.region=p.region→r.at_=p.at_→Inv (n+1) r:=fun r av az aC bt cr c4 ez eS=>h.up.same av az aC bt cr c4 ez (by rw[eS];exact h.bD.at_);have av:=h.up;unfold Db at aR;split at aR
 ·split at aR
  ·cases aR
  ·injection aR with aR;subst aR;exact sm _ rfl rfl rfl rfl rfl rfl rfl rfl
 split at aR
 ·split at aR
  ·cases aR
  ·injection aR with aR;subst aR;exact sm _ rfl rfl rfl rfl rfl rfl rfl rfl
 split at aR
 ·split at aR
  ·cases aR
  ·injection aR with aR;subst aR;have hm:(p.fU++[(⟨c.t,c.blocks⟩:lI)]).length≤n+1:=(by rw[iv];have:=h.hC;show _+1≤n+1;omega);exact⟨⟨h.bD.gS,h.bD.ap,h.bD.GK,h.bD.md,h.bD.br,h.bD.oF,h.bD.at_,by show (p.fU++[(⟨c.t,c.blocks⟩:lI)]).length≤1000000;omega⟩,hm,h.gS,h.rg⟩
 ·unfold oY at aR;split at aR
  ·cases aR
  ·split at aR
   ·cases aR
   ·injection aR with aR;subst aR;refine⟨⟨h.bD.gS,fun k a ha=>?_,h.bD.GK,h.bD.md,h.bD.br,h.bD.oF,h.bD.at_,h.bD.hC⟩,av.hC,h.gS,h.rg⟩;simp only at ha;split at ha
    ·injection ha with ha;subst ha;exact h.bD.GK
    ·exact h.bD.ap k a ha
theorem Inv.do(h:Inv n p)(hn:n<1000000)(ay:Es c.k c.n)(aR:rl p c=.ok q):Inv (n+1) q:=by
 have sm:∀r:cT,r.top=p.top→r.levels=p.levels→r.jv=p.jv→r.made=p.made→r.budget=p.budget→r.fU=p.fU→r.region=p.region→r.at_=p.at_→Inv (n+1) r:=fun r av az aC bt cr c4 ez eS=>h.up.same av az aC bt cr c4 ez (by rw[eS];exact h.bD.at_);unfold rl at aR;rw[h.rg] at aR;by_cases aN:p.ended=true
 ·rw[bb aN] at aR;cases aR
 rw[aW aN,aW (by simp),aW (by omega)] at aR;rcases ay with ay|ay|ay|ay
 ·rw[bb ay] at aR;exact h.define hn aR
 ·rw[aW (by omega),bb (by omega)] at aR;unfold FP at aR;rw[aW (by omega),aW (by omega),bb ay] at aR;split at aR
  ·cases aR
  ·injection aR with aR;subst aR;exact sm _ rfl rfl rfl rfl rfl rfl rfl rfl
 ·rw[aW (by omega),aW (by omega),aW (by omega),bb ay.1] at aR;exact h.oper ay.2 aR
 ·rw[aW (by omega),aW (by omega),aW (by omega),aW (by omega),aW (by omega),aW (by omega),aW (by omega),aW (by omega),bb ay] at aR;split at aR
  ·cases aR
  ·injection aR with aR;subst aR;exact sm _ rfl rfl rfl rfl rfl rfl h.rg.symm rfl
theorem Eo.below{w0:aeo}{bz:au}{da:List Int}{nq:Ja}{bn:Nat}{ms:List lI}(h:Eo w0 w bz da nq bn u ms)(ax:ao w w w'):Eo w0 w' bz da nq bn u ms:=fun Z e4 bB av az aC bt=>h Z e4 bB (ax.trans (av.mono ax.size)) az aC bt
theorem al1(w0:aeo)(P:Nat)(p:cT)(B n:Nat)(c:C)(ca:Int)(nq:Ja)(et:Nat)(lR:Ja)(y7:Nat)(w:aeo)(H:af (oE w0 P p w))(hi:Inv n p)(hn:n<1000000)(wZ:af (dH B w nq c.bX))(gj:c.bX.length≤1000000000)(rb:∀x∈c.bX,-4611686018427387904≤x∧x≤4611686018427387904)(ks:af (gY 0 w0 lR c.blocks))(kK:af (∀i,(nW c.x c.y c.i c.j i).length≤1000000000))(OR:c.k=10→Eo w0 w c.t c.bX nq et p.unit p.fU)(ay:Es c.k c.n)(res:Except Nat cT)(dA:af (rl p c=res)):
  Calls Tryz.prog 64 #[ah P 0,lu c ca (ad nq c.bX.length et) (ad lR c.blocks.length y7)] w fun e w'=>jM w0 P res e w':=by
 obtain⟨eZ,cn,cP,dz,bz,d',ea,eb,bD,da,fN⟩:=c;refine alZ w0 P p ca eZ cn cP dz bz d' ea eb bD da fN (ad nq da.length et) (ad lR fN.length y7) w H hi.rg ?_ ?_ ?_ (by have ay:Es eZ cn:=ay;omega) res dA
 ·intro aF Z eY;have aV:=aq (H.out.below eY);rcases aF with rfl|rfl|rfl|rfl
  ·exact alB w0 P p ca cn cP dz bz d' ea eb bD _ _ Z aV _ (aq (Eq.refl _))
  ·exact alD w0 P p ca cn cP dz bz d' ea eb bD _ _ Z aV _ (aq (Eq.refl _))
  ·refine alW w0 P p B ca cn cP dz bz d' ea eb bD da nq et _ Z aV (wZ.out.below eY) gj ((OR rfl).below eY) hi.bD.Tn _ ?_;show _=oY p _;unfold oY;simp only;split
   ·rfl
   ·cases hx:oe bz da p.unit p.fU with
    |error e=>rfl
    |ok x=>rfl
  ·exact alO w0 P p ca cn cP dz bz d' ea eb bD _ fN lR y7 Z aV ks hi.bD.hC _ (aq (Eq.refl _))
 ·intro aF Z eY;exact alA w0 P p ⟨eZ,cn,cP,dz,bz,d',ea,eb,bD,da,fN⟩ ca _ _ Z (H.out.below eY) aF _ (aq (Eq.refl _))
 ·intro aF Z eY;exact alu w0 P p ⟨eZ,cn,cP,dz,bz,d',ea,eb,bD,da,fN⟩ ca _ _ Z (H.out.below eY) (by have ay:Es eZ cn:=ay;show cn=3;omega) hi.bD kK _ (aq (Eq.refl _))
end dd
namespace iS
open Go.RowKit kR ig n1 Mem pN ct
def s4(l:List C):List (Nat×C):=l.map fun c=>(0,c)
def TU(res:Except Nat (List C))(w:aeo)(e:Ending)(w':aeo):Prop:=Below w.heap.size w w'∧match res with
 |.ok l=>∃v,e=ab (.tuple #[v,I 0])∧jL w.heap.size w' v (s4 l)
 |.error k=>e=ab (.tuple #[bN,I (k:Int)])
theorem al2(c:C)(hn:c.bX=[])(ax:c.blocks=[])(w:aeo):
  Calls Tryz.prog 93 #[lu c 0 bN bN] w (TU (.ok [c]) w):=by
 have bd:=aq hn;have aI:=aq ax;clear hn ax;unfold lu jm;have ee:af (jL w.heap.size ((w.alloc (ai (#[I 0,I c.k,I c.n,I c.m,U c.on,aa ⟨c.t.toArray⟩,aa ⟨c.x.toArray⟩,aa ⟨c.y.toArray⟩,aa ⟨c.i.toArray⟩,aa ⟨c.j.toArray⟩,bN,bN]) 104)).alloc (ai (#[I 0,I c.k,I c.n,I c.m,U c.on,aa ⟨c.t.toArray⟩,aa ⟨c.x.toArray⟩,aa ⟨c.y.toArray⟩,aa ⟨c.i.toArray⟩,aa ⟨c.j.toArray⟩,bN,bN]) 104)) (ag (w.heap.size+1) 0 1 1) (s4 [c])):=by have h:=fJ (w.alloc (ai (#[I 0,I c.k,I c.n,I c.m,U c.on,aa ⟨c.t.toArray⟩,aa ⟨c.x.toArray⟩,aa ⟨c.y.toArray⟩,aa ⟨c.i.toArray⟩,aa ⟨c.j.toArray⟩,bN,bN]) 104)) (ai (#[I 0,I c.k,I c.n,I c.m,U c.on,aa ⟨c.t.toArray⟩,aa ⟨c.x.toArray⟩,aa ⟨c.y.toArray⟩,aa ⟨c.i.toArray⟩,aa ⟨c.j.toArray⟩,bN,bN]) 104);rw[show (w.alloc (ai (#[I 0,I c.k,I c.n,I c.m,U c.on,aa ⟨c.t.toArray⟩,aa ⟨c.x.toArray⟩,aa ⟨c.y.toArray⟩,aa ⟨c.i.toArray⟩,aa ⟨c.j.toArray⟩,bN,bN]) 104)).heap.size=w.heap.size+1 by simp] at h;refine⟨_,⟨rfl,.inr ⟨w.heap.size+1,1,_,rfl,mv _,h,bx _,by unfold maxLen;omega,rfl,?_⟩⟩,.cons (p:=none) (q:=none) (k:=0) (m:=0) (by rw[bd.out];exact dH.nil _ _ _) (by rw[aI.out];exact gY.nil _ _ _) .nil⟩;simp only[bd.out,aI.out];rfl
 have e7:af (ao w w ((w.alloc (ai (#[I 0,I c.k,I c.n,I c.m,U c.on,aa ⟨c.t.toArray⟩,aa ⟨c.x.toArray⟩,aa ⟨c.y.toArray⟩,aa ⟨c.i.toArray⟩,aa ⟨c.j.toArray⟩,bN,bN]) 104)).alloc (ai (#[I 0,I c.k,I c.n,I c.m,U c.on,aa ⟨c.t.toArray⟩,aa ⟨c.x.toArray⟩,aa ⟨c.y.toArray⟩,aa ⟨c.i.toArray⟩,aa ⟨c.j.toArray⟩,bN,bN]) 104))):=((Below.refl _ _).alloc (bx _) _).alloc (by simp) _;go_enter Tryz.func93,Tryz.ntmps93;go_wp2_with fail;go_ret2;exact⟨e7.out,_,rfl,ee.out⟩
theorem TV(k n m:Int)(on:Bool)(t x y i j:au)(w:aeo):
  Calls Tryz.prog 93 #[.agg #[I 0,I k,I n,I m,U on,aa ⟨t.toArray⟩,aa ⟨x.toArray⟩,aa ⟨y.toArray⟩,aa ⟨i.toArray⟩,aa ⟨j.toArray⟩,J 0,J 0]] w (TU (.ok [⟨k,n,m,on,t,x,y,i,j,[],[]⟩]) w):=
 al2 ⟨k,n,m,on,t,x,y,i,j,[],[]⟩ rfl rfl w
end iS
